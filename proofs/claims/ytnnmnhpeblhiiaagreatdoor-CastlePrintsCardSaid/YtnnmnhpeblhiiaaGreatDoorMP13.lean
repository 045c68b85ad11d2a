/- A part of the proof: the walks of the functions that it reaches. TIGHT. -/
import Derived.Test.YtnnmnhpeblhiiaaGreatDoorMP12
set_option linter.unusedVariables false
set_option linter.unusedSimpArgs false
namespace Go.Proofs.YtnnmnhpeblhiiaaGreatDoor.C
open Go.RowKit Go.Proofs.YtnnmnhpeblhiiaaGreatDoorW.PrintWords Go.Proofs.YtnnmnhpeblhiiaaGreatDoorW.PrintLast Go.Proofs.YtnnmnhpeblhiiaaGreatDoorW.PrintMore
set_option linter.unusedVariables false
set_option linter.unusedSimpArgs false
set_option maxHeartbeats 16000000
set_option maxRecDepth 100000
section
attribute [local go_sem] max2_int min2_int max_two min_two
attribute [local go_sem high] eqA48
mutual
def q4_SameBasins.j0 : Nat → Bool → List (S126) → Int → List (S48) → Int → Int → List (S126) → Int → List (S48) → Int → Int → Option (Bool)
 | 0,_,_,_,_,_,_,_,_,_,_,_ => none
 | k + 1,x34,x371000,x371001,x371002,x371003,x371004,x372000,x372001,x372002,x372003,x372004 => if x34 = true then (some false) else (q4_SameBasins.l0 k 0 x371000 x371001 x371002 x371003 x371004 x372000 x372001 x372002 x372003 x372004)
def q4_SameBasins.l0 : Nat → Int → List (S126) → Int → List (S48) → Int → Int → List (S126) → Int → List (S48) → Int → Int → Option (Bool)
 | 0,_,_,_,_,_,_,_,_,_,_,_ => none
 | k + 1,x5,x371000,x371001,x371002,x371003,x371004,x372000,x372001,x372002,x372003,x372004 => if x5 < (x371002.length : Int) then (if 0 ≤ x5 then (if x5 < (x372002.length : Int) then (if (!(((rd_T48 x371002 x5).f0) == ((rd_T48 x372002 x5).f0)) || (!(((rd_T48 x371002 x5).f1) == ((rd_T48 x372002 x5).f1)))) = true then (some false) else (q4_SameBasins.l0 k (wrap64 (x5 + 1)) x371000 x371001 x371002 x371003 x371004 x372000 x372001 x372002 x372003 x372004)) else (none)) else (none)) else (some true)
end
def q4_SameBasins.f (k : Nat) (l0_0 : List (S126)) (a0_1 : Int) (l0_2 : List (S48)) (a0_3 : Int) (a0_4 : Int) (l1_0 : List (S126)) (a1_1 : Int) (l1_2 : List (S48)) (a1_3 : Int) (a1_4 : Int) : Option (Bool) := (q3_SameTables.f k l0_0 a0_1 l1_0 a1_1).bind fun t372 => (if t372 = true then (if (l0_2.length : Int) = (l1_2.length : Int) then (if a0_3 = a1_3 then (q4_SameBasins.j0 k (a0_4 != a1_4) l0_0 a0_1 l0_2 a0_3 a0_4 l1_0 a1_1 l1_2 a1_3 a1_4) else (q4_SameBasins.j0 k true l0_0 a0_1 l0_2 a0_3 a0_4 l1_0 a1_1 l1_2 a1_3 a1_4)) else (q4_SameBasins.j0 k true l0_0 a0_1 l0_2 a0_3 a0_4 l1_0 a1_1 l1_2 a1_3 a1_4)) else (q4_SameBasins.j0 k true l0_0 a0_1 l0_2 a0_3 a0_4 l1_0 a1_1 l1_2 a1_3 a1_4))
theorem q4_SameBasins.calls (k : Nat) (A0_0 : Option Addr) (c0_0 : Nat) (l0_0 : List (S126)) (a0_1 : Int) (A0_2 : Option Addr) (c0_2 : Nat) (l0_2 : List (S48)) (a0_3 : Int) (a0_4 : Int) (A1_0 : Option Addr) (c1_0 : Nat) (l1_0 : List (S126)) (a1_1 : Int) (A1_2 : Option Addr) (c1_2 : Nat) (l1_2 : List (S48)) (a1_3 : Int) (a1_4 : Int) (r : Bool) (w : World) (hr0_0 : Kd.C k126 w A0_0 l0_0.length l0_0) (hc0_0 : l0_0.length ≤ c0_0) (hr0_2 : Kd.C k48 w A0_2 l0_2.length l0_2) (hc0_2 : l0_2.length ≤ c0_2) (hr1_0 : Kd.C k126 w A1_0 l1_0.length l1_0) (hc1_0 : l1_0.length ≤ c1_0) (hr1_2 : Kd.C k48 w A1_2 l1_2.length l1_2) (hc1_2 : l1_2.length ≤ c1_2) (h : q4_SameBasins.f k l0_0 a0_1 l0_2 a0_3 a0_4 l1_0 a1_1 l1_2 a1_3 a1_4 = some r) :
 Calls Tryz.prog 52 #[.agg #[.slice A0_0 l0_0.length c0_0,.int .i64 a0_1,.slice A0_2 l0_2.length c0_2,.int .i64 a0_3,.int .i64 a0_4],.agg #[.slice A1_0 l1_0.length c1_0,.int .i64 a1_1,.slice A1_2 l1_2.length c1_2,.int .i64 a1_3,.int .i64 a1_4]] w fun e w' => e = .returned (.bool r) ∧ Below w.heap.size w w' := by
 have hu27 := Tryz.underlying27
 have hu24 := Tryz.underlying24
 have hu48 := Tryz.underlying48
 have HR0_0 := am hr0_0
 have HC0_0 := am hc0_0
 clear hr0_0 hc0_0
 have HR0_2 := am hr0_2
 have HC0_2 := am hc0_2
 clear hr0_2 hc0_2
 have HR1_0 := am hr1_0
 have HC1_0 := am hc1_0
 clear hr1_0 hc1_0
 have HR1_2 := am hr1_2
 have HC1_2 := am hc1_2
 clear hr1_2 hc1_2
 have HB := am (Below.refl w.heap.size w)
 have H : ((q3_SameTables.f k l0_0 a0_1 l1_0 a1_1).bind fun t372 => (if t372 = true then (if (l0_2.length : Int) = (l1_2.length : Int) then (if a0_3 = a1_3 then (q4_SameBasins.j0 k (a0_4 != a1_4) l0_0 a0_1 l0_2 a0_3 a0_4 l1_0 a1_1 l1_2 a1_3 a1_4) else (q4_SameBasins.j0 k true l0_0 a0_1 l0_2 a0_3 a0_4 l1_0 a1_1 l1_2 a1_3 a1_4)) else (q4_SameBasins.j0 k true l0_0 a0_1 l0_2 a0_3 a0_4 l1_0 a1_1 l1_2 a1_3 a1_4)) else (q4_SameBasins.j0 k true l0_0 a0_1 l0_2 a0_3 a0_4 l1_0 a1_1 l1_2 a1_3 a1_4))) = some r := h
 clear h
 have HC3 := am H
 clear H
 go_enter Tryz.func52,Tryz.ntmps52
 go_upto_region 1 with (first | ((with_reducible refine gate_dst (N := 2) rfl ?_);(try (refine gate_guard (by rfl) ?_;dsimp only));refine box_event ?hg (N := 2) ?hd (cs := #[.slice A0_0 l0_0.length c0_0,.int .i64 a0_1,.slice A0_2 l0_2.length c0_2,.int .i64 a0_3,.int .i64 a0_4]) (t := 27) ?hr ?_;(case hd => rfl);(case hg => rfl);(case hr => go_simp;try rfl);intro gb370 hg w4 hbox hb;have BK370 := am (hbox);have GW370 := am (ge_new (by repeat (first | (with_reducible first | exact HB.out | apply below_alloc | apply pw_below_drewN) | exact HB.out)) hg);have GE370 := am (ge_new (by repeat (first | (with_reducible first | exact HB.out | apply below_alloc | apply pw_below_drewN) | exact HB.out)) hg);replace HB := am (below_step (by repeat (first | (with_reducible first | exact HB.out | apply below_alloc | apply pw_below_drewN) | exact HB.out)) hb);clear hb hbox hg) | ((with_reducible refine gate_dst (N := 3) rfl ?_);(try (refine gate_guard (by rfl) ?_;dsimp only));refine box_event ?hg (N := 3) ?hd (cs := #[.slice A1_0 l1_0.length c1_0,.int .i64 a1_1,.slice A1_2 l1_2.length c1_2,.int .i64 a1_3,.int .i64 a1_4]) (t := 27) ?hr ?_;(case hd => rfl);(case hg => rfl);(case hr => go_simp;try rfl);intro gb371 hg w5 hbox hb;have BK371 := am (hbox);have GW371 := am (ge_new (by repeat (first | (with_reducible first | exact HB.out | refine below_set ?_ GE370.out | apply below_alloc | apply pw_below_drewN) | exact HB.out)) hg);have GE371 := am (ge_new (by repeat (first | (with_reducible first | exact HB.out | refine below_set ?_ GE370.out | apply below_alloc | apply pw_below_drewN) | exact HB.out)) hg);have NB370_371 := am ((by rw [hg];exact Nat.ne_of_lt (blk_lt (g := gb370) (o := .cells #[.slice A0_0 l0_0.length c0_0,.int .i64 a0_1,.slice A0_2 l0_2.length c0_2,.int .i64 a0_3,.int .i64 a0_4] 27 (0,0)) (by (with_reducible repeat (first | refine blk_drewN ?_ _ | refine blk_drew ?_ | refine blk_alloc ?_ _));exact BK370.out)) : gb370 ≠ gb371));have NB371_370 := am ((by rw [hg];exact Nat.ne_of_gt (blk_lt (g := gb370) (o := .cells #[.slice A0_0 l0_0.length c0_0,.int .i64 a0_1,.slice A0_2 l0_2.length c0_2,.int .i64 a0_3,.int .i64 a0_4] 27 (0,0)) (by (with_reducible repeat (first | refine blk_drewN ?_ _ | refine blk_drew ?_ | refine blk_alloc ?_ _));exact BK370.out)) : gb371 ≠ gb370));replace BK370 := am (blk_below (g := gb370) (o := .cells #[.slice A0_0 l0_0.length c0_0,.int .i64 a0_1,.slice A0_2 l0_2.length c0_2,.int .i64 a0_3,.int .i64 a0_4] 27 (0,0)) (by (with_reducible repeat (first | refine blk_drewN ?_ _ | refine blk_drew ?_ | refine blk_alloc ?_ _));exact BK370.out) hb);replace HB := am (below_step (by repeat (first | (with_reducible first | exact HB.out | refine below_set ?_ GE370.out | apply below_alloc | apply pw_below_drewN) | exact HB.out)) hb);clear hb hbox hg))
 repeat (go_quiet (first | ((with_reducible refine gate_dst (N := 2) rfl ?_);(try (refine gate_guard (by rfl) ?_;dsimp only));refine box_event ?hg (N := 2) ?hd (cs := #[.slice A0_0 l0_0.length c0_0,.int .i64 a0_1,.slice A0_2 l0_2.length c0_2,.int .i64 a0_3,.int .i64 a0_4]) (t := 27) ?hr ?_;(case hd => rfl);(case hg => rfl);(case hr => go_simp;try rfl);intro gb370 hg w4 hbox hb;have BK370 := am (hbox);have GW370 := am (ge_new (by repeat (first | (with_reducible first | exact HB.out | apply below_alloc | apply pw_below_drewN) | exact HB.out)) hg);have GE370 := am (ge_new (by repeat (first | (with_reducible first | exact HB.out | apply below_alloc | apply pw_below_drewN) | exact HB.out)) hg);replace HB := am (below_step (by repeat (first | (with_reducible first | exact HB.out | apply below_alloc | apply pw_below_drewN) | exact HB.out)) hb);clear hb hbox hg) | ((with_reducible refine gate_dst (N := 3) rfl ?_);(try (refine gate_guard (by rfl) ?_;dsimp only));refine box_event ?hg (N := 3) ?hd (cs := #[.slice A1_0 l1_0.length c1_0,.int .i64 a1_1,.slice A1_2 l1_2.length c1_2,.int .i64 a1_3,.int .i64 a1_4]) (t := 27) ?hr ?_;(case hd => rfl);(case hg => rfl);(case hr => go_simp;try rfl);intro gb371 hg w5 hbox hb;have BK371 := am (hbox);have GW371 := am (ge_new (by repeat (first | (with_reducible first | exact HB.out | refine below_set ?_ GE370.out | apply below_alloc | apply pw_below_drewN) | exact HB.out)) hg);have GE371 := am (ge_new (by repeat (first | (with_reducible first | exact HB.out | refine below_set ?_ GE370.out | apply below_alloc | apply pw_below_drewN) | exact HB.out)) hg);have NB370_371 := am ((by rw [hg];exact Nat.ne_of_lt (blk_lt (g := gb370) (o := .cells #[.slice A0_0 l0_0.length c0_0,.int .i64 a0_1,.slice A0_2 l0_2.length c0_2,.int .i64 a0_3,.int .i64 a0_4] 27 (0,0)) (by (with_reducible repeat (first | refine blk_drewN ?_ _ | refine blk_drew ?_ | refine blk_alloc ?_ _));exact BK370.out)) : gb370 ≠ gb371));have NB371_370 := am ((by rw [hg];exact Nat.ne_of_gt (blk_lt (g := gb370) (o := .cells #[.slice A0_0 l0_0.length c0_0,.int .i64 a0_1,.slice A0_2 l0_2.length c0_2,.int .i64 a0_3,.int .i64 a0_4] 27 (0,0)) (by (with_reducible repeat (first | refine blk_drewN ?_ _ | refine blk_drew ?_ | refine blk_alloc ?_ _));exact BK370.out)) : gb371 ≠ gb370));replace BK370 := am (blk_below (g := gb370) (o := .cells #[.slice A0_0 l0_0.length c0_0,.int .i64 a0_1,.slice A0_2 l0_2.length c0_2,.int .i64 a0_3,.int .i64 a0_4] 27 (0,0)) (by (with_reducible repeat (first | refine blk_drewN ?_ _ | refine blk_drew ?_ | refine blk_alloc ?_ _));exact BK370.out) hb);replace HB := am (below_step (by repeat (first | (with_reducible first | exact HB.out | refine below_set ?_ GE370.out | apply below_alloc | apply pw_below_drewN) | exact HB.out)) hb);clear hb hbox hg));go_upto_region 1 with (first | ((with_reducible refine gate_dst (N := 2) rfl ?_);(try (refine gate_guard (by rfl) ?_;dsimp only));refine box_event ?hg (N := 2) ?hd (cs := #[.slice A0_0 l0_0.length c0_0,.int .i64 a0_1,.slice A0_2 l0_2.length c0_2,.int .i64 a0_3,.int .i64 a0_4]) (t := 27) ?hr ?_;(case hd => rfl);(case hg => rfl);(case hr => go_simp;try rfl);intro gb370 hg w4 hbox hb;have BK370 := am (hbox);have GW370 := am (ge_new (by repeat (first | (with_reducible first | exact HB.out | apply below_alloc | apply pw_below_drewN) | exact HB.out)) hg);have GE370 := am (ge_new (by repeat (first | (with_reducible first | exact HB.out | apply below_alloc | apply pw_below_drewN) | exact HB.out)) hg);replace HB := am (below_step (by repeat (first | (with_reducible first | exact HB.out | apply below_alloc | apply pw_below_drewN) | exact HB.out)) hb);clear hb hbox hg) | ((with_reducible refine gate_dst (N := 3) rfl ?_);(try (refine gate_guard (by rfl) ?_;dsimp only));refine box_event ?hg (N := 3) ?hd (cs := #[.slice A1_0 l1_0.length c1_0,.int .i64 a1_1,.slice A1_2 l1_2.length c1_2,.int .i64 a1_3,.int .i64 a1_4]) (t := 27) ?hr ?_;(case hd => rfl);(case hg => rfl);(case hr => go_simp;try rfl);intro gb371 hg w5 hbox hb;have BK371 := am (hbox);have GW371 := am (ge_new (by repeat (first | (with_reducible first | exact HB.out | refine below_set ?_ GE370.out | apply below_alloc | apply pw_below_drewN) | exact HB.out)) hg);have GE371 := am (ge_new (by repeat (first | (with_reducible first | exact HB.out | refine below_set ?_ GE370.out | apply below_alloc | apply pw_below_drewN) | exact HB.out)) hg);have NB370_371 := am ((by rw [hg];exact Nat.ne_of_lt (blk_lt (g := gb370) (o := .cells #[.slice A0_0 l0_0.length c0_0,.int .i64 a0_1,.slice A0_2 l0_2.length c0_2,.int .i64 a0_3,.int .i64 a0_4] 27 (0,0)) (by (with_reducible repeat (first | refine blk_drewN ?_ _ | refine blk_drew ?_ | refine blk_alloc ?_ _));exact BK370.out)) : gb370 ≠ gb371));have NB371_370 := am ((by rw [hg];exact Nat.ne_of_gt (blk_lt (g := gb370) (o := .cells #[.slice A0_0 l0_0.length c0_0,.int .i64 a0_1,.slice A0_2 l0_2.length c0_2,.int .i64 a0_3,.int .i64 a0_4] 27 (0,0)) (by (with_reducible repeat (first | refine blk_drewN ?_ _ | refine blk_drew ?_ | refine blk_alloc ?_ _));exact BK370.out)) : gb371 ≠ gb370));replace BK370 := am (blk_below (g := gb370) (o := .cells #[.slice A0_0 l0_0.length c0_0,.int .i64 a0_1,.slice A0_2 l0_2.length c0_2,.int .i64 a0_3,.int .i64 a0_4] 27 (0,0)) (by (with_reducible repeat (first | refine blk_drewN ?_ _ | refine blk_drew ?_ | refine blk_alloc ?_ _));exact BK370.out) hb);replace HB := am (below_step (by repeat (first | (with_reducible first | exact HB.out | refine below_set ?_ GE370.out | apply below_alloc | apply pw_below_drewN) | exact HB.out)) hb);clear hb hbox hg)))
 (try simp only [Act.put,List.setIfInBounds_toArray,List.set_cons_zero,List.set_cons_succ])
 go_cut [34] (fun v34 wc => ∃ (kq : Nat) (x34_2 : Bool),v34 = .bool x34_2 ∧ Aside0 (q4_SameBasins.j0 kq x34_2 l0_0 a0_1 l0_2 a0_3 a0_4 l1_0 a1_1 l1_2 a1_3 a1_4 = some r) ∧ Aside0 (kq ≤ k) ∧ Aside0 (wc.heap[gb370]? = some (.cells #[(.slice A0_0 l0_0.length c0_0),.int .i64 a0_1,(.slice A0_2 l0_2.length c0_2),.int .i64 a0_3,.int .i64 a0_4] 27 (0,0))) ∧ Aside0 (wc.heap[gb371]? = some (.cells #[(.slice A1_0 l1_0.length c1_0),.int .i64 a1_1,(.slice A1_2 l1_2.length c1_2),.int .i64 a1_3,.int .i64 a1_4] 27 (0,0))) ∧ Aside0 (Below w.heap.size w wc))
 case first =>
  have H := HC3.out
  clear HC3
  replace H := obm H
  obtain ⟨t372,A60,H⟩ := H
  replace H : (if t372 = true then (if (l0_2.length : Int) = (l1_2.length : Int) then (if a0_3 = a1_3 then (q4_SameBasins.j0 k (a0_4 != a1_4) l0_0 a0_1 l0_2 a0_3 a0_4 l1_0 a1_1 l1_2 a1_3 a1_4) else (q4_SameBasins.j0 k true l0_0 a0_1 l0_2 a0_3 a0_4 l1_0 a1_1 l1_2 a1_3 a1_4)) else (q4_SameBasins.j0 k true l0_0 a0_1 l0_2 a0_3 a0_4 l1_0 a1_1 l1_2 a1_3 a1_4)) else (q4_SameBasins.j0 k true l0_0 a0_1 l0_2 a0_3 a0_4 l1_0 a1_1 l1_2 a1_3 a1_4)) = some r := H
  have A6 := am A60
  clear A60
  by_cases c7 : t372 = true
  case neg =>
   replace c7 := Bool.eq_false_iff.mpr c7
   subst c7
   replace H : (q4_SameBasins.j0 k true l0_0 a0_1 l0_2 a0_3 a0_4 l1_0 a1_1 l1_2 a1_3 a1_4) = some r := by rw [if_neg (show ¬ (false = true) by decide)] at H;exact H
   replace H' := am H
   have hnb28 := NB370_371.out
   have hnc28 := NB371_370.out
   obtain ⟨hcz29_0,hcz29_1,hcz29_2,hcz29_3,hcz29_4⟩ := cO5 BK370.out
   have hfz29_0 := blk_frozen BK370.out 0
   have hfz29_1 := blk_frozen BK370.out 1
   have hfz29_2 := blk_frozen BK370.out 2
   have hfz29_3 := blk_frozen BK370.out 3
   have hfz29_4 := blk_frozen BK370.out 4
   obtain ⟨hcz30_0,hcz30_1,hcz30_2,hcz30_3,hcz30_4⟩ := cO5 BK371.out
   have hfz30_0 := blk_frozen BK371.out 0
   have hfz30_1 := blk_frozen BK371.out 1
   have hfz30_2 := blk_frozen BK371.out 2
   have hfz30_3 := blk_frozen BK371.out 3
   have hfz30_4 := blk_frozen BK371.out 4
   go_wp2_with (first | (go_at_call 95;(with_reducible refine (q3_SameTables.calls k _ _ l0_0 a0_1 _ _ l1_0 a1_1 false _ ?side1 ?side2 ?side3 ?side4 A6.out).mono ?_);(case side1 => repeat (first | exact (kC HR0_0.out HB.out) | (with_reducible refine Kd.C_alloc ?_ _) | (with_reducible refine Kd.C_drewN ?_ _) | (with_reducible refine Kd.C_drew ?_)));(case side2 => exact HC0_0.out);(case side3 => repeat (first | exact (kC HR1_0.out HB.out) | (with_reducible refine Kd.C_alloc ?_ _) | (with_reducible refine Kd.C_drewN ?_ _) | (with_reducible refine Kd.C_drew ?_)));(case side4 => exact HC1_0.out);rintro e w31 ⟨rfl,hb⟩;replace BK370 := am (blk_below (g := gb370) (o := .cells #[.slice A0_0 l0_0.length c0_0,.int .i64 a0_1,.slice A0_2 l0_2.length c0_2,.int .i64 a0_3,.int .i64 a0_4] 27 (0,0)) (by (with_reducible repeat (first | refine blk_drewN ?_ _ | refine blk_drew ?_ | refine blk_alloc ?_ _));exact BK370.out) hb);replace BK371 := am (blk_below (g := gb371) (o := .cells #[.slice A1_0 l1_0.length c1_0,.int .i64 a1_1,.slice A1_2 l1_2.length c1_2,.int .i64 a1_3,.int .i64 a1_4] 27 (0,0)) (by (with_reducible repeat (first | refine blk_drewN ?_ _ | refine blk_drew ?_ | refine blk_alloc ?_ _));exact BK371.out) hb);replace HB := am (below_step (by repeat (first | (with_reducible first | exact HB.out | refine below_set ?_ (Aside0.out (by assumption)) | apply below_alloc | apply pw_below_drewN) | exact HB.out)) hb);(try clear hb);(try clear hb2);(try clear hk);(try clear hi)))
   repeat (go_quiet (first | (go_at_call 95;(with_reducible refine (q3_SameTables.calls k _ _ l0_0 a0_1 _ _ l1_0 a1_1 false _ ?side1 ?side2 ?side3 ?side4 A6.out).mono ?_);(case side1 => repeat (first | exact (kC HR0_0.out HB.out) | (with_reducible refine Kd.C_alloc ?_ _) | (with_reducible refine Kd.C_drewN ?_ _) | (with_reducible refine Kd.C_drew ?_)));(case side2 => exact HC0_0.out);(case side3 => repeat (first | exact (kC HR1_0.out HB.out) | (with_reducible refine Kd.C_alloc ?_ _) | (with_reducible refine Kd.C_drewN ?_ _) | (with_reducible refine Kd.C_drew ?_)));(case side4 => exact HC1_0.out);rintro e w31 ⟨rfl,hb⟩;replace BK370 := am (blk_below (g := gb370) (o := .cells #[.slice A0_0 l0_0.length c0_0,.int .i64 a0_1,.slice A0_2 l0_2.length c0_2,.int .i64 a0_3,.int .i64 a0_4] 27 (0,0)) (by (with_reducible repeat (first | refine blk_drewN ?_ _ | refine blk_drew ?_ | refine blk_alloc ?_ _));exact BK370.out) hb);replace BK371 := am (blk_below (g := gb371) (o := .cells #[.slice A1_0 l1_0.length c1_0,.int .i64 a1_1,.slice A1_2 l1_2.length c1_2,.int .i64 a1_3,.int .i64 a1_4] 27 (0,0)) (by (with_reducible repeat (first | refine blk_drewN ?_ _ | refine blk_drew ?_ | refine blk_alloc ?_ _));exact BK371.out) hb);replace HB := am (below_step (by repeat (first | (with_reducible first | exact HB.out | refine below_set ?_ (Aside0.out (by assumption)) | apply below_alloc | apply pw_below_drewN) | exact HB.out)) hb);(try clear hb);(try clear hb2);(try clear hk);(try clear hi)));try go_wp2_with (first | (go_at_call 95;(with_reducible refine (q3_SameTables.calls k _ _ l0_0 a0_1 _ _ l1_0 a1_1 false _ ?side1 ?side2 ?side3 ?side4 A6.out).mono ?_);(case side1 => repeat (first | exact (kC HR0_0.out HB.out) | (with_reducible refine Kd.C_alloc ?_ _) | (with_reducible refine Kd.C_drewN ?_ _) | (with_reducible refine Kd.C_drew ?_)));(case side2 => exact HC0_0.out);(case side3 => repeat (first | exact (kC HR1_0.out HB.out) | (with_reducible refine Kd.C_alloc ?_ _) | (with_reducible refine Kd.C_drewN ?_ _) | (with_reducible refine Kd.C_drew ?_)));(case side4 => exact HC1_0.out);rintro e w31 ⟨rfl,hb⟩;replace BK370 := am (blk_below (g := gb370) (o := .cells #[.slice A0_0 l0_0.length c0_0,.int .i64 a0_1,.slice A0_2 l0_2.length c0_2,.int .i64 a0_3,.int .i64 a0_4] 27 (0,0)) (by (with_reducible repeat (first | refine blk_drewN ?_ _ | refine blk_drew ?_ | refine blk_alloc ?_ _));exact BK370.out) hb);replace BK371 := am (blk_below (g := gb371) (o := .cells #[.slice A1_0 l1_0.length c1_0,.int .i64 a1_1,.slice A1_2 l1_2.length c1_2,.int .i64 a1_3,.int .i64 a1_4] 27 (0,0)) (by (with_reducible repeat (first | refine blk_drewN ?_ _ | refine blk_drew ?_ | refine blk_alloc ?_ _));exact BK371.out) hb);replace HB := am (below_step (by repeat (first | (with_reducible first | exact HB.out | refine below_set ?_ (Aside0.out (by assumption)) | apply below_alloc | apply pw_below_drewN) | exact HB.out)) hb);(try clear hb);(try clear hb2);(try clear hk);(try clear hi))))
   go_meet
   case rel => exact ⟨_,(true),(by first | rfl | (simp;done) | (simp [*];done)),H',⟨by first | omega | exact Nat.le_refl _⟩,⟨by (with_reducible repeat (first | refine blk_drewN ?_ _ | refine blk_drew ?_ | refine blk_alloc ?_ _));exact BK370.out⟩,⟨by (with_reducible repeat (first | refine blk_drewN ?_ _ | refine blk_drew ?_ | refine blk_alloc ?_ _));exact BK371.out⟩,⟨by repeat (first | (with_reducible first | exact HB.out | refine below_set ?_ (Aside0.out (by assumption)) | apply below_alloc | apply pw_below_drewN) | exact HB.out)⟩⟩
  subst c7
  replace H : (if (l0_2.length : Int) = (l1_2.length : Int) then (if a0_3 = a1_3 then (q4_SameBasins.j0 k (a0_4 != a1_4) l0_0 a0_1 l0_2 a0_3 a0_4 l1_0 a1_1 l1_2 a1_3 a1_4) else (q4_SameBasins.j0 k true l0_0 a0_1 l0_2 a0_3 a0_4 l1_0 a1_1 l1_2 a1_3 a1_4)) else (q4_SameBasins.j0 k true l0_0 a0_1 l0_2 a0_3 a0_4 l1_0 a1_1 l1_2 a1_3 a1_4)) = some r := by rw [if_pos rfl] at H;exact H
  by_cases c8 : (l0_2.length : Int) = (l1_2.length : Int)
  case neg =>
   rw [if_neg c8] at H
   have c8b0 : ((l0_2.length : Int) == (l1_2.length : Int)) = false := beq_eq_false_iff_ne.mpr c8
   have c8b1 : ((l0_2.length : Int) != (l1_2.length : Int)) = true := bne_iff_ne.mpr c8
   have c8b2 : (l0_2.length == l1_2.length) = false := by first | simpa using c8 | (simp at c8 ⊢;omega)
   (first | rw [c8b0] | (simp only [i64_w,i32_w];rw [c8b0]) | skip)
   replace H' := am H
   have hnb22 := NB370_371.out
   have hnc22 := NB371_370.out
   obtain ⟨hcz23_0,hcz23_1,hcz23_2,hcz23_3,hcz23_4⟩ := cO5 BK370.out
   have hfz23_0 := blk_frozen BK370.out 0
   have hfz23_1 := blk_frozen BK370.out 1
   have hfz23_2 := blk_frozen BK370.out 2
   have hfz23_3 := blk_frozen BK370.out 3
   have hfz23_4 := blk_frozen BK370.out 4
   obtain ⟨hcz24_0,hcz24_1,hcz24_2,hcz24_3,hcz24_4⟩ := cO5 BK371.out
   have hfz24_0 := blk_frozen BK371.out 0
   have hfz24_1 := blk_frozen BK371.out 1
   have hfz24_2 := blk_frozen BK371.out 2
   have hfz24_3 := blk_frozen BK371.out 3
   have hfz24_4 := blk_frozen BK371.out 4
   go_wp2_with (first | (go_at_call 95;(with_reducible refine (q3_SameTables.calls k _ _ l0_0 a0_1 _ _ l1_0 a1_1 true _ ?side1 ?side2 ?side3 ?side4 A6.out).mono ?_);(case side1 => repeat (first | exact (kC HR0_0.out HB.out) | (with_reducible refine Kd.C_alloc ?_ _) | (with_reducible refine Kd.C_drewN ?_ _) | (with_reducible refine Kd.C_drew ?_)));(case side2 => exact HC0_0.out);(case side3 => repeat (first | exact (kC HR1_0.out HB.out) | (with_reducible refine Kd.C_alloc ?_ _) | (with_reducible refine Kd.C_drewN ?_ _) | (with_reducible refine Kd.C_drew ?_)));(case side4 => exact HC1_0.out);rintro e w25 ⟨rfl,hb⟩;replace BK370 := am (blk_below (g := gb370) (o := .cells #[.slice A0_0 l0_0.length c0_0,.int .i64 a0_1,.slice A0_2 l0_2.length c0_2,.int .i64 a0_3,.int .i64 a0_4] 27 (0,0)) (by (with_reducible repeat (first | refine blk_drewN ?_ _ | refine blk_drew ?_ | refine blk_alloc ?_ _));exact BK370.out) hb);replace BK371 := am (blk_below (g := gb371) (o := .cells #[.slice A1_0 l1_0.length c1_0,.int .i64 a1_1,.slice A1_2 l1_2.length c1_2,.int .i64 a1_3,.int .i64 a1_4] 27 (0,0)) (by (with_reducible repeat (first | refine blk_drewN ?_ _ | refine blk_drew ?_ | refine blk_alloc ?_ _));exact BK371.out) hb);replace HB := am (below_step (by repeat (first | (with_reducible first | exact HB.out | refine below_set ?_ (Aside0.out (by assumption)) | apply below_alloc | apply pw_below_drewN) | exact HB.out)) hb);(try clear hb);(try clear hb2);(try clear hk);(try clear hi);obtain ⟨hcz26_0,hcz26_1,hcz26_2,hcz26_3,hcz26_4⟩ := cO5 BK370.out;have hfz26_0 := blk_frozen BK370.out 0;have hfz26_1 := blk_frozen BK370.out 1;have hfz26_2 := blk_frozen BK370.out 2;have hfz26_3 := blk_frozen BK370.out 3;have hfz26_4 := blk_frozen BK370.out 4;obtain ⟨hcz27_0,hcz27_1,hcz27_2,hcz27_3,hcz27_4⟩ := cO5 BK371.out;have hfz27_0 := blk_frozen BK371.out 0;have hfz27_1 := blk_frozen BK371.out 1;have hfz27_2 := blk_frozen BK371.out 2;have hfz27_3 := blk_frozen BK371.out 3;have hfz27_4 := blk_frozen BK371.out 4))
   repeat (go_quiet (first | (go_at_call 95;(with_reducible refine (q3_SameTables.calls k _ _ l0_0 a0_1 _ _ l1_0 a1_1 true _ ?side1 ?side2 ?side3 ?side4 A6.out).mono ?_);(case side1 => repeat (first | exact (kC HR0_0.out HB.out) | (with_reducible refine Kd.C_alloc ?_ _) | (with_reducible refine Kd.C_drewN ?_ _) | (with_reducible refine Kd.C_drew ?_)));(case side2 => exact HC0_0.out);(case side3 => repeat (first | exact (kC HR1_0.out HB.out) | (with_reducible refine Kd.C_alloc ?_ _) | (with_reducible refine Kd.C_drewN ?_ _) | (with_reducible refine Kd.C_drew ?_)));(case side4 => exact HC1_0.out);rintro e w25 ⟨rfl,hb⟩;replace BK370 := am (blk_below (g := gb370) (o := .cells #[.slice A0_0 l0_0.length c0_0,.int .i64 a0_1,.slice A0_2 l0_2.length c0_2,.int .i64 a0_3,.int .i64 a0_4] 27 (0,0)) (by (with_reducible repeat (first | refine blk_drewN ?_ _ | refine blk_drew ?_ | refine blk_alloc ?_ _));exact BK370.out) hb);replace BK371 := am (blk_below (g := gb371) (o := .cells #[.slice A1_0 l1_0.length c1_0,.int .i64 a1_1,.slice A1_2 l1_2.length c1_2,.int .i64 a1_3,.int .i64 a1_4] 27 (0,0)) (by (with_reducible repeat (first | refine blk_drewN ?_ _ | refine blk_drew ?_ | refine blk_alloc ?_ _));exact BK371.out) hb);replace HB := am (below_step (by repeat (first | (with_reducible first | exact HB.out | refine below_set ?_ (Aside0.out (by assumption)) | apply below_alloc | apply pw_below_drewN) | exact HB.out)) hb);(try clear hb);(try clear hb2);(try clear hk);(try clear hi);obtain ⟨hcz26_0,hcz26_1,hcz26_2,hcz26_3,hcz26_4⟩ := cO5 BK370.out;have hfz26_0 := blk_frozen BK370.out 0;have hfz26_1 := blk_frozen BK370.out 1;have hfz26_2 := blk_frozen BK370.out 2;have hfz26_3 := blk_frozen BK370.out 3;have hfz26_4 := blk_frozen BK370.out 4;obtain ⟨hcz27_0,hcz27_1,hcz27_2,hcz27_3,hcz27_4⟩ := cO5 BK371.out;have hfz27_0 := blk_frozen BK371.out 0;have hfz27_1 := blk_frozen BK371.out 1;have hfz27_2 := blk_frozen BK371.out 2;have hfz27_3 := blk_frozen BK371.out 3;have hfz27_4 := blk_frozen BK371.out 4));try go_wp2_with (first | (go_at_call 95;(with_reducible refine (q3_SameTables.calls k _ _ l0_0 a0_1 _ _ l1_0 a1_1 true _ ?side1 ?side2 ?side3 ?side4 A6.out).mono ?_);(case side1 => repeat (first | exact (kC HR0_0.out HB.out) | (with_reducible refine Kd.C_alloc ?_ _) | (with_reducible refine Kd.C_drewN ?_ _) | (with_reducible refine Kd.C_drew ?_)));(case side2 => exact HC0_0.out);(case side3 => repeat (first | exact (kC HR1_0.out HB.out) | (with_reducible refine Kd.C_alloc ?_ _) | (with_reducible refine Kd.C_drewN ?_ _) | (with_reducible refine Kd.C_drew ?_)));(case side4 => exact HC1_0.out);rintro e w25 ⟨rfl,hb⟩;replace BK370 := am (blk_below (g := gb370) (o := .cells #[.slice A0_0 l0_0.length c0_0,.int .i64 a0_1,.slice A0_2 l0_2.length c0_2,.int .i64 a0_3,.int .i64 a0_4] 27 (0,0)) (by (with_reducible repeat (first | refine blk_drewN ?_ _ | refine blk_drew ?_ | refine blk_alloc ?_ _));exact BK370.out) hb);replace BK371 := am (blk_below (g := gb371) (o := .cells #[.slice A1_0 l1_0.length c1_0,.int .i64 a1_1,.slice A1_2 l1_2.length c1_2,.int .i64 a1_3,.int .i64 a1_4] 27 (0,0)) (by (with_reducible repeat (first | refine blk_drewN ?_ _ | refine blk_drew ?_ | refine blk_alloc ?_ _));exact BK371.out) hb);replace HB := am (below_step (by repeat (first | (with_reducible first | exact HB.out | refine below_set ?_ (Aside0.out (by assumption)) | apply below_alloc | apply pw_below_drewN) | exact HB.out)) hb);(try clear hb);(try clear hb2);(try clear hk);(try clear hi);obtain ⟨hcz26_0,hcz26_1,hcz26_2,hcz26_3,hcz26_4⟩ := cO5 BK370.out;have hfz26_0 := blk_frozen BK370.out 0;have hfz26_1 := blk_frozen BK370.out 1;have hfz26_2 := blk_frozen BK370.out 2;have hfz26_3 := blk_frozen BK370.out 3;have hfz26_4 := blk_frozen BK370.out 4;obtain ⟨hcz27_0,hcz27_1,hcz27_2,hcz27_3,hcz27_4⟩ := cO5 BK371.out;have hfz27_0 := blk_frozen BK371.out 0;have hfz27_1 := blk_frozen BK371.out 1;have hfz27_2 := blk_frozen BK371.out 2;have hfz27_3 := blk_frozen BK371.out 3;have hfz27_4 := blk_frozen BK371.out 4)))
   go_meet
   case rel => exact ⟨_,(true),(by first | rfl | (simp;done) | (simp [*];done)),H',⟨by first | omega | exact Nat.le_refl _⟩,⟨by (with_reducible repeat (first | refine blk_drewN ?_ _ | refine blk_drew ?_ | refine blk_alloc ?_ _));exact BK370.out⟩,⟨by (with_reducible repeat (first | refine blk_drewN ?_ _ | refine blk_drew ?_ | refine blk_alloc ?_ _));exact BK371.out⟩,⟨by repeat (first | (with_reducible first | exact HB.out | refine below_set ?_ (Aside0.out (by assumption)) | apply below_alloc | apply pw_below_drewN) | exact HB.out)⟩⟩
  rw [if_pos c8] at H
  have c8b0 : ((l0_2.length : Int) == (l1_2.length : Int)) = true := beq_iff_eq.mpr c8
  have c8b1 : ((l0_2.length : Int) != (l1_2.length : Int)) = false := bne_eq_false_iff_eq.mpr c8
  have c8b2 : (l0_2.length == l1_2.length) = true := by first | simpa using c8 | (simp at c8 ⊢;omega)
  clear c8
  (first | rw [c8b0] | (simp only [i64_w,i32_w];rw [c8b0]) | skip)
  by_cases c9 : a0_3 = a1_3
  case neg =>
   rw [if_neg c9] at H
   have c9b0 : (a0_3 == a1_3) = false := beq_eq_false_iff_ne.mpr c9
   have c9b1 : (a0_3 != a1_3) = true := bne_iff_ne.mpr c9
   replace H' := am H
   have hnb16 := NB370_371.out
   have hnc16 := NB371_370.out
   obtain ⟨hcz17_0,hcz17_1,hcz17_2,hcz17_3,hcz17_4⟩ := cO5 BK370.out
   have hfz17_0 := blk_frozen BK370.out 0
   have hfz17_1 := blk_frozen BK370.out 1
   have hfz17_2 := blk_frozen BK370.out 2
   have hfz17_3 := blk_frozen BK370.out 3
   have hfz17_4 := blk_frozen BK370.out 4
   obtain ⟨hcz18_0,hcz18_1,hcz18_2,hcz18_3,hcz18_4⟩ := cO5 BK371.out
   have hfz18_0 := blk_frozen BK371.out 0
   have hfz18_1 := blk_frozen BK371.out 1
   have hfz18_2 := blk_frozen BK371.out 2
   have hfz18_3 := blk_frozen BK371.out 3
   have hfz18_4 := blk_frozen BK371.out 4
   go_wp2_with (first | (go_at_call 95;(with_reducible refine (q3_SameTables.calls k _ _ l0_0 a0_1 _ _ l1_0 a1_1 true _ ?side1 ?side2 ?side3 ?side4 A6.out).mono ?_);(case side1 => repeat (first | exact (kC HR0_0.out HB.out) | (with_reducible refine Kd.C_alloc ?_ _) | (with_reducible refine Kd.C_drewN ?_ _) | (with_reducible refine Kd.C_drew ?_)));(case side2 => exact HC0_0.out);(case side3 => repeat (first | exact (kC HR1_0.out HB.out) | (with_reducible refine Kd.C_alloc ?_ _) | (with_reducible refine Kd.C_drewN ?_ _) | (with_reducible refine Kd.C_drew ?_)));(case side4 => exact HC1_0.out);rintro e w19 ⟨rfl,hb⟩;replace BK370 := am (blk_below (g := gb370) (o := .cells #[.slice A0_0 l0_0.length c0_0,.int .i64 a0_1,.slice A0_2 l0_2.length c0_2,.int .i64 a0_3,.int .i64 a0_4] 27 (0,0)) (by (with_reducible repeat (first | refine blk_drewN ?_ _ | refine blk_drew ?_ | refine blk_alloc ?_ _));exact BK370.out) hb);replace BK371 := am (blk_below (g := gb371) (o := .cells #[.slice A1_0 l1_0.length c1_0,.int .i64 a1_1,.slice A1_2 l1_2.length c1_2,.int .i64 a1_3,.int .i64 a1_4] 27 (0,0)) (by (with_reducible repeat (first | refine blk_drewN ?_ _ | refine blk_drew ?_ | refine blk_alloc ?_ _));exact BK371.out) hb);replace HB := am (below_step (by repeat (first | (with_reducible first | exact HB.out | refine below_set ?_ (Aside0.out (by assumption)) | apply below_alloc | apply pw_below_drewN) | exact HB.out)) hb);(try clear hb);(try clear hb2);(try clear hk);(try clear hi);obtain ⟨hcz20_0,hcz20_1,hcz20_2,hcz20_3,hcz20_4⟩ := cO5 BK370.out;have hfz20_0 := blk_frozen BK370.out 0;have hfz20_1 := blk_frozen BK370.out 1;have hfz20_2 := blk_frozen BK370.out 2;have hfz20_3 := blk_frozen BK370.out 3;have hfz20_4 := blk_frozen BK370.out 4;obtain ⟨hcz21_0,hcz21_1,hcz21_2,hcz21_3,hcz21_4⟩ := cO5 BK371.out;have hfz21_0 := blk_frozen BK371.out 0;have hfz21_1 := blk_frozen BK371.out 1;have hfz21_2 := blk_frozen BK371.out 2;have hfz21_3 := blk_frozen BK371.out 3;have hfz21_4 := blk_frozen BK371.out 4))
   repeat (go_quiet (first | (go_at_call 95;(with_reducible refine (q3_SameTables.calls k _ _ l0_0 a0_1 _ _ l1_0 a1_1 true _ ?side1 ?side2 ?side3 ?side4 A6.out).mono ?_);(case side1 => repeat (first | exact (kC HR0_0.out HB.out) | (with_reducible refine Kd.C_alloc ?_ _) | (with_reducible refine Kd.C_drewN ?_ _) | (with_reducible refine Kd.C_drew ?_)));(case side2 => exact HC0_0.out);(case side3 => repeat (first | exact (kC HR1_0.out HB.out) | (with_reducible refine Kd.C_alloc ?_ _) | (with_reducible refine Kd.C_drewN ?_ _) | (with_reducible refine Kd.C_drew ?_)));(case side4 => exact HC1_0.out);rintro e w19 ⟨rfl,hb⟩;replace BK370 := am (blk_below (g := gb370) (o := .cells #[.slice A0_0 l0_0.length c0_0,.int .i64 a0_1,.slice A0_2 l0_2.length c0_2,.int .i64 a0_3,.int .i64 a0_4] 27 (0,0)) (by (with_reducible repeat (first | refine blk_drewN ?_ _ | refine blk_drew ?_ | refine blk_alloc ?_ _));exact BK370.out) hb);replace BK371 := am (blk_below (g := gb371) (o := .cells #[.slice A1_0 l1_0.length c1_0,.int .i64 a1_1,.slice A1_2 l1_2.length c1_2,.int .i64 a1_3,.int .i64 a1_4] 27 (0,0)) (by (with_reducible repeat (first | refine blk_drewN ?_ _ | refine blk_drew ?_ | refine blk_alloc ?_ _));exact BK371.out) hb);replace HB := am (below_step (by repeat (first | (with_reducible first | exact HB.out | refine below_set ?_ (Aside0.out (by assumption)) | apply below_alloc | apply pw_below_drewN) | exact HB.out)) hb);(try clear hb);(try clear hb2);(try clear hk);(try clear hi);obtain ⟨hcz20_0,hcz20_1,hcz20_2,hcz20_3,hcz20_4⟩ := cO5 BK370.out;have hfz20_0 := blk_frozen BK370.out 0;have hfz20_1 := blk_frozen BK370.out 1;have hfz20_2 := blk_frozen BK370.out 2;have hfz20_3 := blk_frozen BK370.out 3;have hfz20_4 := blk_frozen BK370.out 4;obtain ⟨hcz21_0,hcz21_1,hcz21_2,hcz21_3,hcz21_4⟩ := cO5 BK371.out;have hfz21_0 := blk_frozen BK371.out 0;have hfz21_1 := blk_frozen BK371.out 1;have hfz21_2 := blk_frozen BK371.out 2;have hfz21_3 := blk_frozen BK371.out 3;have hfz21_4 := blk_frozen BK371.out 4));try go_wp2_with (first | (go_at_call 95;(with_reducible refine (q3_SameTables.calls k _ _ l0_0 a0_1 _ _ l1_0 a1_1 true _ ?side1 ?side2 ?side3 ?side4 A6.out).mono ?_);(case side1 => repeat (first | exact (kC HR0_0.out HB.out) | (with_reducible refine Kd.C_alloc ?_ _) | (with_reducible refine Kd.C_drewN ?_ _) | (with_reducible refine Kd.C_drew ?_)));(case side2 => exact HC0_0.out);(case side3 => repeat (first | exact (kC HR1_0.out HB.out) | (with_reducible refine Kd.C_alloc ?_ _) | (with_reducible refine Kd.C_drewN ?_ _) | (with_reducible refine Kd.C_drew ?_)));(case side4 => exact HC1_0.out);rintro e w19 ⟨rfl,hb⟩;replace BK370 := am (blk_below (g := gb370) (o := .cells #[.slice A0_0 l0_0.length c0_0,.int .i64 a0_1,.slice A0_2 l0_2.length c0_2,.int .i64 a0_3,.int .i64 a0_4] 27 (0,0)) (by (with_reducible repeat (first | refine blk_drewN ?_ _ | refine blk_drew ?_ | refine blk_alloc ?_ _));exact BK370.out) hb);replace BK371 := am (blk_below (g := gb371) (o := .cells #[.slice A1_0 l1_0.length c1_0,.int .i64 a1_1,.slice A1_2 l1_2.length c1_2,.int .i64 a1_3,.int .i64 a1_4] 27 (0,0)) (by (with_reducible repeat (first | refine blk_drewN ?_ _ | refine blk_drew ?_ | refine blk_alloc ?_ _));exact BK371.out) hb);replace HB := am (below_step (by repeat (first | (with_reducible first | exact HB.out | refine below_set ?_ (Aside0.out (by assumption)) | apply below_alloc | apply pw_below_drewN) | exact HB.out)) hb);(try clear hb);(try clear hb2);(try clear hk);(try clear hi);obtain ⟨hcz20_0,hcz20_1,hcz20_2,hcz20_3,hcz20_4⟩ := cO5 BK370.out;have hfz20_0 := blk_frozen BK370.out 0;have hfz20_1 := blk_frozen BK370.out 1;have hfz20_2 := blk_frozen BK370.out 2;have hfz20_3 := blk_frozen BK370.out 3;have hfz20_4 := blk_frozen BK370.out 4;obtain ⟨hcz21_0,hcz21_1,hcz21_2,hcz21_3,hcz21_4⟩ := cO5 BK371.out;have hfz21_0 := blk_frozen BK371.out 0;have hfz21_1 := blk_frozen BK371.out 1;have hfz21_2 := blk_frozen BK371.out 2;have hfz21_3 := blk_frozen BK371.out 3;have hfz21_4 := blk_frozen BK371.out 4)))
   go_meet
   case rel => exact ⟨_,(true),(by first | rfl | (simp;done) | (simp [*];done)),H',⟨by first | omega | exact Nat.le_refl _⟩,⟨by (with_reducible repeat (first | refine blk_drewN ?_ _ | refine blk_drew ?_ | refine blk_alloc ?_ _));exact BK370.out⟩,⟨by (with_reducible repeat (first | refine blk_drewN ?_ _ | refine blk_drew ?_ | refine blk_alloc ?_ _));exact BK371.out⟩,⟨by repeat (first | (with_reducible first | exact HB.out | refine below_set ?_ (Aside0.out (by assumption)) | apply below_alloc | apply pw_below_drewN) | exact HB.out)⟩⟩
  rw [if_pos c9] at H
  have c9b0 : (a0_3 == a1_3) = true := beq_iff_eq.mpr c9
  have c9b1 : (a0_3 != a1_3) = false := bne_eq_false_iff_eq.mpr c9
  clear c9
  replace H' := am H
  have hnb10 := NB370_371.out
  have hnc10 := NB371_370.out
  obtain ⟨hcz11_0,hcz11_1,hcz11_2,hcz11_3,hcz11_4⟩ := cO5 BK370.out
  have hfz11_0 := blk_frozen BK370.out 0
  have hfz11_1 := blk_frozen BK370.out 1
  have hfz11_2 := blk_frozen BK370.out 2
  have hfz11_3 := blk_frozen BK370.out 3
  have hfz11_4 := blk_frozen BK370.out 4
  obtain ⟨hcz12_0,hcz12_1,hcz12_2,hcz12_3,hcz12_4⟩ := cO5 BK371.out
  have hfz12_0 := blk_frozen BK371.out 0
  have hfz12_1 := blk_frozen BK371.out 1
  have hfz12_2 := blk_frozen BK371.out 2
  have hfz12_3 := blk_frozen BK371.out 3
  have hfz12_4 := blk_frozen BK371.out 4
  go_wp2_with (first | (go_at_call 95;(with_reducible refine (q3_SameTables.calls k _ _ l0_0 a0_1 _ _ l1_0 a1_1 true _ ?side1 ?side2 ?side3 ?side4 A6.out).mono ?_);(case side1 => repeat (first | exact (kC HR0_0.out HB.out) | (with_reducible refine Kd.C_alloc ?_ _) | (with_reducible refine Kd.C_drewN ?_ _) | (with_reducible refine Kd.C_drew ?_)));(case side2 => exact HC0_0.out);(case side3 => repeat (first | exact (kC HR1_0.out HB.out) | (with_reducible refine Kd.C_alloc ?_ _) | (with_reducible refine Kd.C_drewN ?_ _) | (with_reducible refine Kd.C_drew ?_)));(case side4 => exact HC1_0.out);rintro e w13 ⟨rfl,hb⟩;replace BK370 := am (blk_below (g := gb370) (o := .cells #[.slice A0_0 l0_0.length c0_0,.int .i64 a0_1,.slice A0_2 l0_2.length c0_2,.int .i64 a0_3,.int .i64 a0_4] 27 (0,0)) (by (with_reducible repeat (first | refine blk_drewN ?_ _ | refine blk_drew ?_ | refine blk_alloc ?_ _));exact BK370.out) hb);replace BK371 := am (blk_below (g := gb371) (o := .cells #[.slice A1_0 l1_0.length c1_0,.int .i64 a1_1,.slice A1_2 l1_2.length c1_2,.int .i64 a1_3,.int .i64 a1_4] 27 (0,0)) (by (with_reducible repeat (first | refine blk_drewN ?_ _ | refine blk_drew ?_ | refine blk_alloc ?_ _));exact BK371.out) hb);replace HB := am (below_step (by repeat (first | (with_reducible first | exact HB.out | refine below_set ?_ (Aside0.out (by assumption)) | apply below_alloc | apply pw_below_drewN) | exact HB.out)) hb);(try clear hb);(try clear hb2);(try clear hk);(try clear hi);obtain ⟨hcz14_0,hcz14_1,hcz14_2,hcz14_3,hcz14_4⟩ := cO5 BK370.out;have hfz14_0 := blk_frozen BK370.out 0;have hfz14_1 := blk_frozen BK370.out 1;have hfz14_2 := blk_frozen BK370.out 2;have hfz14_3 := blk_frozen BK370.out 3;have hfz14_4 := blk_frozen BK370.out 4;obtain ⟨hcz15_0,hcz15_1,hcz15_2,hcz15_3,hcz15_4⟩ := cO5 BK371.out;have hfz15_0 := blk_frozen BK371.out 0;have hfz15_1 := blk_frozen BK371.out 1;have hfz15_2 := blk_frozen BK371.out 2;have hfz15_3 := blk_frozen BK371.out 3;have hfz15_4 := blk_frozen BK371.out 4))
  repeat (go_quiet (first | (go_at_call 95;(with_reducible refine (q3_SameTables.calls k _ _ l0_0 a0_1 _ _ l1_0 a1_1 true _ ?side1 ?side2 ?side3 ?side4 A6.out).mono ?_);(case side1 => repeat (first | exact (kC HR0_0.out HB.out) | (with_reducible refine Kd.C_alloc ?_ _) | (with_reducible refine Kd.C_drewN ?_ _) | (with_reducible refine Kd.C_drew ?_)));(case side2 => exact HC0_0.out);(case side3 => repeat (first | exact (kC HR1_0.out HB.out) | (with_reducible refine Kd.C_alloc ?_ _) | (with_reducible refine Kd.C_drewN ?_ _) | (with_reducible refine Kd.C_drew ?_)));(case side4 => exact HC1_0.out);rintro e w13 ⟨rfl,hb⟩;replace BK370 := am (blk_below (g := gb370) (o := .cells #[.slice A0_0 l0_0.length c0_0,.int .i64 a0_1,.slice A0_2 l0_2.length c0_2,.int .i64 a0_3,.int .i64 a0_4] 27 (0,0)) (by (with_reducible repeat (first | refine blk_drewN ?_ _ | refine blk_drew ?_ | refine blk_alloc ?_ _));exact BK370.out) hb);replace BK371 := am (blk_below (g := gb371) (o := .cells #[.slice A1_0 l1_0.length c1_0,.int .i64 a1_1,.slice A1_2 l1_2.length c1_2,.int .i64 a1_3,.int .i64 a1_4] 27 (0,0)) (by (with_reducible repeat (first | refine blk_drewN ?_ _ | refine blk_drew ?_ | refine blk_alloc ?_ _));exact BK371.out) hb);replace HB := am (below_step (by repeat (first | (with_reducible first | exact HB.out | refine below_set ?_ (Aside0.out (by assumption)) | apply below_alloc | apply pw_below_drewN) | exact HB.out)) hb);(try clear hb);(try clear hb2);(try clear hk);(try clear hi);obtain ⟨hcz14_0,hcz14_1,hcz14_2,hcz14_3,hcz14_4⟩ := cO5 BK370.out;have hfz14_0 := blk_frozen BK370.out 0;have hfz14_1 := blk_frozen BK370.out 1;have hfz14_2 := blk_frozen BK370.out 2;have hfz14_3 := blk_frozen BK370.out 3;have hfz14_4 := blk_frozen BK370.out 4;obtain ⟨hcz15_0,hcz15_1,hcz15_2,hcz15_3,hcz15_4⟩ := cO5 BK371.out;have hfz15_0 := blk_frozen BK371.out 0;have hfz15_1 := blk_frozen BK371.out 1;have hfz15_2 := blk_frozen BK371.out 2;have hfz15_3 := blk_frozen BK371.out 3;have hfz15_4 := blk_frozen BK371.out 4));try go_wp2_with (first | (go_at_call 95;(with_reducible refine (q3_SameTables.calls k _ _ l0_0 a0_1 _ _ l1_0 a1_1 true _ ?side1 ?side2 ?side3 ?side4 A6.out).mono ?_);(case side1 => repeat (first | exact (kC HR0_0.out HB.out) | (with_reducible refine Kd.C_alloc ?_ _) | (with_reducible refine Kd.C_drewN ?_ _) | (with_reducible refine Kd.C_drew ?_)));(case side2 => exact HC0_0.out);(case side3 => repeat (first | exact (kC HR1_0.out HB.out) | (with_reducible refine Kd.C_alloc ?_ _) | (with_reducible refine Kd.C_drewN ?_ _) | (with_reducible refine Kd.C_drew ?_)));(case side4 => exact HC1_0.out);rintro e w13 ⟨rfl,hb⟩;replace BK370 := am (blk_below (g := gb370) (o := .cells #[.slice A0_0 l0_0.length c0_0,.int .i64 a0_1,.slice A0_2 l0_2.length c0_2,.int .i64 a0_3,.int .i64 a0_4] 27 (0,0)) (by (with_reducible repeat (first | refine blk_drewN ?_ _ | refine blk_drew ?_ | refine blk_alloc ?_ _));exact BK370.out) hb);replace BK371 := am (blk_below (g := gb371) (o := .cells #[.slice A1_0 l1_0.length c1_0,.int .i64 a1_1,.slice A1_2 l1_2.length c1_2,.int .i64 a1_3,.int .i64 a1_4] 27 (0,0)) (by (with_reducible repeat (first | refine blk_drewN ?_ _ | refine blk_drew ?_ | refine blk_alloc ?_ _));exact BK371.out) hb);replace HB := am (below_step (by repeat (first | (with_reducible first | exact HB.out | refine below_set ?_ (Aside0.out (by assumption)) | apply below_alloc | apply pw_below_drewN) | exact HB.out)) hb);(try clear hb);(try clear hb2);(try clear hk);(try clear hi);obtain ⟨hcz14_0,hcz14_1,hcz14_2,hcz14_3,hcz14_4⟩ := cO5 BK370.out;have hfz14_0 := blk_frozen BK370.out 0;have hfz14_1 := blk_frozen BK370.out 1;have hfz14_2 := blk_frozen BK370.out 2;have hfz14_3 := blk_frozen BK370.out 3;have hfz14_4 := blk_frozen BK370.out 4;obtain ⟨hcz15_0,hcz15_1,hcz15_2,hcz15_3,hcz15_4⟩ := cO5 BK371.out;have hfz15_0 := blk_frozen BK371.out 0;have hfz15_1 := blk_frozen BK371.out 1;have hfz15_2 := blk_frozen BK371.out 2;have hfz15_3 := blk_frozen BK371.out 3;have hfz15_4 := blk_frozen BK371.out 4)))
  go_meet
  case rel => exact ⟨_,((a0_4 != a1_4)),(by first | rfl | (simp;done) | (simp [*];done)),H',⟨by first | omega | exact Nat.le_refl _⟩,⟨by (with_reducible repeat (first | refine blk_drewN ?_ _ | refine blk_drew ?_ | refine blk_alloc ?_ _));exact BK370.out⟩,⟨by (with_reducible repeat (first | refine blk_drewN ?_ _ | refine blk_drew ?_ | refine blk_alloc ?_ _));exact BK371.out⟩,⟨by repeat (first | (with_reducible first | exact HB.out | refine below_set ?_ (Aside0.out (by assumption)) | apply below_alloc | apply pw_below_drewN) | exact HB.out)⟩⟩
 case rest =>
  clear HC3
  try clear c1
  try clear c2
  try clear p2
  try clear c5
  try clear c7
  try clear c8
  try clear c8b0
  try clear c8b1
  try clear c8b2
  try clear c9
  try clear c9b0
  try clear c9b1
  try clear c10
  try clear c16
  try clear c22
  try clear c28
  try clear hcz11_0
  try clear hcz11_1
  try clear hcz11_2
  try clear hcz11_3
  try clear hcz11_4
  try clear hcz12_0
  try clear hcz12_1
  try clear hcz12_2
  try clear hcz12_3
  try clear hcz12_4
  try clear hcz14_0
  try clear hcz14_1
  try clear hcz14_2
  try clear hcz14_3
  try clear hcz14_4
  try clear hcz15_0
  try clear hcz15_1
  try clear hcz15_2
  try clear hcz15_3
  try clear hcz15_4
  try clear hcz17_0
  try clear hcz17_1
  try clear hcz17_2
  try clear hcz17_3
  try clear hcz17_4
  try clear hcz18_0
  try clear hcz18_1
  try clear hcz18_2
  try clear hcz18_3
  try clear hcz18_4
  try clear hcz20_0
  try clear hcz20_1
  try clear hcz20_2
  try clear hcz20_3
  try clear hcz20_4
  try clear hcz21_0
  try clear hcz21_1
  try clear hcz21_2
  try clear hcz21_3
  try clear hcz21_4
  try clear hcz23_0
  try clear hcz23_1
  try clear hcz23_2
  try clear hcz23_3
  try clear hcz23_4
  try clear hcz24_0
  try clear hcz24_1
  try clear hcz24_2
  try clear hcz24_3
  try clear hcz24_4
  try clear hcz26_0
  try clear hcz26_1
  try clear hcz26_2
  try clear hcz26_3
  try clear hcz26_4
  try clear hcz27_0
  try clear hcz27_1
  try clear hcz27_2
  try clear hcz27_3
  try clear hcz27_4
  try clear hcz29_0
  try clear hcz29_1
  try clear hcz29_2
  try clear hcz29_3
  try clear hcz29_4
  try clear hcz30_0
  try clear hcz30_1
  try clear hcz30_2
  try clear hcz30_3
  try clear hcz30_4
  try clear hfz11_0
  try clear hfz11_1
  try clear hfz11_2
  try clear hfz11_3
  try clear hfz11_4
  try clear hfz12_0
  try clear hfz12_1
  try clear hfz12_2
  try clear hfz12_3
  try clear hfz12_4
  try clear hfz14_0
  try clear hfz14_1
  try clear hfz14_2
  try clear hfz14_3
  try clear hfz14_4
  try clear hfz15_0
  try clear hfz15_1
  try clear hfz15_2
  try clear hfz15_3
  try clear hfz15_4
  try clear hfz17_0
  try clear hfz17_1
  try clear hfz17_2
  try clear hfz17_3
  try clear hfz17_4
  try clear hfz18_0
  try clear hfz18_1
  try clear hfz18_2
  try clear hfz18_3
  try clear hfz18_4
  try clear hfz20_0
  try clear hfz20_1
  try clear hfz20_2
  try clear hfz20_3
  try clear hfz20_4
  try clear hfz21_0
  try clear hfz21_1
  try clear hfz21_2
  try clear hfz21_3
  try clear hfz21_4
  try clear hfz23_0
  try clear hfz23_1
  try clear hfz23_2
  try clear hfz23_3
  try clear hfz23_4
  try clear hfz24_0
  try clear hfz24_1
  try clear hfz24_2
  try clear hfz24_3
  try clear hfz24_4
  try clear hfz26_0
  try clear hfz26_1
  try clear hfz26_2
  try clear hfz26_3
  try clear hfz26_4
  try clear hfz27_0
  try clear hfz27_1
  try clear hfz27_2
  try clear hfz27_3
  try clear hfz27_4
  try clear hfz29_0
  try clear hfz29_1
  try clear hfz29_2
  try clear hfz29_3
  try clear hfz29_4
  try clear hfz30_0
  try clear hfz30_1
  try clear hfz30_2
  try clear hfz30_3
  try clear hfz30_4
  obtain ⟨kq,x34_2,rfl,HA,HJ2,BK370,BK371,HB⟩ := hcut
  cases kq with
  | zero => exact absurd HA.out (by simp [q4_SameBasins.j0])
  | succ kj2 =>
   have H := HA.out
   clear HA
   simp only [q4_SameBasins.j0] at H
   by_cases c32 : x34_2 = true
   · subst c32
     replace H : (some false) = some r := by rw [if_pos rfl] at H;exact H
     obtain rfl := Option.some.inj H
     go_wp2
     repeat (go_quiet (fail);try go_wp2)
     go_ret
     exact ⟨by first | rfl | (simp [*] <;> rfl),by repeat (first | (with_reducible first | exact HB.out | refine below_set ?_ (Aside0.out (by assumption)) | apply below_alloc | apply pw_below_drewN) | exact HB.out)⟩
   · replace c32 := Bool.eq_false_iff.mpr c32
     subst c32
     replace H : (q4_SameBasins.l0 kj2 0 l0_0 a0_1 l0_2 a0_3 a0_4 l1_0 a1_1 l1_2 a1_3 a1_4) = some r := by rw [if_neg (show ¬ (false = true) by decide)] at H;exact H
     replace H' := am H
     go_wp2
     repeat (go_quiet (fail);try go_wp2)
     go_loopg [5] kj2 (fun kq v5 w' => ∃ (x5_2 : Int),v5 = .int .i64 x5_2 ∧ Aside0 (q4_SameBasins.l0 kq x5_2 l0_0 a0_1 l0_2 a0_3 a0_4 l1_0 a1_1 l1_2 a1_3 a1_4 = some r) ∧ Aside0 (kq ≤ kj2) ∧ Aside0 (w'.heap[gb370]? = some (.cells #[(.slice A0_0 l0_0.length c0_0),.int .i64 a0_1,(.slice A0_2 l0_2.length c0_2),.int .i64 a0_3,.int .i64 a0_4] 27 (0,0))) ∧ Aside0 (w'.heap[gb371]? = some (.cells #[(.slice A1_0 l1_0.length c1_0),.int .i64 a1_1,(.slice A1_2 l1_2.length c1_2),.int .i64 a1_3,.int .i64 a1_4] 27 (0,0))) ∧ Aside0 (Below w.heap.size w w'))
     case atStart => exact ⟨(0),(by first | rfl | (simp;done) | (simp [*];done)),H',⟨Nat.le_refl _⟩,⟨by (with_reducible repeat (first | refine blk_drewN ?_ _ | refine blk_drew ?_ | refine blk_alloc ?_ _));exact BK370.out⟩,⟨by (with_reducible repeat (first | refine blk_drewN ?_ _ | refine blk_drew ?_ | refine blk_alloc ?_ _));exact BK371.out⟩,⟨by repeat (first | (with_reducible first | exact HB.out | refine below_set ?_ (Aside0.out (by assumption)) | apply below_alloc | apply pw_below_drewN) | exact HB.out)⟩⟩
     case round =>
      clear H'
      try clear c1
      try clear c2
      try clear p2
      try clear c3
      try clear c5
      try clear c7
      try clear c8
      try clear c8b0
      try clear c8b1
      try clear c8b2
      try clear c9
      try clear c9b0
      try clear c9b1
      try clear c10
      try clear c16
      try clear c22
      try clear c28
      try clear c32
      try clear hcz11_0
      try clear hcz11_1
      try clear hcz11_2
      try clear hcz11_3
      try clear hcz11_4
      try clear hcz12_0
      try clear hcz12_1
      try clear hcz12_2
      try clear hcz12_3
      try clear hcz12_4
      try clear hcz14_0
      try clear hcz14_1
      try clear hcz14_2
      try clear hcz14_3
      try clear hcz14_4
      try clear hcz15_0
      try clear hcz15_1
      try clear hcz15_2
      try clear hcz15_3
      try clear hcz15_4
      try clear hcz17_0
      try clear hcz17_1
      try clear hcz17_2
      try clear hcz17_3
      try clear hcz17_4
      try clear hcz18_0
      try clear hcz18_1
      try clear hcz18_2
      try clear hcz18_3
      try clear hcz18_4
      try clear hcz20_0
      try clear hcz20_1
      try clear hcz20_2
      try clear hcz20_3
      try clear hcz20_4
      try clear hcz21_0
      try clear hcz21_1
      try clear hcz21_2
      try clear hcz21_3
      try clear hcz21_4
      try clear hcz23_0
      try clear hcz23_1
      try clear hcz23_2
      try clear hcz23_3
      try clear hcz23_4
      try clear hcz24_0
      try clear hcz24_1
      try clear hcz24_2
      try clear hcz24_3
      try clear hcz24_4
      try clear hcz26_0
      try clear hcz26_1
      try clear hcz26_2
      try clear hcz26_3
      try clear hcz26_4
      try clear hcz27_0
      try clear hcz27_1
      try clear hcz27_2
      try clear hcz27_3
      try clear hcz27_4
      try clear hcz29_0
      try clear hcz29_1
      try clear hcz29_2
      try clear hcz29_3
      try clear hcz29_4
      try clear hcz30_0
      try clear hcz30_1
      try clear hcz30_2
      try clear hcz30_3
      try clear hcz30_4
      try clear hfz11_0
      try clear hfz11_1
      try clear hfz11_2
      try clear hfz11_3
      try clear hfz11_4
      try clear hfz12_0
      try clear hfz12_1
      try clear hfz12_2
      try clear hfz12_3
      try clear hfz12_4
      try clear hfz14_0
      try clear hfz14_1
      try clear hfz14_2
      try clear hfz14_3
      try clear hfz14_4
      try clear hfz15_0
      try clear hfz15_1
      try clear hfz15_2
      try clear hfz15_3
      try clear hfz15_4
      try clear hfz17_0
      try clear hfz17_1
      try clear hfz17_2
      try clear hfz17_3
      try clear hfz17_4
      try clear hfz18_0
      try clear hfz18_1
      try clear hfz18_2
      try clear hfz18_3
      try clear hfz18_4
      try clear hfz20_0
      try clear hfz20_1
      try clear hfz20_2
      try clear hfz20_3
      try clear hfz20_4
      try clear hfz21_0
      try clear hfz21_1
      try clear hfz21_2
      try clear hfz21_3
      try clear hfz21_4
      try clear hfz23_0
      try clear hfz23_1
      try clear hfz23_2
      try clear hfz23_3
      try clear hfz23_4
      try clear hfz24_0
      try clear hfz24_1
      try clear hfz24_2
      try clear hfz24_3
      try clear hfz24_4
      try clear hfz26_0
      try clear hfz26_1
      try clear hfz26_2
      try clear hfz26_3
      try clear hfz26_4
      try clear hfz27_0
      try clear hfz27_1
      try clear hfz27_2
      try clear hfz27_3
      try clear hfz27_4
      try clear hfz29_0
      try clear hfz29_1
      try clear hfz29_2
      try clear hfz29_3
      try clear hfz29_4
      try clear hfz30_0
      try clear hfz30_1
      try clear hfz30_2
      try clear hfz30_3
      try clear hfz30_4
      try clear p2
      obtain ⟨x5_2,rfl,HA,HK2,BK370,BK371,HB⟩ := hrel
      cases gk with
      | zero => exact absurd HA.out (by simp [q4_SameBasins.l0])
      | succ k2 =>
       have H := HA.out
       clear HA
       simp only [q4_SameBasins.l0] at H
       by_cases c33 : x5_2 < (l0_2.length : Int)
       case neg =>
        rw [if_neg c33] at H
        have c33b0 : decide (x5_2 < (l0_2.length : Int)) = false := decide_eq_false c33
        clear c33
        obtain rfl := Option.some.inj H
        have hnb43 := NB370_371.out
        have hnc43 := NB371_370.out
        obtain ⟨hcz44_0,hcz44_1,hcz44_2,hcz44_3,hcz44_4⟩ := cO5 BK370.out
        have hfz44_0 := blk_frozen BK370.out 0
        have hfz44_1 := blk_frozen BK370.out 1
        have hfz44_2 := blk_frozen BK370.out 2
        have hfz44_3 := blk_frozen BK370.out 3
        have hfz44_4 := blk_frozen BK370.out 4
        go_wp2
        repeat (go_quiet (fail);try go_wp2)
        go_ret
        exact ⟨by first | rfl | (simp [*] <;> rfl),by repeat (first | (with_reducible first | exact HB.out | refine below_set ?_ (Aside0.out (by assumption)) | apply below_alloc | apply pw_below_drewN) | exact HB.out)⟩
       rw [if_pos c33] at H
       have c33b0 : decide (x5_2 < (l0_2.length : Int)) = true := decide_eq_true c33
       clear c33
       by_cases c34 : 0 ≤ x5_2
       case neg =>
        rw [if_neg c34] at H
        exact absurd H (by simp)
       rw [if_pos c34] at H
       have c34b0 : decide (0 ≤ x5_2) = true := decide_eq_true c34
       clear c34
       by_cases c35 : x5_2 < (l1_2.length : Int)
       case neg =>
        rw [if_neg c35] at H
        exact absurd H (by simp)
       rw [if_pos c35] at H
       have c35b0 : decide (x5_2 < (l1_2.length : Int)) = true := decide_eq_true c35
       clear c35
       by_cases c36 : (!(((rd_T48 l0_2 x5_2).f0) == ((rd_T48 l1_2 x5_2).f0)) || (!(((rd_T48 l0_2 x5_2).f1) == ((rd_T48 l1_2 x5_2).f1)))) = true
       · rw [if_pos c36] at H
         have c36b0 : (!(((rd_T48 l0_2 x5_2).f0) == ((rd_T48 l1_2 x5_2).f0)) || (!(((rd_T48 l0_2 x5_2).f1) == ((rd_T48 l1_2 x5_2).f1)))) = true := c36
         clear c36
         obtain rfl := Option.some.inj H
         have hnb37 := NB370_371.out
         have hnc37 := NB371_370.out
         obtain ⟨hcz38_0,hcz38_1,hcz38_2,hcz38_3,hcz38_4⟩ := cO5 BK370.out
         have hfz38_0 := blk_frozen BK370.out 0
         have hfz38_1 := blk_frozen BK370.out 1
         have hfz38_2 := blk_frozen BK370.out 2
         have hfz38_3 := blk_frozen BK370.out 3
         have hfz38_4 := blk_frozen BK370.out 4
         have p373 : 0 ≤ (x5_2 : Int) := of_decide_eq_true (by assumption)
         have q373 : x5_2 < (l0_2.length : Int) := of_decide_eq_true (by assumption)
         obtain ⟨ad373,e373,hx373_0,hx373_1⟩ := at_T48 HR0_2.out x5_2 p373 q373
         cases e373
         replace hx373_0 := (HB.out.cell (wbl hx373_0)).trans hx373_0
         replace hx373_1 := (HB.out.cell (wbl hx373_1)).trans hx373_1
         replace p373 := eq_true p373
         replace q373 := eq_true q373
         obtain ⟨hcz39_0,hcz39_1,hcz39_2,hcz39_3,hcz39_4⟩ := cO5 BK371.out
         have hfz39_0 := blk_frozen BK371.out 0
         have hfz39_1 := blk_frozen BK371.out 1
         have hfz39_2 := blk_frozen BK371.out 2
         have hfz39_3 := blk_frozen BK371.out 3
         have hfz39_4 := blk_frozen BK371.out 4
         have p374 : 0 ≤ (x5_2 : Int) := of_decide_eq_true (by assumption)
         have q374 : x5_2 < (l1_2.length : Int) := of_decide_eq_true (by assumption)
         obtain ⟨ad374,e374,hx374_0,hx374_1⟩ := at_T48 HR1_2.out x5_2 p374 q374
         cases e374
         replace hx374_0 := (HB.out.cell (wbl hx374_0)).trans hx374_0
         replace hx374_1 := (HB.out.cell (wbl hx374_1)).trans hx374_1
         replace p374 := eq_true p374
         replace q374 := eq_true q374
         go_wp2
         repeat (go_quiet (fail);try go_wp2)
         go_ret
         exact ⟨by first | rfl | (simp [*] <;> rfl),by repeat (first | (with_reducible first | exact HB.out | refine below_set ?_ (Aside0.out (by assumption)) | apply below_alloc | apply pw_below_drewN) | exact HB.out)⟩
       · rw [if_neg c36] at H
         have c36b0 : (!(((rd_T48 l0_2 x5_2).f0) == ((rd_T48 l1_2 x5_2).f0)) || (!(((rd_T48 l0_2 x5_2).f1) == ((rd_T48 l1_2 x5_2).f1)))) = false := by simpa using c36
         clear c36
         replace H' := am H
         have hnb40 := NB370_371.out
         have hnc40 := NB371_370.out
         obtain ⟨hcz41_0,hcz41_1,hcz41_2,hcz41_3,hcz41_4⟩ := cO5 BK370.out
         have hfz41_0 := blk_frozen BK370.out 0
         have hfz41_1 := blk_frozen BK370.out 1
         have hfz41_2 := blk_frozen BK370.out 2
         have hfz41_3 := blk_frozen BK370.out 3
         have hfz41_4 := blk_frozen BK370.out 4
         have p373 : 0 ≤ (x5_2 : Int) := of_decide_eq_true (by assumption)
         have q373 : x5_2 < (l0_2.length : Int) := of_decide_eq_true (by assumption)
         obtain ⟨ad373,e373,hx373_0,hx373_1⟩ := at_T48 HR0_2.out x5_2 p373 q373
         cases e373
         replace hx373_0 := (HB.out.cell (wbl hx373_0)).trans hx373_0
         replace hx373_1 := (HB.out.cell (wbl hx373_1)).trans hx373_1
         replace p373 := eq_true p373
         replace q373 := eq_true q373
         obtain ⟨hcz42_0,hcz42_1,hcz42_2,hcz42_3,hcz42_4⟩ := cO5 BK371.out
         have hfz42_0 := blk_frozen BK371.out 0
         have hfz42_1 := blk_frozen BK371.out 1
         have hfz42_2 := blk_frozen BK371.out 2
         have hfz42_3 := blk_frozen BK371.out 3
         have hfz42_4 := blk_frozen BK371.out 4
         have p374 : 0 ≤ (x5_2 : Int) := of_decide_eq_true (by assumption)
         have q374 : x5_2 < (l1_2.length : Int) := of_decide_eq_true (by assumption)
         obtain ⟨ad374,e374,hx374_0,hx374_1⟩ := at_T48 HR1_2.out x5_2 p374 q374
         cases e374
         replace hx374_0 := (HB.out.cell (wbl hx374_0)).trans hx374_0
         replace hx374_1 := (HB.out.cell (wbl hx374_1)).trans hx374_1
         replace p374 := eq_true p374
         replace q374 := eq_true q374
         go_wp2
         repeat (go_quiet (fail);try go_wp2)
         go_roundg k2
         case measure => have := HJ2.out;have := HK2.out;omega
         case rel => exact ⟨(wrap64 (x5_2 + 1)),(by first | rfl | (simp;done) | (simp [*];done)),H',⟨by have := HJ2.out;have := HK2.out;omega⟩,⟨by (with_reducible repeat (first | refine blk_drewN ?_ _ | refine blk_drew ?_ | refine blk_alloc ?_ _));exact BK370.out⟩,⟨by (with_reducible repeat (first | refine blk_drewN ?_ _ | refine blk_drew ?_ | refine blk_alloc ?_ _));exact BK371.out⟩,⟨by repeat (first | (with_reducible first | exact HB.out | refine below_set ?_ (Aside0.out (by assumption)) | apply below_alloc | apply pw_below_drewN) | exact HB.out)⟩⟩
end
def Pred_isBasin (g : Nat) (q : S48 → Option Bool) (w : World) (xs : List S48) : Prop := ∀ (x : S48) (b : Bool) (W : World) , x ∈ xs → q x = some b → Below w.heap.size w W → 
 Calls Tryz.prog 102 #[.agg #[.int .i64 x.f0,.int .i64 x.f1],.pointer (some ⟨g,0,none⟩)] W fun e W' => e = .returned (.bool b) ∧ Below W.heap.size W W'
theorem idx_isBasin (g : Nat) (q : S48 → Option Bool) (A : Option Addr) (c : Nat) (xs : List S48) (r : Int) (w : World) (hr : Kd.C k48 w A xs.length xs) (hp : Pred_isBasin g q w xs) (h : idxM q xs 0 = some r) :
 Calls Tryz.prog 128 #[.slice A xs.length c,.func (.func 102) #[] #[.pointer (some ⟨g,0,none⟩)]] w fun e w' => e = .returned (.int .i64 r) ∧ Below w.heap.size w w' := by
 have huE := Tryz.underlying48
 have HR := am hr
 have HP := am hp
 have HQ := am (show idxM q (xs.drop (0 : Int).toNat) 0 = some r from h)
 have hm : xs.length ≤ 9223372036854775807 := Kd.C_max hr
 clear hr hp h
 go_enter Tryz.func128,Tryz.ntmps128
 go_wp2
 go_loopw [5,8] (fun v5 v8 w' => ∃ i : Int,0 ≤ i ∧ i ≤ xs.length ∧ v8 = .int .i64 i ∧ Aside0 (idxM q (xs.drop i.toNat) i = some r) ∧ Aside0 (Below w.heap.size w w')) (fun _ v8 _ => xs.length - (intOf v8).toNat)
 case atStart => exact ⟨0,by omega,by omega,rfl,HQ,⟨Below.refl _ _⟩⟩
 case round =>
  clear HQ
  obtain ⟨i,p1,hi,rfl,HQ,HB⟩ := hrel
  by_cases hlt : i < (xs.length : Int)
  case neg =>
   go_wp2
   go_ret
   exact ⟨ret_int_eq (idxM_end (by omega) HQ.out),HB.out⟩
  obtain ⟨ad,e1,hx0,hx1⟩ := at_T48 HR.out i p1 hlt
  cases e1
  replace hx0 := (HB.out.cell (wbl hx0)).trans hx0
  replace hx1 := (HB.out.cell (wbl hx1)).trans hx1
  rcases idxM_step z48 p1 hlt HQ.out with ⟨hq,he⟩ | ⟨hq,hn⟩
  · have H1 := am hq
    have X1 := am (getD_mem z48 p1 hlt)
    have H2 := am he
    clear hq he
    go_wp2_with (go_at_call 102;refine (HP.out (xs.getD i.toNat z48) _ _ X1.out H1.out HB.out).mono ?_;rintro e W' ⟨rfl,hb⟩)
    go_ret
    exact ⟨ret_int_eq H2.out,below_then HB.out HB.out.size hb⟩
  · have H1 := am hq
    have X1 := am (getD_mem z48 p1 hlt)
    have H2 := am hn
    clear hq hn
    go_wp2_with (go_at_call 102;refine (HP.out (xs.getD i.toNat z48) _ _ X1.out H1.out HB.out).mono ?_;rintro e W' ⟨rfl,hb⟩)
    go_roundw
    case rel => exact ⟨i + 1,by omega,by omega,by go_num,H2,⟨below_then HB.out HB.out.size hb⟩⟩
    case measure => simp [intOf];omega
theorem any_isBasin (g : Nat) (q : S48 → Option Bool) (A : Option Addr) (c : Nat) (xs : List S48) (r : Bool) (w : World) (hr : Kd.C k48 w A xs.length xs) (hp : Pred_isBasin g q w xs) (h : anyM q xs = some r) :
 Calls Tryz.prog 104 #[.slice A xs.length c,.func (.func 102) #[] #[.pointer (some ⟨g,0,none⟩)]] w fun e w' => e = .returned (.bool r) ∧ Below w.heap.size w w' := by
 obtain ⟨j,hj,hd⟩ := idxM_of_anyM q xs 0 r (by omega) h
 have H1 := am hj
 have H2 := am hd
 have HR := am hr
 have HP := am hp
 clear hr hp h hj hd
 go_enter Tryz.func104,Tryz.ntmps104
 go_wp2_with (go_at_call 128;refine (idx_isBasin g q _ _ xs j _ HR.out HP.out H1.out).mono ?_;rintro e W' ⟨rfl,hb⟩)
 go_ret
 exact ⟨ret_bool_eq H2.out,hb⟩
section
attribute [local go_sem] max2_int min2_int max_two min_two
def nz_in.f (a0 : Int) (a1 : Int) (a2 : Int) : Option (Bool) := if a0 ≥ a1 then (some (decide (a0 ≤ a2))) else (some false)
theorem nz_in.calls (a0 : Int) (a1 : Int) (a2 : Int) (r : Bool) (w : World) (h : nz_in.f a0 a1 a2 = some r) :
 Calls Tryz.prog 135 #[.int .i64 a0,.int .i64 a1,.int .i64 a2] w fun e w' => e = .returned (.bool r) ∧ Drawn0 w w' := by
 have H : (if a0 ≥ a1 then (some (decide (a0 ≤ a2))) else (some false)) = some r := h
 clear h
 by_cases c4 : a0 ≥ a1
 · rw [if_pos c4] at H
   have c4b0 : decide (a1 ≤ a0) = true := decide_eq_true c4
   clear c4
   obtain rfl := Option.some.inj H
   go_enter Tryz.func135,Tryz.ntmps135
   go_wp2
   go_ret
   exact ⟨by first | rfl | (simp;done) | (simp [*];done),by repeat (first | exact Drawn0.refl _ | apply Drawn0.step)⟩
 · rw [if_neg c4] at H
   have c4b0 : decide (a1 ≤ a0) = false := decide_eq_false c4
   clear c4
   obtain rfl := Option.some.inj H
   go_enter Tryz.func135,Tryz.ntmps135
   go_wp2
   go_ret
   exact ⟨by first | rfl | (simp;done) | (simp [*];done),by repeat (first | exact Drawn0.refl _ | apply Drawn0.step)⟩
def nz_isTable_1.f (a0_0 : Int) (a0_1 : Int) (a0_2 : Int) : Option (Bool) := (nz_in.f a0_0 1 60).bind fun t1054 => (if t1054 = true then ((nz_in.f a0_1 1 60).bind fun t1055 => (if t1055 = true then ((nz_in.f a0_2 1 1000).bind fun t1056 => (some (!t1056))) else (some true))) else (some true))
theorem nz_isTable_1.calls (a0_0 : Int) (a0_1 : Int) (a0_2 : Int) (r : Bool) (w : World) (h : nz_isTable_1.f a0_0 a0_1 a0_2 = some r) :
 Calls Tryz.prog 137 #[.agg #[.int .i64 a0_0,.int .i64 a0_1,.int .i64 a0_2]] w fun e w' => e = .returned (.bool r) ∧ Below w.heap.size w w' := by
 have hu126 := Tryz.underlying126
 have HB := am (Below.refl w.heap.size w)
 have H : ((nz_in.f a0_0 1 60).bind fun t1054 => (if t1054 = true then ((nz_in.f a0_1 1 60).bind fun t1055 => (if t1055 = true then ((nz_in.f a0_2 1 1000).bind fun t1056 => (some (!t1056))) else (some true))) else (some true))) = some r := h
 clear h
 replace H := obm H
 obtain ⟨t1054,A20,H⟩ := H
 replace H : (if t1054 = true then ((nz_in.f a0_1 1 60).bind fun t1055 => (if t1055 = true then ((nz_in.f a0_2 1 1000).bind fun t1056 => (some (!t1056))) else (some true))) else (some true)) = some r := H
 have A2 := am A20
 clear A20
 by_cases c3 : t1054 = true
 case neg =>
  replace c3 := Bool.eq_false_iff.mpr c3
  subst c3
  replace H : (some true) = some r := by rw [if_neg (show ¬ (false = true) by decide)] at H;exact H
  obtain rfl := Option.some.inj H
  go_enter Tryz.func137,Tryz.ntmps137
  go_wp2_with (first | ((refine gate_dst (N := 1) rfl ?_);refine box_event rfl (N := 1) rfl (cs := #[.int .i64 a0_0,.int .i64 a0_1,.int .i64 a0_2]) (t := 126) ?hr ?_;(case hr => go_simp;try rfl);intro gb1053 hg w11 hbox hb;have BK1053 := am (hbox);have GW1053 := am (ge_new (HB.out) hg);have GE1053 := am (ge_new (HB.out) hg);replace HB := am (below_step (HB.out) hb);clear hb hbox hg;obtain ⟨hcz12_0,hcz12_1,hcz12_2⟩ := cO3 BK1053.out) | ((with_reducible refine gate_callee (f := 135) rfl ?_);refine goesL_ (some 5) rfl rfl Tryz.func135 (by kernel_rfl) rfl #[.int .i64 a0_0,.int .i64 1,.int .i64 60] rfl (by (try simp only [List.map_toArray,List.map_cons,List.map_nil]);first | done | rfl | (simp only [List.length_drop,List.length_take];rfl)) ?_;(with_reducible refine (nz_in.calls a0_0 1 60 false _ A2.out).mono ?_);rintro e w' ⟨rfl,⟨nd,rfl⟩⟩;refine ⟨_,rfl,?_⟩))
  go_ret
  exact ⟨by first | rfl | (simp [*] <;> rfl),pw_below_drewN HB.out _⟩
 subst c3
 replace H : ((nz_in.f a0_1 1 60).bind fun t1055 => (if t1055 = true then ((nz_in.f a0_2 1 1000).bind fun t1056 => (some (!t1056))) else (some true))) = some r := by rw [if_pos rfl] at H;exact H
 replace H := obm H
 obtain ⟨t1055,A40,H⟩ := H
 replace H : (if t1055 = true then ((nz_in.f a0_2 1 1000).bind fun t1056 => (some (!t1056))) else (some true)) = some r := H
 have A4 := am A40
 clear A40
 by_cases c5 : t1055 = true
 case neg =>
  replace c5 := Bool.eq_false_iff.mpr c5
  subst c5
  replace H : (some true) = some r := by rw [if_neg (show ¬ (false = true) by decide)] at H;exact H
  obtain rfl := Option.some.inj H
  go_enter Tryz.func137,Tryz.ntmps137
  go_wp2_with (first | ((refine gate_dst (N := 1) rfl ?_);refine box_event rfl (N := 1) rfl (cs := #[.int .i64 a0_0,.int .i64 a0_1,.int .i64 a0_2]) (t := 126) ?hr ?_;(case hr => go_simp;try rfl);intro gb1053 hg w9 hbox hb;have BK1053 := am (hbox);have GW1053 := am (ge_new (HB.out) hg);have GE1053 := am (ge_new (HB.out) hg);replace HB := am (below_step (HB.out) hb);clear hb hbox hg;obtain ⟨hcz10_0,hcz10_1,hcz10_2⟩ := cO3 BK1053.out) | ((with_reducible refine gate_callee (f := 135) rfl ?_);refine goesL_ (some 5) rfl rfl Tryz.func135 (by kernel_rfl) rfl #[.int .i64 a0_0,.int .i64 1,.int .i64 60] rfl (by (try simp only [List.map_toArray,List.map_cons,List.map_nil]);first | done | rfl | (simp only [List.length_drop,List.length_take];rfl)) ?_;(with_reducible refine (nz_in.calls a0_0 1 60 true _ A2.out).mono ?_);rintro e w' ⟨rfl,⟨nd,rfl⟩⟩;refine ⟨_,rfl,?_⟩) | (go_at_call 135;(with_reducible refine (nz_in.calls a0_1 1 60 false _ A4.out).mono ?_);rintro e w' ⟨rfl,⟨nd,rfl⟩⟩))
  go_ret
  exact ⟨by first | rfl | (simp [*] <;> rfl),pw_below_drewN HB.out _⟩
 subst c5
 replace H : ((nz_in.f a0_2 1 1000).bind fun t1056 => (some (!t1056))) = some r := by rw [if_pos rfl] at H;exact H
 replace H := obm H
 obtain ⟨t1056,A60,H⟩ := H
 replace H : (some (!t1056)) = some r := H
 have A6 := am A60
 clear A60
 obtain rfl := Option.some.inj H
 go_enter Tryz.func137,Tryz.ntmps137
 go_wp2_with (first | ((refine gate_dst (N := 1) rfl ?_);refine box_event rfl (N := 1) rfl (cs := #[.int .i64 a0_0,.int .i64 a0_1,.int .i64 a0_2]) (t := 126) ?hr ?_;(case hr => go_simp;try rfl);intro gb1053 hg w7 hbox hb;have BK1053 := am (hbox);have GW1053 := am (ge_new (HB.out) hg);have GE1053 := am (ge_new (HB.out) hg);replace HB := am (below_step (HB.out) hb);clear hb hbox hg;obtain ⟨hcz8_0,hcz8_1,hcz8_2⟩ := cO3 BK1053.out) | ((with_reducible refine gate_callee (f := 135) rfl ?_);refine goesL_ (some 5) rfl rfl Tryz.func135 (by kernel_rfl) rfl #[.int .i64 a0_0,.int .i64 1,.int .i64 60] rfl (by (try simp only [List.map_toArray,List.map_cons,List.map_nil]);first | done | rfl | (simp only [List.length_drop,List.length_take];rfl)) ?_;(with_reducible refine (nz_in.calls a0_0 1 60 true _ A2.out).mono ?_);rintro e w' ⟨rfl,⟨nd,rfl⟩⟩;refine ⟨_,rfl,?_⟩) | (go_at_call 135;(with_reducible refine (nz_in.calls a0_1 1 60 true _ A4.out).mono ?_);rintro e w' ⟨rfl,⟨nd,rfl⟩⟩) | (go_at_call 135;(with_reducible refine (nz_in.calls a0_2 1 1000 t1056 _ A6.out).mono ?_);rintro e w' ⟨rfl,⟨nd,rfl⟩⟩))
 go_ret
 exact ⟨by first | rfl | (simp [*] <;> rfl),pw_below_drewN HB.out _⟩
end
end Go.Proofs.YtnnmnhpeblhiiaaGreatDoor.C

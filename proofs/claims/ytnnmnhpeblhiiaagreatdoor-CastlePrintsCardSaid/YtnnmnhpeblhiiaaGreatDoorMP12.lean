/- A part of the proof: the walks of the functions that it reaches. TIGHT. -/
import Derived.Test.YtnnmnhpeblhiiaaGreatDoorMP11
set_option linter.unusedVariables false
set_option linter.unusedSimpArgs false
namespace Go.Proofs.YtnnmnhpeblhiiaaGreatDoor.C
open Go.RowKit Go.Proofs.YtnnmnhpeblhiiaaGreatDoorW.PrintWords Go.Proofs.YtnnmnhpeblhiiaaGreatDoorW.PrintLast Go.Proofs.YtnnmnhpeblhiiaaGreatDoorW.PrintMore
set_option linter.unusedVariables false
set_option linter.unusedSimpArgs false
set_option maxHeartbeats 16000000
set_option maxRecDepth 100000
section
attribute [local go_sem] max2_int min2_int max_two min_two
attribute [local go_sem high] eqA126
mutual
def q3_SameTables.j0 : Nat → Bool → List (S126) → Int → List (S126) → Int → Option (Bool)
 | 0,_,_,_,_,_ => none
 | k + 1,x19,x367000,x367001,x368000,x368001 => if x19 = true then (some false) else (q3_SameTables.l0 k 0 x367000 x367001 x368000 x368001)
def q3_SameTables.l0 : Nat → Int → List (S126) → Int → List (S126) → Int → Option (Bool)
 | 0,_,_,_,_,_ => none
 | k + 1,x5,x367000,x367001,x368000,x368001 => if x5 < (x367000.length : Int) then (if 0 ≤ x5 then (if x5 < (x368000.length : Int) then (if (!(((rd_T126 x367000 x5).f0) == ((rd_T126 x368000 x5).f0)) || (!(((rd_T126 x367000 x5).f1) == ((rd_T126 x368000 x5).f1)) || (!(((rd_T126 x367000 x5).f2) == ((rd_T126 x368000 x5).f2))))) = true then (some false) else (q3_SameTables.l0 k (wrap64 (x5 + 1)) x367000 x367001 x368000 x368001)) else (none)) else (none)) else (some true)
end
def q3_SameTables.f (k : Nat) (l0_0 : List (S126)) (a0_1 : Int) (l1_0 : List (S126)) (a1_1 : Int) : Option (Bool) := if a0_1 = a1_1 then (q3_SameTables.j0 k ((l0_0.length : Int) != (l1_0.length : Int)) l0_0 a0_1 l1_0 a1_1) else (q3_SameTables.j0 k true l0_0 a0_1 l1_0 a1_1)
theorem q3_SameTables.calls (k : Nat) (A0_0 : Option Addr) (c0_0 : Nat) (l0_0 : List (S126)) (a0_1 : Int) (A1_0 : Option Addr) (c1_0 : Nat) (l1_0 : List (S126)) (a1_1 : Int) (r : Bool) (w : World) (hr0_0 : Kd.C k126 w A0_0 l0_0.length l0_0) (hc0_0 : l0_0.length ≤ c0_0) (hr1_0 : Kd.C k126 w A1_0 l1_0.length l1_0) (hc1_0 : l1_0.length ≤ c1_0) (h : q3_SameTables.f k l0_0 a0_1 l1_0 a1_1 = some r) :
 Calls Tryz.prog 95 #[.agg #[.slice A0_0 l0_0.length c0_0,.int .i64 a0_1],.agg #[.slice A1_0 l1_0.length c1_0,.int .i64 a1_1]] w fun e w' => e = .returned (.bool r) ∧ Below w.heap.size w w' := by
 have hu24 := Tryz.underlying24
 have hu126 := Tryz.underlying126
 have HR0_0 := am hr0_0
 have HC0_0 := am hc0_0
 clear hr0_0 hc0_0
 have HR1_0 := am hr1_0
 have HC1_0 := am hc1_0
 clear hr1_0 hc1_0
 have HB := am (Below.refl w.heap.size w)
 have H : (if a0_1 = a1_1 then (q3_SameTables.j0 k ((l0_0.length : Int) != (l1_0.length : Int)) l0_0 a0_1 l1_0 a1_1) else (q3_SameTables.j0 k true l0_0 a0_1 l1_0 a1_1)) = some r := h
 clear h
 have HC3 := am H
 clear H
 go_enter Tryz.func95,Tryz.ntmps95
 go_upto_region 1 with (first | ((with_reducible refine gate_dst (N := 2) rfl ?_);(try (refine gate_guard (by rfl) ?_;dsimp only));refine box_event ?hg (N := 2) ?hd (cs := #[.slice A0_0 l0_0.length c0_0,.int .i64 a0_1]) (t := 24) ?hr ?_;(case hd => rfl);(case hg => rfl);(case hr => go_simp;try rfl);intro gb366 hg w4 hbox hb;have BK366 := am (hbox);have GW366 := am (ge_new (by repeat (first | (with_reducible first | exact HB.out | apply below_alloc | apply pw_below_drewN) | exact HB.out)) hg);have GE366 := am (ge_new (by repeat (first | (with_reducible first | exact HB.out | apply below_alloc | apply pw_below_drewN) | exact HB.out)) hg);replace HB := am (below_step (by repeat (first | (with_reducible first | exact HB.out | apply below_alloc | apply pw_below_drewN) | exact HB.out)) hb);clear hb hbox hg) | ((with_reducible refine gate_dst (N := 3) rfl ?_);(try (refine gate_guard (by rfl) ?_;dsimp only));refine box_event ?hg (N := 3) ?hd (cs := #[.slice A1_0 l1_0.length c1_0,.int .i64 a1_1]) (t := 24) ?hr ?_;(case hd => rfl);(case hg => rfl);(case hr => go_simp;try rfl);intro gb367 hg w5 hbox hb;have BK367 := am (hbox);have GW367 := am (ge_new (by repeat (first | (with_reducible first | exact HB.out | refine below_set ?_ GE366.out | apply below_alloc | apply pw_below_drewN) | exact HB.out)) hg);have GE367 := am (ge_new (by repeat (first | (with_reducible first | exact HB.out | refine below_set ?_ GE366.out | apply below_alloc | apply pw_below_drewN) | exact HB.out)) hg);have NB366_367 := am ((by rw [hg];exact Nat.ne_of_lt (blk_lt (g := gb366) (o := .cells #[.slice A0_0 l0_0.length c0_0,.int .i64 a0_1] 24 (0,0)) (by (with_reducible repeat (first | refine blk_drewN ?_ _ | refine blk_drew ?_ | refine blk_alloc ?_ _));exact BK366.out)) : gb366 ≠ gb367));have NB367_366 := am ((by rw [hg];exact Nat.ne_of_gt (blk_lt (g := gb366) (o := .cells #[.slice A0_0 l0_0.length c0_0,.int .i64 a0_1] 24 (0,0)) (by (with_reducible repeat (first | refine blk_drewN ?_ _ | refine blk_drew ?_ | refine blk_alloc ?_ _));exact BK366.out)) : gb367 ≠ gb366));replace BK366 := am (blk_below (g := gb366) (o := .cells #[.slice A0_0 l0_0.length c0_0,.int .i64 a0_1] 24 (0,0)) (by (with_reducible repeat (first | refine blk_drewN ?_ _ | refine blk_drew ?_ | refine blk_alloc ?_ _));exact BK366.out) hb);replace HB := am (below_step (by repeat (first | (with_reducible first | exact HB.out | refine below_set ?_ GE366.out | apply below_alloc | apply pw_below_drewN) | exact HB.out)) hb);clear hb hbox hg))
 repeat (go_quiet (first | ((with_reducible refine gate_dst (N := 2) rfl ?_);(try (refine gate_guard (by rfl) ?_;dsimp only));refine box_event ?hg (N := 2) ?hd (cs := #[.slice A0_0 l0_0.length c0_0,.int .i64 a0_1]) (t := 24) ?hr ?_;(case hd => rfl);(case hg => rfl);(case hr => go_simp;try rfl);intro gb366 hg w4 hbox hb;have BK366 := am (hbox);have GW366 := am (ge_new (by repeat (first | (with_reducible first | exact HB.out | apply below_alloc | apply pw_below_drewN) | exact HB.out)) hg);have GE366 := am (ge_new (by repeat (first | (with_reducible first | exact HB.out | apply below_alloc | apply pw_below_drewN) | exact HB.out)) hg);replace HB := am (below_step (by repeat (first | (with_reducible first | exact HB.out | apply below_alloc | apply pw_below_drewN) | exact HB.out)) hb);clear hb hbox hg) | ((with_reducible refine gate_dst (N := 3) rfl ?_);(try (refine gate_guard (by rfl) ?_;dsimp only));refine box_event ?hg (N := 3) ?hd (cs := #[.slice A1_0 l1_0.length c1_0,.int .i64 a1_1]) (t := 24) ?hr ?_;(case hd => rfl);(case hg => rfl);(case hr => go_simp;try rfl);intro gb367 hg w5 hbox hb;have BK367 := am (hbox);have GW367 := am (ge_new (by repeat (first | (with_reducible first | exact HB.out | refine below_set ?_ GE366.out | apply below_alloc | apply pw_below_drewN) | exact HB.out)) hg);have GE367 := am (ge_new (by repeat (first | (with_reducible first | exact HB.out | refine below_set ?_ GE366.out | apply below_alloc | apply pw_below_drewN) | exact HB.out)) hg);have NB366_367 := am ((by rw [hg];exact Nat.ne_of_lt (blk_lt (g := gb366) (o := .cells #[.slice A0_0 l0_0.length c0_0,.int .i64 a0_1] 24 (0,0)) (by (with_reducible repeat (first | refine blk_drewN ?_ _ | refine blk_drew ?_ | refine blk_alloc ?_ _));exact BK366.out)) : gb366 ≠ gb367));have NB367_366 := am ((by rw [hg];exact Nat.ne_of_gt (blk_lt (g := gb366) (o := .cells #[.slice A0_0 l0_0.length c0_0,.int .i64 a0_1] 24 (0,0)) (by (with_reducible repeat (first | refine blk_drewN ?_ _ | refine blk_drew ?_ | refine blk_alloc ?_ _));exact BK366.out)) : gb367 ≠ gb366));replace BK366 := am (blk_below (g := gb366) (o := .cells #[.slice A0_0 l0_0.length c0_0,.int .i64 a0_1] 24 (0,0)) (by (with_reducible repeat (first | refine blk_drewN ?_ _ | refine blk_drew ?_ | refine blk_alloc ?_ _));exact BK366.out) hb);replace HB := am (below_step (by repeat (first | (with_reducible first | exact HB.out | refine below_set ?_ GE366.out | apply below_alloc | apply pw_below_drewN) | exact HB.out)) hb);clear hb hbox hg));go_upto_region 1 with (first | ((with_reducible refine gate_dst (N := 2) rfl ?_);(try (refine gate_guard (by rfl) ?_;dsimp only));refine box_event ?hg (N := 2) ?hd (cs := #[.slice A0_0 l0_0.length c0_0,.int .i64 a0_1]) (t := 24) ?hr ?_;(case hd => rfl);(case hg => rfl);(case hr => go_simp;try rfl);intro gb366 hg w4 hbox hb;have BK366 := am (hbox);have GW366 := am (ge_new (by repeat (first | (with_reducible first | exact HB.out | apply below_alloc | apply pw_below_drewN) | exact HB.out)) hg);have GE366 := am (ge_new (by repeat (first | (with_reducible first | exact HB.out | apply below_alloc | apply pw_below_drewN) | exact HB.out)) hg);replace HB := am (below_step (by repeat (first | (with_reducible first | exact HB.out | apply below_alloc | apply pw_below_drewN) | exact HB.out)) hb);clear hb hbox hg) | ((with_reducible refine gate_dst (N := 3) rfl ?_);(try (refine gate_guard (by rfl) ?_;dsimp only));refine box_event ?hg (N := 3) ?hd (cs := #[.slice A1_0 l1_0.length c1_0,.int .i64 a1_1]) (t := 24) ?hr ?_;(case hd => rfl);(case hg => rfl);(case hr => go_simp;try rfl);intro gb367 hg w5 hbox hb;have BK367 := am (hbox);have GW367 := am (ge_new (by repeat (first | (with_reducible first | exact HB.out | refine below_set ?_ GE366.out | apply below_alloc | apply pw_below_drewN) | exact HB.out)) hg);have GE367 := am (ge_new (by repeat (first | (with_reducible first | exact HB.out | refine below_set ?_ GE366.out | apply below_alloc | apply pw_below_drewN) | exact HB.out)) hg);have NB366_367 := am ((by rw [hg];exact Nat.ne_of_lt (blk_lt (g := gb366) (o := .cells #[.slice A0_0 l0_0.length c0_0,.int .i64 a0_1] 24 (0,0)) (by (with_reducible repeat (first | refine blk_drewN ?_ _ | refine blk_drew ?_ | refine blk_alloc ?_ _));exact BK366.out)) : gb366 ≠ gb367));have NB367_366 := am ((by rw [hg];exact Nat.ne_of_gt (blk_lt (g := gb366) (o := .cells #[.slice A0_0 l0_0.length c0_0,.int .i64 a0_1] 24 (0,0)) (by (with_reducible repeat (first | refine blk_drewN ?_ _ | refine blk_drew ?_ | refine blk_alloc ?_ _));exact BK366.out)) : gb367 ≠ gb366));replace BK366 := am (blk_below (g := gb366) (o := .cells #[.slice A0_0 l0_0.length c0_0,.int .i64 a0_1] 24 (0,0)) (by (with_reducible repeat (first | refine blk_drewN ?_ _ | refine blk_drew ?_ | refine blk_alloc ?_ _));exact BK366.out) hb);replace HB := am (below_step (by repeat (first | (with_reducible first | exact HB.out | refine below_set ?_ GE366.out | apply below_alloc | apply pw_below_drewN) | exact HB.out)) hb);clear hb hbox hg)))
 (try simp only [Act.put,List.setIfInBounds_toArray,List.set_cons_zero,List.set_cons_succ])
 go_cut [19] (fun v19 wc => ∃ (kq : Nat) (x19_2 : Bool),v19 = .bool x19_2 ∧ Aside0 (q3_SameTables.j0 kq x19_2 l0_0 a0_1 l1_0 a1_1 = some r) ∧ Aside0 (kq ≤ k) ∧ Aside0 (wc.heap[gb366]? = some (.cells #[(.slice A0_0 l0_0.length c0_0),.int .i64 a0_1] 24 (0,0))) ∧ Aside0 (wc.heap[gb367]? = some (.cells #[(.slice A1_0 l1_0.length c1_0),.int .i64 a1_1] 24 (0,0))) ∧ Aside0 (Below w.heap.size w wc))
 case first =>
  have H := HC3.out
  clear HC3
  by_cases c6 : a0_1 = a1_1
  case neg =>
   rw [if_neg c6] at H
   have c6b0 : (a0_1 == a1_1) = false := beq_eq_false_iff_ne.mpr c6
   have c6b1 : (a0_1 != a1_1) = true := bne_iff_ne.mpr c6
   (first | rw [c6b0] | (simp only [i64_w,i32_w];rw [c6b0]) | skip)
   replace H' := am H
   have hnb10 := NB366_367.out
   have hnc10 := NB367_366.out
   obtain ⟨hcz11_0,hcz11_1⟩ := cO2 BK366.out
   have hfz11_0 := blk_frozen BK366.out 0
   have hfz11_1 := blk_frozen BK366.out 1
   obtain ⟨hcz12_0,hcz12_1⟩ := cO2 BK367.out
   have hfz12_0 := blk_frozen BK367.out 0
   have hfz12_1 := blk_frozen BK367.out 1
   go_wp2
   repeat (go_quiet (fail);try go_wp2)
   go_meet
   case rel => exact ⟨_,(true),(by first | rfl | (simp;done) | (simp [*];done)),H',⟨by first | omega | exact Nat.le_refl _⟩,⟨by (with_reducible repeat (first | refine blk_drewN ?_ _ | refine blk_drew ?_ | refine blk_alloc ?_ _));exact BK366.out⟩,⟨by (with_reducible repeat (first | refine blk_drewN ?_ _ | refine blk_drew ?_ | refine blk_alloc ?_ _));exact BK367.out⟩,⟨by repeat (first | (with_reducible first | exact HB.out | refine below_set ?_ (Aside0.out (by assumption)) | apply below_alloc | apply pw_below_drewN) | exact HB.out)⟩⟩
  rw [if_pos c6] at H
  have c6b0 : (a0_1 == a1_1) = true := beq_iff_eq.mpr c6
  have c6b1 : (a0_1 != a1_1) = false := bne_eq_false_iff_eq.mpr c6
  clear c6
  (first | rw [c6b0] | (simp only [i64_w,i32_w];rw [c6b0]) | skip)
  replace H' := am H
  have hnb7 := NB366_367.out
  have hnc7 := NB367_366.out
  obtain ⟨hcz8_0,hcz8_1⟩ := cO2 BK366.out
  have hfz8_0 := blk_frozen BK366.out 0
  have hfz8_1 := blk_frozen BK366.out 1
  obtain ⟨hcz9_0,hcz9_1⟩ := cO2 BK367.out
  have hfz9_0 := blk_frozen BK367.out 0
  have hfz9_1 := blk_frozen BK367.out 1
  go_wp2
  repeat (go_quiet (fail);try go_wp2)
  go_meet
  case rel => exact ⟨_,(((l0_0.length : Int) != (l1_0.length : Int))),(by first | rfl | (simp;done) | (simp [*];done)),H',⟨by first | omega | exact Nat.le_refl _⟩,⟨by (with_reducible repeat (first | refine blk_drewN ?_ _ | refine blk_drew ?_ | refine blk_alloc ?_ _));exact BK366.out⟩,⟨by (with_reducible repeat (first | refine blk_drewN ?_ _ | refine blk_drew ?_ | refine blk_alloc ?_ _));exact BK367.out⟩,⟨by repeat (first | (with_reducible first | exact HB.out | refine below_set ?_ (Aside0.out (by assumption)) | apply below_alloc | apply pw_below_drewN) | exact HB.out)⟩⟩
 case rest =>
  clear HC3
  try clear c1
  try clear p2
  try clear c6
  try clear c6b0
  try clear c6b1
  try clear c7
  try clear c9
  try clear c10
  try clear hcz11_0
  try clear hcz11_1
  try clear hcz12_0
  try clear hcz12_1
  try clear hcz8_0
  try clear hcz8_1
  try clear hcz9_0
  try clear hcz9_1
  try clear hfz11_0
  try clear hfz11_1
  try clear hfz12_0
  try clear hfz12_1
  try clear hfz8_0
  try clear hfz8_1
  try clear hfz9_0
  try clear hfz9_1
  obtain ⟨kq,x19_2,rfl,HA,HJ2,BK366,BK367,HB⟩ := hcut
  cases kq with
  | zero => exact absurd HA.out (by simp [q3_SameTables.j0])
  | succ kj2 =>
   have H := HA.out
   clear HA
   simp only [q3_SameTables.j0] at H
   by_cases c13 : x19_2 = true
   · subst c13
     replace H : (some false) = some r := by rw [if_pos rfl] at H;exact H
     obtain rfl := Option.some.inj H
     go_wp2
     repeat (go_quiet (fail);try go_wp2)
     go_ret
     exact ⟨by first | rfl | (simp [*] <;> rfl),by repeat (first | (with_reducible first | exact HB.out | refine below_set ?_ (Aside0.out (by assumption)) | apply below_alloc | apply pw_below_drewN) | exact HB.out)⟩
   · replace c13 := Bool.eq_false_iff.mpr c13
     subst c13
     replace H : (q3_SameTables.l0 kj2 0 l0_0 a0_1 l1_0 a1_1) = some r := by rw [if_neg (show ¬ (false = true) by decide)] at H;exact H
     replace H' := am H
     go_wp2
     repeat (go_quiet (fail);try go_wp2)
     go_loopg [5] kj2 (fun kq v5 w' => ∃ (x5_2 : Int),v5 = .int .i64 x5_2 ∧ Aside0 (q3_SameTables.l0 kq x5_2 l0_0 a0_1 l1_0 a1_1 = some r) ∧ Aside0 (kq ≤ kj2) ∧ Aside0 (w'.heap[gb366]? = some (.cells #[(.slice A0_0 l0_0.length c0_0),.int .i64 a0_1] 24 (0,0))) ∧ Aside0 (w'.heap[gb367]? = some (.cells #[(.slice A1_0 l1_0.length c1_0),.int .i64 a1_1] 24 (0,0))) ∧ Aside0 (Below w.heap.size w w'))
     case atStart => exact ⟨(0),(by first | rfl | (simp;done) | (simp [*];done)),H',⟨Nat.le_refl _⟩,⟨by (with_reducible repeat (first | refine blk_drewN ?_ _ | refine blk_drew ?_ | refine blk_alloc ?_ _));exact BK366.out⟩,⟨by (with_reducible repeat (first | refine blk_drewN ?_ _ | refine blk_drew ?_ | refine blk_alloc ?_ _));exact BK367.out⟩,⟨by repeat (first | (with_reducible first | exact HB.out | refine below_set ?_ (Aside0.out (by assumption)) | apply below_alloc | apply pw_below_drewN) | exact HB.out)⟩⟩
     case round =>
      clear H'
      try clear c1
      try clear p2
      try clear c6
      try clear c6b0
      try clear c6b1
      try clear c7
      try clear c9
      try clear c10
      try clear c13
      try clear hcz11_0
      try clear hcz11_1
      try clear hcz12_0
      try clear hcz12_1
      try clear hcz8_0
      try clear hcz8_1
      try clear hcz9_0
      try clear hcz9_1
      try clear hfz11_0
      try clear hfz11_1
      try clear hfz12_0
      try clear hfz12_1
      try clear hfz8_0
      try clear hfz8_1
      try clear hfz9_0
      try clear hfz9_1
      try clear p2
      obtain ⟨x5_2,rfl,HA,HK2,BK366,BK367,HB⟩ := hrel
      cases gk with
      | zero => exact absurd HA.out (by simp [q3_SameTables.l0])
      | succ k2 =>
       have H := HA.out
       clear HA
       simp only [q3_SameTables.l0] at H
       by_cases c14 : x5_2 < (l0_0.length : Int)
       case neg =>
        rw [if_neg c14] at H
        have c14b0 : decide (x5_2 < (l0_0.length : Int)) = false := decide_eq_false c14
        clear c14
        obtain rfl := Option.some.inj H
        have hnb24 := NB366_367.out
        have hnc24 := NB367_366.out
        obtain ⟨hcz25_0,hcz25_1⟩ := cO2 BK366.out
        have hfz25_0 := blk_frozen BK366.out 0
        have hfz25_1 := blk_frozen BK366.out 1
        go_wp2
        repeat (go_quiet (fail);try go_wp2)
        go_ret
        exact ⟨by first | rfl | (simp [*] <;> rfl),by repeat (first | (with_reducible first | exact HB.out | refine below_set ?_ (Aside0.out (by assumption)) | apply below_alloc | apply pw_below_drewN) | exact HB.out)⟩
       rw [if_pos c14] at H
       have c14b0 : decide (x5_2 < (l0_0.length : Int)) = true := decide_eq_true c14
       clear c14
       by_cases c15 : 0 ≤ x5_2
       case neg =>
        rw [if_neg c15] at H
        exact absurd H (by simp)
       rw [if_pos c15] at H
       have c15b0 : decide (0 ≤ x5_2) = true := decide_eq_true c15
       clear c15
       by_cases c16 : x5_2 < (l1_0.length : Int)
       case neg =>
        rw [if_neg c16] at H
        exact absurd H (by simp)
       rw [if_pos c16] at H
       have c16b0 : decide (x5_2 < (l1_0.length : Int)) = true := decide_eq_true c16
       clear c16
       by_cases c17 : (!(((rd_T126 l0_0 x5_2).f0) == ((rd_T126 l1_0 x5_2).f0)) || (!(((rd_T126 l0_0 x5_2).f1) == ((rd_T126 l1_0 x5_2).f1)) || (!(((rd_T126 l0_0 x5_2).f2) == ((rd_T126 l1_0 x5_2).f2))))) = true
       · rw [if_pos c17] at H
         have c17b0 : (!(((rd_T126 l0_0 x5_2).f0) == ((rd_T126 l1_0 x5_2).f0)) || (!(((rd_T126 l0_0 x5_2).f1) == ((rd_T126 l1_0 x5_2).f1)) || (!(((rd_T126 l0_0 x5_2).f2) == ((rd_T126 l1_0 x5_2).f2))))) = true := c17
         clear c17
         obtain rfl := Option.some.inj H
         have hnb18 := NB366_367.out
         have hnc18 := NB367_366.out
         obtain ⟨hcz19_0,hcz19_1⟩ := cO2 BK366.out
         have hfz19_0 := blk_frozen BK366.out 0
         have hfz19_1 := blk_frozen BK366.out 1
         have p368 : 0 ≤ (x5_2 : Int) := of_decide_eq_true (by assumption)
         have q368 : x5_2 < (l0_0.length : Int) := of_decide_eq_true (by assumption)
         obtain ⟨ad368,e368,hx368_0,hx368_1,hx368_2⟩ := at_T126 HR0_0.out x5_2 p368 q368
         cases e368
         replace hx368_0 := (HB.out.cell (wbl hx368_0)).trans hx368_0
         replace hx368_1 := (HB.out.cell (wbl hx368_1)).trans hx368_1
         replace hx368_2 := (HB.out.cell (wbl hx368_2)).trans hx368_2
         replace p368 := eq_true p368
         replace q368 := eq_true q368
         obtain ⟨hcz20_0,hcz20_1⟩ := cO2 BK367.out
         have hfz20_0 := blk_frozen BK367.out 0
         have hfz20_1 := blk_frozen BK367.out 1
         have p369 : 0 ≤ (x5_2 : Int) := of_decide_eq_true (by assumption)
         have q369 : x5_2 < (l1_0.length : Int) := of_decide_eq_true (by assumption)
         obtain ⟨ad369,e369,hx369_0,hx369_1,hx369_2⟩ := at_T126 HR1_0.out x5_2 p369 q369
         cases e369
         replace hx369_0 := (HB.out.cell (wbl hx369_0)).trans hx369_0
         replace hx369_1 := (HB.out.cell (wbl hx369_1)).trans hx369_1
         replace hx369_2 := (HB.out.cell (wbl hx369_2)).trans hx369_2
         replace p369 := eq_true p369
         replace q369 := eq_true q369
         go_wp2
         repeat (go_quiet (fail);try go_wp2)
         go_ret
         exact ⟨by first | rfl | (simp [*] <;> rfl),by repeat (first | (with_reducible first | exact HB.out | refine below_set ?_ (Aside0.out (by assumption)) | apply below_alloc | apply pw_below_drewN) | exact HB.out)⟩
       · rw [if_neg c17] at H
         have c17b0 : (!(((rd_T126 l0_0 x5_2).f0) == ((rd_T126 l1_0 x5_2).f0)) || (!(((rd_T126 l0_0 x5_2).f1) == ((rd_T126 l1_0 x5_2).f1)) || (!(((rd_T126 l0_0 x5_2).f2) == ((rd_T126 l1_0 x5_2).f2))))) = false := by simpa using c17
         clear c17
         replace H' := am H
         have hnb21 := NB366_367.out
         have hnc21 := NB367_366.out
         obtain ⟨hcz22_0,hcz22_1⟩ := cO2 BK366.out
         have hfz22_0 := blk_frozen BK366.out 0
         have hfz22_1 := blk_frozen BK366.out 1
         have p368 : 0 ≤ (x5_2 : Int) := of_decide_eq_true (by assumption)
         have q368 : x5_2 < (l0_0.length : Int) := of_decide_eq_true (by assumption)
         obtain ⟨ad368,e368,hx368_0,hx368_1,hx368_2⟩ := at_T126 HR0_0.out x5_2 p368 q368
         cases e368
         replace hx368_0 := (HB.out.cell (wbl hx368_0)).trans hx368_0
         replace hx368_1 := (HB.out.cell (wbl hx368_1)).trans hx368_1
         replace hx368_2 := (HB.out.cell (wbl hx368_2)).trans hx368_2
         replace p368 := eq_true p368
         replace q368 := eq_true q368
         obtain ⟨hcz23_0,hcz23_1⟩ := cO2 BK367.out
         have hfz23_0 := blk_frozen BK367.out 0
         have hfz23_1 := blk_frozen BK367.out 1
         have p369 : 0 ≤ (x5_2 : Int) := of_decide_eq_true (by assumption)
         have q369 : x5_2 < (l1_0.length : Int) := of_decide_eq_true (by assumption)
         obtain ⟨ad369,e369,hx369_0,hx369_1,hx369_2⟩ := at_T126 HR1_0.out x5_2 p369 q369
         cases e369
         replace hx369_0 := (HB.out.cell (wbl hx369_0)).trans hx369_0
         replace hx369_1 := (HB.out.cell (wbl hx369_1)).trans hx369_1
         replace hx369_2 := (HB.out.cell (wbl hx369_2)).trans hx369_2
         replace p369 := eq_true p369
         replace q369 := eq_true q369
         go_wp2
         repeat (go_quiet (fail);try go_wp2)
         go_roundg k2
         case measure => have := HJ2.out;have := HK2.out;omega
         case rel => exact ⟨(wrap64 (x5_2 + 1)),(by first | rfl | (simp;done) | (simp [*];done)),H',⟨by have := HJ2.out;have := HK2.out;omega⟩,⟨by (with_reducible repeat (first | refine blk_drewN ?_ _ | refine blk_drew ?_ | refine blk_alloc ?_ _));exact BK366.out⟩,⟨by (with_reducible repeat (first | refine blk_drewN ?_ _ | refine blk_drew ?_ | refine blk_alloc ?_ _));exact BK367.out⟩,⟨by repeat (first | (with_reducible first | exact HB.out | refine below_set ?_ (Aside0.out (by assumption)) | apply below_alloc | apply pw_below_drewN) | exact HB.out)⟩⟩
end
end Go.Proofs.YtnnmnhpeblhiiaaGreatDoor.C

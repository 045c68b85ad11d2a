/- A part of the proof: the walks of the functions that it reaches. TIGHT. -/
import Derived.Test.YticlelgmmonloaaGreatDoorM17
set_option linter.unusedVariables false
set_option linter.unusedSimpArgs false
namespace Go.Proofs.YticlelgmmonloaaGreatDoor.C
open Go.RowKit Go.Proofs.YticlelgmmonloaaGreatDoorW.PrintWords Go.Proofs.YticlelgmmonloaaGreatDoorW.PrintLast Go.Proofs.YticlelgmmonloaaGreatDoorW.PrintMore
set_option linter.unusedVariables false
set_option linter.unusedSimpArgs false
set_option maxHeartbeats 16000000
set_option maxRecDepth 100000
section
attribute [local go_sem] max2_int min2_int max_two min_two
def gf_proves_P.f (l0_0 : List (S126)) (a0_1 : Int) (l0_2 : List (S64)) (a0_3 : Int) (a0_4 : Int) (l0_5 : List (List Int)) (a1_0 : Int) (a1_1 : Int) : Option (Int × Int) := (gf_out.f l0_0 a0_1 l0_2 a0_3 a0_4 l0_5 a1_0).bind fun t1013 => (if a1_1 < 40 then ((gf_out.f l0_0 a0_1 l0_2 a0_3 a0_4 l0_5 (wrap64 (a1_1 + 1))).bind fun t1015 => (if t1013 > (mn 10000 (wrap64 (t1015 - 1))) then (some (a1_0,a1_1)) else (none))) else (if t1013 > 10000 then (some (a1_0,a1_1)) else (none)))
def gf_proves_P.T3 : Bool × List (List Nat × List Nat) := (true,[([],[]),([0],[0]),([],[]),([],[]),([3],[3]),([4],[4]),([2,5],[2,5]),([6],[6]),([1,7],[1,7]),([0,1,2,3,4,5,6,7,8],[]),([9,8,6,0,1,2,3,4,5,6,7,8],[8,9])])
def gf_proves_P.B3 : List Nat := [0,1,0,0,8,24,60,124,255,511,1023]
theorem gf_proves_P.tab3 : rtab .any (opsOf Tryz.f72 3) = gf_proves_P.T3 := by kernel_rfl
theorem gf_proves_P.bits3 : waitsOk gf_proves_P.T3.2 gf_proves_P.B3 = true := by kernel_rfl
theorem gf_proves_P.calls (A0_0 : Option Addr) (c0_0 : Nat) (l0_0 : List (S126)) (a0_1 : Int) (A0_2 : Option Addr) (c0_2 : Nat) (l0_2 : List (S64)) (a0_3 : Int) (a0_4 : Int) (A0_5 : Option Addr) (c0_5 : Nat) (l0_5 : List (List Int)) (a1_0 : Int) (a1_1 : Int) (r1 : Int) (r2 : Int) (w : World) (hr0_0 : Kd.C k126 w A0_0 l0_0.length l0_0) (hc0_0 : l0_0.length ≤ c0_0) (hr0_2 : Kd.C k64 w A0_2 l0_2.length l0_2) (hc0_2 : l0_2.length ≤ c0_2) (hr0_5 : Kd.C (Kd.slice 3 (Kd.int .i64)) w A0_5 l0_5.length l0_5) (hc0_5 : l0_5.length ≤ c0_5) (h : gf_proves_P.f l0_0 a0_1 l0_2 a0_3 a0_4 l0_5 a1_0 a1_1 = some (r1,r2)) :
 Calls Tryz.prog 72 #[.agg #[.slice A0_0 l0_0.length c0_0,.int .i64 a0_1,.slice A0_2 l0_2.length c0_2,.int .i64 a0_3,.int .i64 a0_4,.slice A0_5 l0_5.length c0_5],.agg #[.int .i64 a1_0,.int .i64 a1_1]] w fun e w' => e = .panicked [{ v := .iface 135 (.agg #[.int .i64 r1,.int .i64 r2]),recovered := false }] ∧ Below w.heap.size w w' := by
 have hu99 := Tryz.underlying99
 have hu40 := Tryz.underlying40
 have hu135 := Tryz.underlying135
 have HR0_0 := am hr0_0
 have HC0_0 := am hc0_0
 clear hr0_0 hc0_0
 have HR0_2 := am hr0_2
 have HC0_2 := am hc0_2
 clear hr0_2 hc0_2
 have HR0_5 := am hr0_5
 have HC0_5 := am hc0_5
 clear hr0_5 hc0_5
 have HB := am (Below.refl w.heap.size w)
 have H : ((gf_out.f l0_0 a0_1 l0_2 a0_3 a0_4 l0_5 a1_0).bind fun t1013 => (if a1_1 < 40 then ((gf_out.f l0_0 a0_1 l0_2 a0_3 a0_4 l0_5 (wrap64 (a1_1 + 1))).bind fun t1015 => (if t1013 > (mn 10000 (wrap64 (t1015 - 1))) then (some (a1_0,a1_1)) else (none))) else (if t1013 > 10000 then (some (a1_0,a1_1)) else (none)))) = some (r1,r2) := h
 clear h
 replace H := obm H
 obtain ⟨t1013,A30,H⟩ := H
 replace H : (if a1_1 < 40 then ((gf_out.f l0_0 a0_1 l0_2 a0_3 a0_4 l0_5 (wrap64 (a1_1 + 1))).bind fun t1015 => (if t1013 > (mn 10000 (wrap64 (t1015 - 1))) then (some (a1_0,a1_1)) else (none))) else (if t1013 > 10000 then (some (a1_0,a1_1)) else (none))) = some (r1,r2) := H
 have A3 := am A30
 clear A30
 by_cases c4 : a1_1 < 40
 case neg =>
  rw [if_neg c4] at H
  have c4b0 : decide (a1_1 < 40) = false := decide_eq_false c4
  clear c4
  by_cases c29 : t1013 > 10000
  case neg =>
   rw [if_neg c29] at H
   have c29b0 : decide (10000 < t1013) = false := decide_eq_false c29
   clear c29
   exact absurd H (by simp)
  rw [if_pos c29] at H
  have c29b0 : decide (10000 < t1013) = true := decide_eq_true c29
  clear c29
  simp only [Option.some.injEq,Prod.mk.injEq] at H
  obtain ⟨rfl,rfl⟩ := H
  go_enter Tryz.func72,Tryz.ntmps72
  go_wp2_with (first | ((with_reducible refine gate_dst (N := 2) rfl ?_);refine box_event ?hg (N := 2) ?hd (cs := #[.slice A0_0 l0_0.length c0_0,.int .i64 a0_1,.slice A0_2 l0_2.length c0_2,.int .i64 a0_3,.int .i64 a0_4,.slice A0_5 l0_5.length c0_5]) (t := 99) ?hr ?_;(case hd => rfl);(case hg => rfl);(case hr => go_simp;try rfl);intro gb1010 hg w30 hbox hb;have BK1010 := am (hbox);have GW1010 := am (ge_new (by repeat (first | (with_reducible first | exact HB.out | apply below_alloc | apply pw_below_drewN) | exact HB.out)) hg);have GE1010 := am (ge_new (by repeat (first | (with_reducible first | exact HB.out | apply below_alloc | apply pw_below_drewN) | exact HB.out)) hg);replace HB := am (below_step (by repeat (first | (with_reducible first | exact HB.out | apply below_alloc | apply pw_below_drewN) | exact HB.out)) hb);clear hb hbox hg) | ((with_reducible refine gate_dst (N := 3) rfl ?_);refine box_event ?hg (N := 3) ?hd (cs := #[.int .i64 a1_0,.int .i64 a1_1]) (t := 40) ?hr ?_;(case hd => rfl);(case hg => rfl);(case hr => go_simp;try rfl);intro gb1011 hg w31 hbox hb;have BK1011 := am (hbox);have GW1011 := am (ge_new (by repeat (first | (with_reducible first | exact HB.out | refine below_set ?_ GE1010.out | apply below_alloc | apply pw_below_drewN) | exact HB.out)) hg);have GE1011 := am (ge_new (by repeat (first | (with_reducible first | exact HB.out | refine below_set ?_ GE1010.out | apply below_alloc | apply pw_below_drewN) | exact HB.out)) hg);have NB1010_1011 := am ((by rw [hg];exact Nat.ne_of_lt (blk_lt (g := gb1010) (o := .cells #[.slice A0_0 l0_0.length c0_0,.int .i64 a0_1,.slice A0_2 l0_2.length c0_2,.int .i64 a0_3,.int .i64 a0_4,.slice A0_5 l0_5.length c0_5] 99 (0,0)) (by (with_reducible repeat (first | refine blk_drewN ?_ _ | refine blk_drew ?_ | refine blk_alloc ?_ _));exact BK1010.out)) : gb1010 ≠ gb1011));have NB1011_1010 := am ((by rw [hg];exact Nat.ne_of_gt (blk_lt (g := gb1010) (o := .cells #[.slice A0_0 l0_0.length c0_0,.int .i64 a0_1,.slice A0_2 l0_2.length c0_2,.int .i64 a0_3,.int .i64 a0_4,.slice A0_5 l0_5.length c0_5] 99 (0,0)) (by (with_reducible repeat (first | refine blk_drewN ?_ _ | refine blk_drew ?_ | refine blk_alloc ?_ _));exact BK1010.out)) : gb1011 ≠ gb1010));replace BK1010 := am (blk_below (g := gb1010) (o := .cells #[.slice A0_0 l0_0.length c0_0,.int .i64 a0_1,.slice A0_2 l0_2.length c0_2,.int .i64 a0_3,.int .i64 a0_4,.slice A0_5 l0_5.length c0_5] 99 (0,0)) (by (with_reducible repeat (first | refine blk_drewN ?_ _ | refine blk_drew ?_ | refine blk_alloc ?_ _));exact BK1010.out) hb);replace HB := am (below_step (by repeat (first | (with_reducible first | exact HB.out | refine below_set ?_ GE1010.out | apply below_alloc | apply pw_below_drewN) | exact HB.out)) hb);clear hb hbox hg) | ((with_reducible refine gate_dst (N := 4) rfl ?_);refine box_event ?hg (N := 4) ?hd (cs := #[.int .i64 0,.int .i64 0]) (t := 40) ?hr ?_;(case hd => rfl);(case hg => rfl);(case hr => go_simp;try rfl);intro gb1012 hg w32 hbox hb;have BK1012 := am (hbox);have GW1012 := am (ge_new (by repeat (first | (with_reducible first | exact HB.out | refine below_set ?_ (Aside0.out (by assumption)) | apply below_alloc | apply pw_below_drewN) | exact HB.out)) hg);have GE1012 := am (ge_new (by repeat (first | (with_reducible first | exact HB.out | refine below_set ?_ (Aside0.out (by assumption)) | apply below_alloc | apply pw_below_drewN) | exact HB.out)) hg);have NB1010_1012 := am ((by rw [hg];exact Nat.ne_of_lt (blk_lt (g := gb1010) (o := .cells #[.slice A0_0 l0_0.length c0_0,.int .i64 a0_1,.slice A0_2 l0_2.length c0_2,.int .i64 a0_3,.int .i64 a0_4,.slice A0_5 l0_5.length c0_5] 99 (0,0)) (by (with_reducible repeat (first | refine blk_drewN ?_ _ | refine blk_drew ?_ | refine blk_alloc ?_ _));exact BK1010.out)) : gb1010 ≠ gb1012));have NB1012_1010 := am ((by rw [hg];exact Nat.ne_of_gt (blk_lt (g := gb1010) (o := .cells #[.slice A0_0 l0_0.length c0_0,.int .i64 a0_1,.slice A0_2 l0_2.length c0_2,.int .i64 a0_3,.int .i64 a0_4,.slice A0_5 l0_5.length c0_5] 99 (0,0)) (by (with_reducible repeat (first | refine blk_drewN ?_ _ | refine blk_drew ?_ | refine blk_alloc ?_ _));exact BK1010.out)) : gb1012 ≠ gb1010));have NB1011_1012 := am ((by rw [hg];exact Nat.ne_of_lt (blk_lt (g := gb1011) (o := .cells #[.int .i64 a1_0,.int .i64 a1_1] 40 (0,0)) (by (with_reducible repeat (first | refine blk_drewN ?_ _ | refine blk_drew ?_ | refine blk_alloc ?_ _));exact BK1011.out)) : gb1011 ≠ gb1012));have NB1012_1011 := am ((by rw [hg];exact Nat.ne_of_gt (blk_lt (g := gb1011) (o := .cells #[.int .i64 a1_0,.int .i64 a1_1] 40 (0,0)) (by (with_reducible repeat (first | refine blk_drewN ?_ _ | refine blk_drew ?_ | refine blk_alloc ?_ _));exact BK1011.out)) : gb1012 ≠ gb1011));replace BK1010 := am (blk_below (g := gb1010) (o := .cells #[.slice A0_0 l0_0.length c0_0,.int .i64 a0_1,.slice A0_2 l0_2.length c0_2,.int .i64 a0_3,.int .i64 a0_4,.slice A0_5 l0_5.length c0_5] 99 (0,0)) (by (with_reducible repeat (first | refine blk_drewN ?_ _ | refine blk_drew ?_ | refine blk_alloc ?_ _));exact BK1010.out) hb);replace BK1011 := am (blk_below (g := gb1011) (o := .cells #[.int .i64 a1_0,.int .i64 a1_1] 40 (0,0)) (by (with_reducible repeat (first | refine blk_drewN ?_ _ | refine blk_drew ?_ | refine blk_alloc ?_ _));exact BK1011.out) hb);replace HB := am (below_step (by repeat (first | (with_reducible first | exact HB.out | refine below_set ?_ (Aside0.out (by assumption)) | apply below_alloc | apply pw_below_drewN) | exact HB.out)) hb);clear hb hbox hg;have hnb33 := NB1010_1011.out;have hnc33 := NB1011_1010.out;have hnb34 := NB1010_1012.out;have hnc34 := NB1012_1010.out;obtain ⟨hcz35_0,hcz35_1,hcz35_2,hcz35_3,hcz35_4,hcz35_5⟩ := cO6 BK1010.out;have hfz35_0 := blk_frozen BK1010.out 0;have hfz35_1 := blk_frozen BK1010.out 1;have hfz35_2 := blk_frozen BK1010.out 2;have hfz35_3 := blk_frozen BK1010.out 3;have hfz35_4 := blk_frozen BK1010.out 4;have hfz35_5 := blk_frozen BK1010.out 5;have hnb36 := NB1011_1012.out;have hnc36 := NB1012_1011.out;obtain ⟨hcz37_0,hcz37_1⟩ := cO2 BK1011.out;have hfz37_0 := blk_frozen BK1011.out 0;have hfz37_1 := blk_frozen BK1011.out 1) | ((with_reducible refine gate_callee (f := 99) rfl ?_);refine goesL_ (some 9) rfl rfl Tryz.func99 (by kernel_rfl) rfl #[.agg #[.slice A0_0 l0_0.length c0_0,.int .i64 a0_1,.slice A0_2 l0_2.length c0_2,.int .i64 a0_3,.int .i64 a0_4,.slice A0_5 l0_5.length c0_5],.int .i64 a1_0] rfl (by (try simp only [List.map_toArray,List.map_cons,List.map_nil]);first | done | rfl | (simp only [List.length_drop,List.length_take];rfl)) ?_;(with_reducible refine (gf_out.calls _ _ l0_0 a0_1 _ _ l0_2 a0_3 a0_4 _ _ l0_5 a1_0 t1013 _ ?side1 ?side2 ?side3 ?side4 ?side5 ?side6 A3.out).mono ?_);(case side1 => repeat (first | exact (kC HR0_0.out HB.out) | (with_reducible refine Kd.C_alloc ?_ _) | (with_reducible refine Kd.C_drewN ?_ _) | (with_reducible refine Kd.C_drew ?_)));(case side2 => exact HC0_0.out);(case side3 => repeat (first | exact (kC HR0_2.out HB.out) | (with_reducible refine Kd.C_alloc ?_ _) | (with_reducible refine Kd.C_drewN ?_ _) | (with_reducible refine Kd.C_drew ?_)));(case side4 => exact HC0_2.out);(case side5 => repeat (first | exact (kC HR0_5.out HB.out) | (with_reducible refine Kd.C_alloc ?_ _) | (with_reducible refine Kd.C_drewN ?_ _) | (with_reducible refine Kd.C_drew ?_)));(case side6 => exact HC0_5.out);rintro e w38 ⟨rfl,hb⟩;refine ⟨_,rfl,?_⟩;replace BK1010 := am (blk_below (g := gb1010) (o := .cells #[.slice A0_0 l0_0.length c0_0,.int .i64 a0_1,.slice A0_2 l0_2.length c0_2,.int .i64 a0_3,.int .i64 a0_4,.slice A0_5 l0_5.length c0_5] 99 (0,0)) (by (with_reducible repeat (first | refine blk_drewN ?_ _ | refine blk_drew ?_ | refine blk_alloc ?_ _));exact BK1010.out) hb);replace BK1011 := am (blk_below (g := gb1011) (o := .cells #[.int .i64 a1_0,.int .i64 a1_1] 40 (0,0)) (by (with_reducible repeat (first | refine blk_drewN ?_ _ | refine blk_drew ?_ | refine blk_alloc ?_ _));exact BK1011.out) hb);replace BK1012 := am (blk_below (g := gb1012) (o := .cells #[.int .i64 0,.int .i64 0] 40 (0,0)) (by (with_reducible repeat (first | refine blk_drewN ?_ _ | refine blk_drew ?_ | refine blk_alloc ?_ _));exact BK1012.out) hb);replace HB := am (below_step (by repeat (first | (with_reducible first | exact HB.out | refine below_set ?_ (Aside0.out (by assumption)) | apply below_alloc | apply pw_below_drewN) | exact HB.out)) hb);(try clear hb);(try clear hb2);(try clear hk);(try clear hi)) | ((with_reducible refine gate_dst (N := 5) rfl ?_);refine box_event ?hg (N := 5) ?hd (cs := #[.int .i64 0,.int .i64 0]) (t := 40) ?hr ?_;(case hd => rfl);(case hg => rfl);(case hr => go_simp;try rfl);intro gb1014 hg w39 hbox hb;have BK1014 := am (hbox);have GW1014 := am (ge_new (by repeat (first | (with_reducible first | exact HB.out | refine below_set ?_ (Aside0.out (by assumption)) | apply below_alloc | apply pw_below_drewN) | exact HB.out)) hg);have GE1014 := am (ge_new (by repeat (first | (with_reducible first | exact HB.out | refine below_set ?_ (Aside0.out (by assumption)) | apply below_alloc | apply pw_below_drewN) | exact HB.out)) hg);have NB1010_1014 := am ((by rw [hg];exact Nat.ne_of_lt (blk_lt (g := gb1010) (o := .cells #[.slice A0_0 l0_0.length c0_0,.int .i64 a0_1,.slice A0_2 l0_2.length c0_2,.int .i64 a0_3,.int .i64 a0_4,.slice A0_5 l0_5.length c0_5] 99 (0,0)) (by (with_reducible repeat (first | refine blk_drewN ?_ _ | refine blk_drew ?_ | refine blk_alloc ?_ _));exact BK1010.out)) : gb1010 ≠ gb1014));have NB1014_1010 := am ((by rw [hg];exact Nat.ne_of_gt (blk_lt (g := gb1010) (o := .cells #[.slice A0_0 l0_0.length c0_0,.int .i64 a0_1,.slice A0_2 l0_2.length c0_2,.int .i64 a0_3,.int .i64 a0_4,.slice A0_5 l0_5.length c0_5] 99 (0,0)) (by (with_reducible repeat (first | refine blk_drewN ?_ _ | refine blk_drew ?_ | refine blk_alloc ?_ _));exact BK1010.out)) : gb1014 ≠ gb1010));have NB1011_1014 := am ((by rw [hg];exact Nat.ne_of_lt (blk_lt (g := gb1011) (o := .cells #[.int .i64 a1_0,.int .i64 a1_1] 40 (0,0)) (by (with_reducible repeat (first | refine blk_drewN ?_ _ | refine blk_drew ?_ | refine blk_alloc ?_ _));exact BK1011.out)) : gb1011 ≠ gb1014));have NB1014_1011 := am ((by rw [hg];exact Nat.ne_of_gt (blk_lt (g := gb1011) (o := .cells #[.int .i64 a1_0,.int .i64 a1_1] 40 (0,0)) (by (with_reducible repeat (first | refine blk_drewN ?_ _ | refine blk_drew ?_ | refine blk_alloc ?_ _));exact BK1011.out)) : gb1014 ≠ gb1011));have NB1012_1014 := am ((by rw [hg];exact Nat.ne_of_lt (blk_lt (g := gb1012) (o := .cells #[.int .i64 0,.int .i64 0] 40 (0,0)) (by (with_reducible repeat (first | refine blk_drewN ?_ _ | refine blk_drew ?_ | refine blk_alloc ?_ _));exact BK1012.out)) : gb1012 ≠ gb1014));have NB1014_1012 := am ((by rw [hg];exact Nat.ne_of_gt (blk_lt (g := gb1012) (o := .cells #[.int .i64 0,.int .i64 0] 40 (0,0)) (by (with_reducible repeat (first | refine blk_drewN ?_ _ | refine blk_drew ?_ | refine blk_alloc ?_ _));exact BK1012.out)) : gb1014 ≠ gb1012));replace BK1010 := am (blk_below (g := gb1010) (o := .cells #[.slice A0_0 l0_0.length c0_0,.int .i64 a0_1,.slice A0_2 l0_2.length c0_2,.int .i64 a0_3,.int .i64 a0_4,.slice A0_5 l0_5.length c0_5] 99 (0,0)) (by (with_reducible repeat (first | refine blk_drewN ?_ _ | refine blk_drew ?_ | refine blk_alloc ?_ _));exact BK1010.out) hb);replace BK1011 := am (blk_below (g := gb1011) (o := .cells #[.int .i64 a1_0,.int .i64 a1_1] 40 (0,0)) (by (with_reducible repeat (first | refine blk_drewN ?_ _ | refine blk_drew ?_ | refine blk_alloc ?_ _));exact BK1011.out) hb);replace BK1012 := am (blk_below (g := gb1012) (o := .cells #[.int .i64 0,.int .i64 0] 40 (0,0)) (by (with_reducible repeat (first | refine blk_drewN ?_ _ | refine blk_drew ?_ | refine blk_alloc ?_ _));exact BK1012.out) hb);replace HB := am (below_step (by repeat (first | (with_reducible first | exact HB.out | refine below_set ?_ (Aside0.out (by assumption)) | apply below_alloc | apply pw_below_drewN) | exact HB.out)) hb);clear hb hbox hg;have hnb40 := NB1014_1010.out;have hnc40 := NB1010_1014.out;have hnb41 := NB1014_1011.out;have hnc41 := NB1011_1014.out;have hnb42 := NB1014_1012.out;have hnc42 := NB1012_1014.out;obtain ⟨hcz43_0,hcz43_1⟩ := cO2 BK1014.out;have hfz43_0 := blk_frozen BK1014.out 0;have hfz43_1 := blk_frozen BK1014.out 1;obtain ⟨hcz44_0,hcz44_1⟩ := cO2 BK1011.out;have hfz44_0 := blk_frozen BK1011.out 0;have hfz44_1 := blk_frozen BK1011.out 1))
  refine ⟨rfl,?_⟩
  exact ⟨by first | rfl | (simp [*] <;> rfl),by repeat (first | (with_reducible first | exact HB.out | refine below_set ?_ (Aside0.out (by assumption)) | apply below_alloc | apply pw_below_drewN) | exact HB.out)⟩
 rw [if_pos c4] at H
 have c4b0 : decide (a1_1 < 40) = true := decide_eq_true c4
 clear c4
 replace H := obm H
 obtain ⟨t1015,A50,H⟩ := H
 replace H : (if t1013 > (mn 10000 (wrap64 (t1015 - 1))) then (some (a1_0,a1_1)) else (none)) = some (r1,r2) := H
 have A5 := am A50
 clear A50
 obtain ⟨ji6,hji6⟩ : ∃ j_ : Int,(mn 10000 (wrap64 (t1015 - 1))) = j_ := ⟨_,rfl⟩
 replace H : (if t1013 > (ji6) then (some (a1_0,a1_1)) else (none)) = some (r1,r2) := by first | (rw [hji6] at H;exact H) | (simp only [hji6] at H ⊢;exact H)
 (try rw [hji6] at A3)
 (try rw [hji6] at A5)
 (try (have hji6h : ji6 ≤ 10000 := by (rw [← hji6];unfold mn;(repeat' split) <;> omega)))
 (try (have hji6g : ji6 ≤ 64 := by omega))
 have hji6_ : (if (wrap64 (t1015 - 1)) < 10000 then (wrap64 (t1015 - 1)) else 10000) = ji6 := hji6
 by_cases c7 : t1013 > (ji6)
 case neg =>
  rw [if_neg c7] at H
  have c7b0 : decide ((ji6) < t1013) = false := decide_eq_false c7
  clear c7
  exact absurd H (by simp)
 rw [if_pos c7] at H
 have c7b0 : decide ((ji6) < t1013) = true := decide_eq_true c7
 clear c7
 simp only [Option.some.injEq,Prod.mk.injEq] at H
 obtain ⟨rfl,rfl⟩ := H
 go_enter Tryz.func72,Tryz.ntmps72
 try go_wp2_with (first | ((with_reducible refine gate_dst (N := 2) rfl ?_);refine box_event ?hg (N := 2) ?hd (cs := #[.slice A0_0 l0_0.length c0_0,.int .i64 a0_1,.slice A0_2 l0_2.length c0_2,.int .i64 a0_3,.int .i64 a0_4,.slice A0_5 l0_5.length c0_5]) (t := 99) ?hr ?_;(case hd => rfl);(case hg => rfl);(case hr => go_simp;try rfl);intro gb1010 hg w8 hbox hb;have BK1010 := am (hbox);have GW1010 := am (ge_new (by repeat (first | (with_reducible first | exact HB.out | apply below_alloc | apply pw_below_drewN) | exact HB.out)) hg);have GE1010 := am (ge_new (by repeat (first | (with_reducible first | exact HB.out | apply below_alloc | apply pw_below_drewN) | exact HB.out)) hg);replace HB := am (below_step (by repeat (first | (with_reducible first | exact HB.out | apply below_alloc | apply pw_below_drewN) | exact HB.out)) hb);clear hb hbox hg) | ((with_reducible refine gate_dst (N := 3) rfl ?_);refine box_event ?hg (N := 3) ?hd (cs := #[.int .i64 a1_0,.int .i64 a1_1]) (t := 40) ?hr ?_;(case hd => rfl);(case hg => rfl);(case hr => go_simp;try rfl);intro gb1011 hg w9 hbox hb;have BK1011 := am (hbox);have GW1011 := am (ge_new (by repeat (first | (with_reducible first | exact HB.out | refine below_set ?_ GE1010.out | apply below_alloc | apply pw_below_drewN) | exact HB.out)) hg);have GE1011 := am (ge_new (by repeat (first | (with_reducible first | exact HB.out | refine below_set ?_ GE1010.out | apply below_alloc | apply pw_below_drewN) | exact HB.out)) hg);have NB1010_1011 := am ((by rw [hg];exact Nat.ne_of_lt (blk_lt (g := gb1010) (o := .cells #[.slice A0_0 l0_0.length c0_0,.int .i64 a0_1,.slice A0_2 l0_2.length c0_2,.int .i64 a0_3,.int .i64 a0_4,.slice A0_5 l0_5.length c0_5] 99 (0,0)) (by (with_reducible repeat (first | refine blk_drewN ?_ _ | refine blk_drew ?_ | refine blk_alloc ?_ _));exact BK1010.out)) : gb1010 ≠ gb1011));have NB1011_1010 := am ((by rw [hg];exact Nat.ne_of_gt (blk_lt (g := gb1010) (o := .cells #[.slice A0_0 l0_0.length c0_0,.int .i64 a0_1,.slice A0_2 l0_2.length c0_2,.int .i64 a0_3,.int .i64 a0_4,.slice A0_5 l0_5.length c0_5] 99 (0,0)) (by (with_reducible repeat (first | refine blk_drewN ?_ _ | refine blk_drew ?_ | refine blk_alloc ?_ _));exact BK1010.out)) : gb1011 ≠ gb1010));replace BK1010 := am (blk_below (g := gb1010) (o := .cells #[.slice A0_0 l0_0.length c0_0,.int .i64 a0_1,.slice A0_2 l0_2.length c0_2,.int .i64 a0_3,.int .i64 a0_4,.slice A0_5 l0_5.length c0_5] 99 (0,0)) (by (with_reducible repeat (first | refine blk_drewN ?_ _ | refine blk_drew ?_ | refine blk_alloc ?_ _));exact BK1010.out) hb);replace HB := am (below_step (by repeat (first | (with_reducible first | exact HB.out | refine below_set ?_ GE1010.out | apply below_alloc | apply pw_below_drewN) | exact HB.out)) hb);clear hb hbox hg) | ((with_reducible refine gate_dst (N := 4) rfl ?_);refine box_event ?hg (N := 4) ?hd (cs := #[.int .i64 0,.int .i64 0]) (t := 40) ?hr ?_;(case hd => rfl);(case hg => rfl);(case hr => go_simp;try rfl);intro gb1012 hg w10 hbox hb;have BK1012 := am (hbox);have GW1012 := am (ge_new (by repeat (first | (with_reducible first | exact HB.out | refine below_set ?_ (Aside0.out (by assumption)) | apply below_alloc | apply pw_below_drewN) | exact HB.out)) hg);have GE1012 := am (ge_new (by repeat (first | (with_reducible first | exact HB.out | refine below_set ?_ (Aside0.out (by assumption)) | apply below_alloc | apply pw_below_drewN) | exact HB.out)) hg);have NB1010_1012 := am ((by rw [hg];exact Nat.ne_of_lt (blk_lt (g := gb1010) (o := .cells #[.slice A0_0 l0_0.length c0_0,.int .i64 a0_1,.slice A0_2 l0_2.length c0_2,.int .i64 a0_3,.int .i64 a0_4,.slice A0_5 l0_5.length c0_5] 99 (0,0)) (by (with_reducible repeat (first | refine blk_drewN ?_ _ | refine blk_drew ?_ | refine blk_alloc ?_ _));exact BK1010.out)) : gb1010 ≠ gb1012));have NB1012_1010 := am ((by rw [hg];exact Nat.ne_of_gt (blk_lt (g := gb1010) (o := .cells #[.slice A0_0 l0_0.length c0_0,.int .i64 a0_1,.slice A0_2 l0_2.length c0_2,.int .i64 a0_3,.int .i64 a0_4,.slice A0_5 l0_5.length c0_5] 99 (0,0)) (by (with_reducible repeat (first | refine blk_drewN ?_ _ | refine blk_drew ?_ | refine blk_alloc ?_ _));exact BK1010.out)) : gb1012 ≠ gb1010));have NB1011_1012 := am ((by rw [hg];exact Nat.ne_of_lt (blk_lt (g := gb1011) (o := .cells #[.int .i64 a1_0,.int .i64 a1_1] 40 (0,0)) (by (with_reducible repeat (first | refine blk_drewN ?_ _ | refine blk_drew ?_ | refine blk_alloc ?_ _));exact BK1011.out)) : gb1011 ≠ gb1012));have NB1012_1011 := am ((by rw [hg];exact Nat.ne_of_gt (blk_lt (g := gb1011) (o := .cells #[.int .i64 a1_0,.int .i64 a1_1] 40 (0,0)) (by (with_reducible repeat (first | refine blk_drewN ?_ _ | refine blk_drew ?_ | refine blk_alloc ?_ _));exact BK1011.out)) : gb1012 ≠ gb1011));replace BK1010 := am (blk_below (g := gb1010) (o := .cells #[.slice A0_0 l0_0.length c0_0,.int .i64 a0_1,.slice A0_2 l0_2.length c0_2,.int .i64 a0_3,.int .i64 a0_4,.slice A0_5 l0_5.length c0_5] 99 (0,0)) (by (with_reducible repeat (first | refine blk_drewN ?_ _ | refine blk_drew ?_ | refine blk_alloc ?_ _));exact BK1010.out) hb);replace BK1011 := am (blk_below (g := gb1011) (o := .cells #[.int .i64 a1_0,.int .i64 a1_1] 40 (0,0)) (by (with_reducible repeat (first | refine blk_drewN ?_ _ | refine blk_drew ?_ | refine blk_alloc ?_ _));exact BK1011.out) hb);replace HB := am (below_step (by repeat (first | (with_reducible first | exact HB.out | refine below_set ?_ (Aside0.out (by assumption)) | apply below_alloc | apply pw_below_drewN) | exact HB.out)) hb);clear hb hbox hg;have hnb11 := NB1010_1011.out;have hnc11 := NB1011_1010.out;have hnb12 := NB1010_1012.out;have hnc12 := NB1012_1010.out;obtain ⟨hcz13_0,hcz13_1,hcz13_2,hcz13_3,hcz13_4,hcz13_5⟩ := cO6 BK1010.out;have hfz13_0 := blk_frozen BK1010.out 0;have hfz13_1 := blk_frozen BK1010.out 1;have hfz13_2 := blk_frozen BK1010.out 2;have hfz13_3 := blk_frozen BK1010.out 3;have hfz13_4 := blk_frozen BK1010.out 4;have hfz13_5 := blk_frozen BK1010.out 5;have hnb14 := NB1011_1012.out;have hnc14 := NB1012_1011.out;obtain ⟨hcz15_0,hcz15_1⟩ := cO2 BK1011.out;have hfz15_0 := blk_frozen BK1011.out 0;have hfz15_1 := blk_frozen BK1011.out 1) | ((with_reducible refine gate_callee (f := 99) rfl ?_);refine goesL_ (some 9) rfl rfl Tryz.func99 (by kernel_rfl) rfl #[.agg #[.slice A0_0 l0_0.length c0_0,.int .i64 a0_1,.slice A0_2 l0_2.length c0_2,.int .i64 a0_3,.int .i64 a0_4,.slice A0_5 l0_5.length c0_5],.int .i64 a1_0] rfl (by (try simp only [List.map_toArray,List.map_cons,List.map_nil]);first | done | rfl | (simp only [List.length_drop,List.length_take];rfl)) ?_;(with_reducible refine (gf_out.calls _ _ l0_0 a0_1 _ _ l0_2 a0_3 a0_4 _ _ l0_5 a1_0 t1013 _ ?side1 ?side2 ?side3 ?side4 ?side5 ?side6 A3.out).mono ?_);(case side1 => repeat (first | exact (kC HR0_0.out HB.out) | (with_reducible refine Kd.C_alloc ?_ _) | (with_reducible refine Kd.C_drewN ?_ _) | (with_reducible refine Kd.C_drew ?_)));(case side2 => exact HC0_0.out);(case side3 => repeat (first | exact (kC HR0_2.out HB.out) | (with_reducible refine Kd.C_alloc ?_ _) | (with_reducible refine Kd.C_drewN ?_ _) | (with_reducible refine Kd.C_drew ?_)));(case side4 => exact HC0_2.out);(case side5 => repeat (first | exact (kC HR0_5.out HB.out) | (with_reducible refine Kd.C_alloc ?_ _) | (with_reducible refine Kd.C_drewN ?_ _) | (with_reducible refine Kd.C_drew ?_)));(case side6 => exact HC0_5.out);rintro e w16 ⟨rfl,hb⟩;refine ⟨_,rfl,?_⟩;replace BK1010 := am (blk_below (g := gb1010) (o := .cells #[.slice A0_0 l0_0.length c0_0,.int .i64 a0_1,.slice A0_2 l0_2.length c0_2,.int .i64 a0_3,.int .i64 a0_4,.slice A0_5 l0_5.length c0_5] 99 (0,0)) (by (with_reducible repeat (first | refine blk_drewN ?_ _ | refine blk_drew ?_ | refine blk_alloc ?_ _));exact BK1010.out) hb);replace BK1011 := am (blk_below (g := gb1011) (o := .cells #[.int .i64 a1_0,.int .i64 a1_1] 40 (0,0)) (by (with_reducible repeat (first | refine blk_drewN ?_ _ | refine blk_drew ?_ | refine blk_alloc ?_ _));exact BK1011.out) hb);replace BK1012 := am (blk_below (g := gb1012) (o := .cells #[.int .i64 0,.int .i64 0] 40 (0,0)) (by (with_reducible repeat (first | refine blk_drewN ?_ _ | refine blk_drew ?_ | refine blk_alloc ?_ _));exact BK1012.out) hb);replace HB := am (below_step (by repeat (first | (with_reducible first | exact HB.out | refine below_set ?_ (Aside0.out (by assumption)) | apply below_alloc | apply pw_below_drewN) | exact HB.out)) hb);(try clear hb);(try clear hb2);(try clear hk);(try clear hi)) | ((with_reducible refine gate_dst (N := 5) rfl ?_);refine box_event ?hg (N := 5) ?hd (cs := #[.int .i64 0,.int .i64 0]) (t := 40) ?hr ?_;(case hd => rfl);(case hg => rfl);(case hr => go_simp;try rfl);intro gb1014 hg w17 hbox hb;have BK1014 := am (hbox);have GW1014 := am (ge_new (by repeat (first | (with_reducible first | exact HB.out | refine below_set ?_ (Aside0.out (by assumption)) | apply below_alloc | apply pw_below_drewN) | exact HB.out)) hg);have GE1014 := am (ge_new (by repeat (first | (with_reducible first | exact HB.out | refine below_set ?_ (Aside0.out (by assumption)) | apply below_alloc | apply pw_below_drewN) | exact HB.out)) hg);have NB1010_1014 := am ((by rw [hg];exact Nat.ne_of_lt (blk_lt (g := gb1010) (o := .cells #[.slice A0_0 l0_0.length c0_0,.int .i64 a0_1,.slice A0_2 l0_2.length c0_2,.int .i64 a0_3,.int .i64 a0_4,.slice A0_5 l0_5.length c0_5] 99 (0,0)) (by (with_reducible repeat (first | refine blk_drewN ?_ _ | refine blk_drew ?_ | refine blk_alloc ?_ _));exact BK1010.out)) : gb1010 ≠ gb1014));have NB1014_1010 := am ((by rw [hg];exact Nat.ne_of_gt (blk_lt (g := gb1010) (o := .cells #[.slice A0_0 l0_0.length c0_0,.int .i64 a0_1,.slice A0_2 l0_2.length c0_2,.int .i64 a0_3,.int .i64 a0_4,.slice A0_5 l0_5.length c0_5] 99 (0,0)) (by (with_reducible repeat (first | refine blk_drewN ?_ _ | refine blk_drew ?_ | refine blk_alloc ?_ _));exact BK1010.out)) : gb1014 ≠ gb1010));have NB1011_1014 := am ((by rw [hg];exact Nat.ne_of_lt (blk_lt (g := gb1011) (o := .cells #[.int .i64 a1_0,.int .i64 a1_1] 40 (0,0)) (by (with_reducible repeat (first | refine blk_drewN ?_ _ | refine blk_drew ?_ | refine blk_alloc ?_ _));exact BK1011.out)) : gb1011 ≠ gb1014));have NB1014_1011 := am ((by rw [hg];exact Nat.ne_of_gt (blk_lt (g := gb1011) (o := .cells #[.int .i64 a1_0,.int .i64 a1_1] 40 (0,0)) (by (with_reducible repeat (first | refine blk_drewN ?_ _ | refine blk_drew ?_ | refine blk_alloc ?_ _));exact BK1011.out)) : gb1014 ≠ gb1011));have NB1012_1014 := am ((by rw [hg];exact Nat.ne_of_lt (blk_lt (g := gb1012) (o := .cells #[.int .i64 0,.int .i64 0] 40 (0,0)) (by (with_reducible repeat (first | refine blk_drewN ?_ _ | refine blk_drew ?_ | refine blk_alloc ?_ _));exact BK1012.out)) : gb1012 ≠ gb1014));have NB1014_1012 := am ((by rw [hg];exact Nat.ne_of_gt (blk_lt (g := gb1012) (o := .cells #[.int .i64 0,.int .i64 0] 40 (0,0)) (by (with_reducible repeat (first | refine blk_drewN ?_ _ | refine blk_drew ?_ | refine blk_alloc ?_ _));exact BK1012.out)) : gb1014 ≠ gb1012));replace BK1010 := am (blk_below (g := gb1010) (o := .cells #[.slice A0_0 l0_0.length c0_0,.int .i64 a0_1,.slice A0_2 l0_2.length c0_2,.int .i64 a0_3,.int .i64 a0_4,.slice A0_5 l0_5.length c0_5] 99 (0,0)) (by (with_reducible repeat (first | refine blk_drewN ?_ _ | refine blk_drew ?_ | refine blk_alloc ?_ _));exact BK1010.out) hb);replace BK1011 := am (blk_below (g := gb1011) (o := .cells #[.int .i64 a1_0,.int .i64 a1_1] 40 (0,0)) (by (with_reducible repeat (first | refine blk_drewN ?_ _ | refine blk_drew ?_ | refine blk_alloc ?_ _));exact BK1011.out) hb);replace BK1012 := am (blk_below (g := gb1012) (o := .cells #[.int .i64 0,.int .i64 0] 40 (0,0)) (by (with_reducible repeat (first | refine blk_drewN ?_ _ | refine blk_drew ?_ | refine blk_alloc ?_ _));exact BK1012.out) hb);replace HB := am (below_step (by repeat (first | (with_reducible first | exact HB.out | refine below_set ?_ (Aside0.out (by assumption)) | apply below_alloc | apply pw_below_drewN) | exact HB.out)) hb);clear hb hbox hg;have hnb18 := NB1014_1010.out;have hnc18 := NB1010_1014.out;have hnb19 := NB1014_1011.out;have hnc19 := NB1011_1014.out;have hnb20 := NB1014_1012.out;have hnc20 := NB1012_1014.out;obtain ⟨hcz21_0,hcz21_1⟩ := cO2 BK1014.out;have hfz21_0 := blk_frozen BK1014.out 0;have hfz21_1 := blk_frozen BK1014.out 1;obtain ⟨hcz22_0,hcz22_1⟩ := cO2 BK1011.out;have hfz22_0 := blk_frozen BK1011.out 0;have hfz22_1 := blk_frozen BK1011.out 1))
 have n0_ : Aside0 (((w17.setCell ⟨gb1014,0,none⟩ (.int .i64 t1013)).setCell ⟨gb1014,1,none⟩ (.int .i64 10000)).heap[gb1010]? = some (.cells #[.slice A0_0 l0_0.length c0_0,.int .i64 a0_1,.slice A0_2 l0_2.length c0_2,.int .i64 a0_3,.int .i64 a0_4,.slice A0_5 l0_5.length c0_5] 99 (0,0))) := ⟨by (with_reducible repeat (first | refine blk_drewN ?_ _ | refine blk_drew ?_ | refine blk_alloc ?_ _));refine blk_far ?_ NB1010_1014.out _;(with_reducible repeat (first | refine blk_drewN ?_ _ | refine blk_drew ?_ | refine blk_alloc ?_ _));refine blk_far ?_ NB1010_1014.out _;(with_reducible repeat (first | refine blk_drewN ?_ _ | refine blk_drew ?_ | refine blk_alloc ?_ _));exact BK1010.out⟩
 have n1_ : Aside0 (((w17.setCell ⟨gb1014,0,none⟩ (.int .i64 t1013)).setCell ⟨gb1014,1,none⟩ (.int .i64 10000)).heap[gb1011]? = some (.cells #[.int .i64 a1_0,.int .i64 a1_1] 40 (0,0))) := ⟨by (with_reducible repeat (first | refine blk_drewN ?_ _ | refine blk_drew ?_ | refine blk_alloc ?_ _));refine blk_far ?_ NB1011_1014.out _;(with_reducible repeat (first | refine blk_drewN ?_ _ | refine blk_drew ?_ | refine blk_alloc ?_ _));refine blk_far ?_ NB1011_1014.out _;(with_reducible repeat (first | refine blk_drewN ?_ _ | refine blk_drew ?_ | refine blk_alloc ?_ _));exact BK1011.out⟩
 have n2_ : Aside0 (((w17.setCell ⟨gb1014,0,none⟩ (.int .i64 t1013)).setCell ⟨gb1014,1,none⟩ (.int .i64 10000)).heap[gb1012]? = some (.cells #[.int .i64 0,.int .i64 0] 40 (0,0))) := ⟨by (with_reducible repeat (first | refine blk_drewN ?_ _ | refine blk_drew ?_ | refine blk_alloc ?_ _));refine blk_far ?_ NB1012_1014.out _;(with_reducible repeat (first | refine blk_drewN ?_ _ | refine blk_drew ?_ | refine blk_alloc ?_ _));refine blk_far ?_ NB1012_1014.out _;(with_reducible repeat (first | refine blk_drewN ?_ _ | refine blk_drew ?_ | refine blk_alloc ?_ _));exact BK1012.out⟩
 have n3_ : Aside0 (((w17.setCell ⟨gb1014,0,none⟩ (.int .i64 t1013)).setCell ⟨gb1014,1,none⟩ (.int .i64 10000)).heap[gb1014]? = some (.cells #[.int .i64 t1013,.int .i64 10000] 40 (0,0))) := ⟨by (with_reducible repeat (first | refine blk_drewN ?_ _ | refine blk_drew ?_ | refine blk_alloc ?_ _));refine blk_put (cs := #[.int .i64 t1013,.int .i64 0]) ?_ 1 _ rfl;(with_reducible repeat (first | refine blk_drewN ?_ _ | refine blk_drew ?_ | refine blk_alloc ?_ _));refine blk_put (cs := #[.int .i64 0,.int .i64 0]) ?_ 0 _ rfl;(with_reducible repeat (first | refine blk_drewN ?_ _ | refine blk_drew ?_ | refine blk_alloc ?_ _));exact BK1014.out⟩
 have n4_ : Aside0 (Below w.heap.size w ((w17.setCell ⟨gb1014,0,none⟩ (.int .i64 t1013)).setCell ⟨gb1014,1,none⟩ (.int .i64 10000))) := ⟨by repeat (first | (with_reducible first | exact HB.out | refine below_set ?_ (Aside0.out (by assumption)) | apply below_alloc | apply pw_below_drewN) | exact HB.out)⟩
 (try clear BK1010)
 (try clear BK1011)
 (try clear BK1012)
 (try clear BK1014)
 (try clear HB)
 generalize ((w17.setCell ⟨gb1014,0,none⟩ (.int .i64 t1013)).setCell ⟨gb1014,1,none⟩ (.int .i64 10000)) = w23 at n0_ n1_ n2_ n3_ n4_ ⊢
 have BK1010 := n0_
 have BK1011 := n1_
 have BK1012 := n2_
 have BK1014 := n3_
 have HB := n4_
 clear n0_ n1_ n2_ n3_ n4_
 replace BK1010 := am (blk_drew BK1010.out)
 replace BK1011 := am (blk_drew BK1011.out)
 replace BK1012 := am (blk_drew BK1012.out)
 replace BK1014 := am (blk_drew BK1014.out)
 replace HB := am (below_drew1 HB.out)
 refine start_ (n := 11) (S := fun w' => w'.cell? ⟨gb1014,0,none⟩ = some (.int .i64 t1013) ∧ w'.cell? ⟨gb1014,1,none⟩ = some (.int .i64 10000) ∧ w'.cell? ⟨gb1010,0,none⟩ = some (.slice A0_0 l0_0.length c0_0) ∧ w'.cell? ⟨gb1010,1,none⟩ = some (.int .i64 a0_1) ∧ w'.cell? ⟨gb1010,2,none⟩ = some (.slice A0_2 l0_2.length c0_2) ∧ w'.cell? ⟨gb1010,3,none⟩ = some (.int .i64 a0_3) ∧ w'.cell? ⟨gb1010,4,none⟩ = some (.int .i64 a0_4) ∧ w'.cell? ⟨gb1010,5,none⟩ = some (.slice A0_5 l0_5.length c0_5) ∧ w'.cell? ⟨gb1011,0,none⟩ = some (.int .i64 a1_0) ∧ w'.cell? ⟨gb1011,1,none⟩ = some (.int .i64 a1_1)) (ds := [10]) (ba 11 0) (by kernel_rfl) rfl rfl ⟨(blk_cell BK1014.out 0).trans rfl,(blk_cell BK1014.out 1).trans rfl,(blk_cell BK1010.out 0).trans rfl,(blk_cell BK1010.out 1).trans rfl,(blk_cell BK1010.out 2).trans rfl,(blk_cell BK1010.out 3).trans rfl,(blk_cell BK1010.out 4).trans rfl,(blk_cell BK1010.out 5).trans rfl,(blk_cell BK1011.out 0).trans rfl,(blk_cell BK1011.out 1).trans rfl⟩ (fun hHeld => ?_);refine with_tabW gf_proves_P.tab3 gf_proves_P.bits3 (fun HT_ HW_ => ?_)
 generalize w23.drew = w24 at BK1010 BK1011 BK1012 BK1014 HB hHeld ⊢
 refine pure_ (i := 0) (N := some 14) (v := ?_) (a' := ?_) (ba 11 1) rfl rfl (any_of HT_.out (by kernel_rfl)) (fun _ _ _ h => h) (Or.inl ⟨by rfl,?_⟩) ?_ ?_
 rotate_left
 · intro w'
   go_simp
   with_reducible rfl
 rotate_left
 · simp only [Act.put,NRM]
   rfl
 refine pure_ (i := 3) (N := some 17) (v := ?_) (a' := ?_) (ba 11 9) rfl rfl (any_of HT_.out (by kernel_rfl)) (fun _ _ _ h => h) (Or.inl ⟨by rfl,?_⟩) ?_ ?_
 rotate_left
 · intro w'
   go_simp
   with_reducible rfl
 rotate_left
 · simp only [Act.put,NRM]
   rfl
 refine take_ (i := 1) (N := some 15) (v := ?_) (a' := ?_) (ba 11 11) rfl rfl (take_ofW HT_.out HW_.out (by kernel_rfl)) (fun _ _ _ h => h) (Or.inl ⟨by rfl,?_⟩) hHeld ?_ ?_
 rotate_left
 · rintro w' ⟨s0,s1,s2,s3,s4,s5,s6,s7,s8,s9⟩
   go_simp
   with_reducible rfl
 rotate_left
 · simp only [Act.put,NRM]
   rfl
 refine take_ (i := 2) (N := some 16) (v := ?_) (a' := ?_) (ba 11 15) rfl rfl (take_ofW HT_.out HW_.out (by kernel_rfl)) (fun _ _ _ h => h) (Or.inl ⟨by rfl,?_⟩) hHeld ?_ ?_
 rotate_left
 · rintro w' ⟨s0,s1,s2,s3,s4,s5,s6,s7,s8,s9⟩
   go_simp
   with_reducible rfl
 rotate_left
 · simp only [Act.put,NRM]
   rfl
 refine take_ (i := 4) (N := some 18) (v := ?_) (a' := ?_) (ba 11 31) rfl rfl (take_ofW HT_.out HW_.out (by kernel_rfl)) (fun _ _ _ h => h) (Or.inl ⟨by rfl,?_⟩) hHeld ?_ ?_
 rotate_left
 · rintro w' ⟨s0,s1,s2,s3,s4,s5,s6,s7,s8,s9⟩
   go_simp
   with_reducible rfl
 rotate_left
 · simp only [Act.put,NRM]
   rfl
 refine pure_ (i := 5) (N := some 19) (v := ?_) (a' := ?_) (ba 11 63) rfl rfl (any_of HT_.out (by kernel_rfl)) (fun _ _ _ h => h) (Or.inl ⟨by rfl,?_⟩) ?_ ?_
 rotate_left
 · intro w'
   go_simp
   with_reducible rfl
 rotate_left
 · simp only [Act.put,NRM]
   rfl
 refine one_ (i := 6) (N := some 20) (ba 11 127) rfl rfl (one_of HT_.out (by kernel_rfl)) (by decide) (fun K hK => ?_)
 refine goes_ Tryz.func99 (by kernel_rfl) rfl #[.agg #[.slice A0_0 l0_0.length c0_0,.int .i64 a0_1,.slice A0_2 l0_2.length c0_2,.int .i64 a0_3,.int .i64 a0_4,.slice A0_5 l0_5.length c0_5],.int .i64 (wrap64 (a1_1 + 1))] (by rfl) rfl rfl (by (try simp only [List.map_toArray,List.map_cons,List.map_nil]);first | done | rfl | (simp only [List.length_drop,List.length_take];rfl)) ?_
 with_reducible refine (gf_out.calls _ _ l0_0 a0_1 _ _ l0_2 a0_3 a0_4 _ _ l0_5 (wrap64 (a1_1 + 1)) t1015 _ ?side1 ?side2 ?side3 ?side4 ?side5 ?side6 A5.out).mono ?_
 (case side1 => repeat (first | exact (kC HR0_0.out HB.out) | (with_reducible refine Kd.C_alloc ?_ _) | (with_reducible refine Kd.C_drewN ?_ _) | (with_reducible refine Kd.C_drew ?_)))
 (case side2 => exact HC0_0.out)
 (case side3 => repeat (first | exact (kC HR0_2.out HB.out) | (with_reducible refine Kd.C_alloc ?_ _) | (with_reducible refine Kd.C_drewN ?_ _) | (with_reducible refine Kd.C_drew ?_)))
 (case side4 => exact HC0_2.out)
 (case side5 => repeat (first | exact (kC HR0_5.out HB.out) | (with_reducible refine Kd.C_alloc ?_ _) | (with_reducible refine Kd.C_drewN ?_ _) | (with_reducible refine Kd.C_drew ?_)))
 (case side6 => exact HC0_5.out)
 rintro e w25 ⟨rfl,hb⟩
 refine ⟨_,rfl,?_⟩
 replace BK1010 := am (blk_below (g := gb1010) (o := .cells #[.slice A0_0 l0_0.length c0_0,.int .i64 a0_1,.slice A0_2 l0_2.length c0_2,.int .i64 a0_3,.int .i64 a0_4,.slice A0_5 l0_5.length c0_5] 99 (0,0)) (by (with_reducible repeat (first | refine blk_drewN ?_ _ | refine blk_drew ?_ | refine blk_alloc ?_ _));exact BK1010.out) hb)
 replace BK1011 := am (blk_below (g := gb1011) (o := .cells #[.int .i64 a1_0,.int .i64 a1_1] 40 (0,0)) (by (with_reducible repeat (first | refine blk_drewN ?_ _ | refine blk_drew ?_ | refine blk_alloc ?_ _));exact BK1011.out) hb)
 replace BK1012 := am (blk_below (g := gb1012) (o := .cells #[.int .i64 0,.int .i64 0] 40 (0,0)) (by (with_reducible repeat (first | refine blk_drewN ?_ _ | refine blk_drew ?_ | refine blk_alloc ?_ _));exact BK1012.out) hb)
 replace BK1014 := am (blk_below (g := gb1014) (o := .cells #[.int .i64 t1013,.int .i64 10000] 40 (0,0)) (by (with_reducible repeat (first | refine blk_drewN ?_ _ | refine blk_drew ?_ | refine blk_alloc ?_ _));exact BK1014.out) hb)
 replace HB := am (below_step (by repeat (first | (with_reducible first | exact HB.out | refine below_set ?_ (Aside0.out (by assumption)) | apply below_alloc | apply pw_below_drewN) | exact HB.out)) hb)
 (try clear hb)
 (try clear hb2)
 (try clear hk)
 (try clear hi)
 refine hK.out _ _ ⟨(blk_cell BK1014.out 0).trans rfl,(blk_cell BK1014.out 1).trans rfl,(blk_cell BK1010.out 0).trans rfl,(blk_cell BK1010.out 1).trans rfl,(blk_cell BK1010.out 2).trans rfl,(blk_cell BK1010.out 3).trans rfl,(blk_cell BK1010.out 4).trans rfl,(blk_cell BK1010.out 5).trans rfl,(blk_cell BK1011.out 0).trans rfl,(blk_cell BK1011.out 1).trans rfl⟩ (fun hHeld => ?_)
 clear hK K
 refine norm_ (a' := ?_) ?_ ?_
 rotate_left
 · show Act.put _ (some 20) _ = _
   simp only [Act.put,NRM]
   rfl
 refine pure_ (i := 7) (N := some 21) (v := ?_) (a' := ?_) (ba 11 255) rfl rfl (any_of HT_.out (by kernel_rfl)) (fun _ _ _ h => h) (Or.inl ⟨by rfl,?_⟩) ?_ ?_
 rotate_left
 · intro w'
   go_simp
   with_reducible rfl
 rotate_left
 · simp only [Act.put,NRM]
   rfl
 refine pure_ (i := 8) (N := some 22) (v := ?_) (a' := ?_) (ba 11 511) rfl rfl (any_of HT_.out (by kernel_rfl)) (fun _ _ _ h => h) (Or.inl ⟨by rfl,?_⟩) ?_ ?_
 rotate_left
 · intro w'
   go_simp
   with_reducible rfl
 rotate_left
 · simp only [Act.put,NRM]
   rfl
 refine pure_ (i := 9) (N := some 23) (v := ?_) (a' := ?_) (ba 11 1023) rfl rfl (any_of HT_.out (by kernel_rfl)) (fun _ _ _ h => h) (Or.inl ⟨by rfl,?_⟩) ?_ ?_
 rotate_left
 · intro w'
   go_simp
   with_reducible rfl
 rotate_left
 · simp only [Act.put,NRM]
   rfl
 refine last_ (i := 10) (N := none) (ba 11 2047) rfl rfl (one_of HT_.out (by kernel_rfl)) (by decide) (fun K hK => ?_)
 have hs26 : w25.cell? ⟨gb1014,1,none⟩ = some (.int .i64 10000) := (blk_cell BK1014.out 1).trans rfl
 have hfs26 := blk_frozen BK1014.out 1
 have hns26_0 := NB1010_1014.out
 have hns26_1 := NB1011_1014.out
 have hns26_2 := NB1012_1014.out
 have hms26_0 := NB1014_1010.out
 have hms26_1 := NB1014_1011.out
 have hms26_2 := NB1014_1012.out
 refine skip_ (w1 := ?_) (by rfl) rfl ?_ ?_
 rotate_left
 · go_simp
   rfl
 refine hK.out _ _ ?_
 clear hK K
 refine done_ (done_of HT_.out (by kernel_rfl)) ?_
 obtain ⟨hcz27_0,hcz27_1⟩ := cO2 BK1014.out
 have hfz27_0 := blk_frozen BK1014.out 0
 have hfz27_1 := blk_frozen BK1014.out 1
 obtain ⟨hcz28_0,hcz28_1⟩ := cO2 BK1011.out
 have hfz28_0 := blk_frozen BK1011.out 0
 have hfz28_1 := blk_frozen BK1011.out 1
 try go_wp2
 refine ⟨rfl,?_⟩
 exact ⟨by first | rfl | (simp [errW_none,errW_some] <;> rfl) | (simp only [← hji6];first | rfl | (simp [errW_none,errW_some] <;> rfl)) | (simp [*,errW_none,errW_some] <;> rfl),by repeat (first | (with_reducible first | exact HB.out | refine below_set ?_ (Aside0.out (by assumption)) | apply below_alloc | apply pw_below_drewN) | exact HB.out)⟩
end
theorem Proves1_ok (k : Nat) (g1 g2 g3 : Nat) (A0_0 : Option Addr) (c0_0 : Nat) (l0_0 : List S126) (a0_1 : Int) (A0_2 : Option Addr) (c0_2 : Nat) (l0_2 : List S64) (a0_3 a0_4 : Int) (s0 s1 x0 x1 r1 r2 : Int) (t1 t2 t3 : Int) (t4 : List (List Int)) (w0 w : World) (hB0 : Below w0.heap.size w0 w) (hg3 : w0.heap.size ≤ g3) (hn1 : g1 ≠ g3) (hn2 : g2 ≠ g3)
 (hb1 : w.heap[g1]? = some (.cells #[.slice A0_0 l0_0.length c0_0,.int .i64 a0_1,.slice A0_2 l0_2.length c0_2,.int .i64 a0_3,.int .i64 a0_4] 27 (0,0))) (hb2 : w.heap[g2]? = some (.cells #[.int .i64 s0,.int .i64 s1] 40 (0,0))) (hb3 : w.heap[g3]? = some (.cells #[.int .i64 x0,.int .i64 x1] 40 (0,0))) (hr0_0 : Kd.C k126 w A0_0 l0_0.length l0_0) (hc0_0 : l0_0.length ≤ c0_0) (hr0_2 : Kd.C k64 w A0_2 l0_2.length l0_2) (hc0_2 : l0_2.length ≤ c0_2)
 (h1 : ca_fill.f k l0_0 a0_1 l0_2 a0_3 a0_4 = some (t1,t2,t3,t4)) (h2 : gf_proves.f l0_0 t1 l0_2 t2 t3 t4 s0 s1 = some (r1,r2)) :
 Calls Tryz.prog 71 #[.pointer (some ⟨g1,0,none⟩),.pointer (some ⟨g2,0,none⟩),.pointer (some ⟨g3,0,none⟩)] w fun e w' => e = .returned (.tuple #[]) ∧ w'.heap[g3]? = some (.cells #[.int .i64 r1,.int .i64 r2] 40 (0,0)) ∧ KeepBut w w' g3 none ∧ Below w0.heap.size w0 w' := by
 have hu := Tryz.underlying27
 have hus := Tryz.underlying40
 have HB := am (below_drew (Below.refl w.heap.size w))
 have HR0 := am hr0_0
 have HC0 := am hc0_0
 have HR2 := am hr0_2
 have HC2 := am hc0_2
 have H1 := am h1
 have H2 := am h2
 have HB0 := am hB0
 have BKa := am hb1
 have BKb := am hb2
 have BKc := am hb3
 have HG := am hg3
 clear hr0_0 hc0_0 hr0_2 hc0_2 h1 h2 hB0 hb1 hb2 hb3 hg3
 obtain ⟨ca0,ca1,ca2,ca3,ca4⟩ := cO5 BKa.out
 obtain ⟨cb0,cb1⟩ := cO2 BKb.out
 go_enter Tryz.func71,Tryz.ntmps71
 go_region_held3 (fun W => W.cell? ⟨g1,0,none⟩ = some (.slice A0_0 l0_0.length c0_0) ∧ W.cell? ⟨g1,1,none⟩ = some (.int .i64 a0_1) ∧ W.cell? ⟨g1,2,none⟩ = some (.slice A0_2 l0_2.length c0_2) ∧ W.cell? ⟨g1,3,none⟩ = some (.int .i64 a0_3) ∧ W.cell? ⟨g1,4,none⟩ = some (.int .i64 a0_4) ∧ W.cell? ⟨g2,0,none⟩ = some (.int .i64 s0) ∧ W.cell? ⟨g2,1,none⟩ = some (.int .i64 s1)) (first | go_keep | (exact ⟨(blk_cell (blk_below BKa.out HB.out) 0).trans rfl,(blk_cell (blk_below BKa.out HB.out) 1).trans rfl,(blk_cell (blk_below BKa.out HB.out) 2).trans rfl,(blk_cell (blk_below BKa.out HB.out) 3).trans rfl,(blk_cell (blk_below BKa.out HB.out) 4).trans rfl,(blk_cell (blk_below BKb.out HB.out) 0).trans rfl,(blk_cell (blk_below BKb.out HB.out) 1).trans rfl⟩) | (exact ⟨(blk_cell (blk_far (blk_far (blk_below BKa.out HB.out) hn1 _) hn1 _) 0).trans rfl,(blk_cell (blk_far (blk_far (blk_below BKa.out HB.out) hn1 _) hn1 _) 1).trans rfl,(blk_cell (blk_far (blk_far (blk_below BKa.out HB.out) hn1 _) hn1 _) 2).trans rfl,(blk_cell (blk_far (blk_far (blk_below BKa.out HB.out) hn1 _) hn1 _) 3).trans rfl,(blk_cell (blk_far (blk_far (blk_below BKa.out HB.out) hn1 _) hn1 _) 4).trans rfl,(blk_cell (blk_far (blk_far (blk_below BKb.out HB.out) hn2 _) hn2 _) 0).trans rfl,(blk_cell (blk_far (blk_far (blk_below BKb.out HB.out) hn2 _) hn2 _) 1).trans rfl⟩)) ((first | (go_at_call 59;refine (ca_fill.calls k A0_0 c0_0 l0_0 a0_1 A0_2 c0_2 l0_2 a0_3 a0_4 t1 t2 t3 t4 _ (kC HR0.out HB.out) HC0.out (kC HR2.out HB.out) HC2.out H1.out).mono ?_;rintro e w1 ⟨v4,rfl,ho,hb⟩;obtain ⟨Ao,co,rfl,hlc,hrc⟩ := Kd.R_reads (Kd.S_R ho);have HR5 := am hrc;have HC5 := am hlc;have n_ := (bmv HB hb);clear HB hb ho hrc hlc;have HB := n_;clear n_) | (go_at_call 72;refine (gf_proves.calls A0_0 c0_0 l0_0 t1 A0_2 c0_2 l0_2 t2 t3 _ _ t4 s0 s1 r1 r2 _ (kC HR0.out HB.out) HC0.out (kC HR2.out HB.out) HC2.out HR5.out HC5.out H2.out).mono ?_;rintro e w2 ⟨rfl,hb⟩;have n_ := (bmv HB hb);clear HB hb;have HB := n_;clear n_;have cc0 : w2.cell? ⟨g3,0,none⟩ = some (.int .i64 x0) := (blk_cell (blk_below BKc.out HB.out) 0).trans rfl;have cc1 : w2.cell? ⟨g3,1,none⟩ = some (.int .i64 x1) := (blk_cell (blk_below BKc.out HB.out) 1).trans rfl;have cf0 := blk_frozen (blk_below BKc.out HB.out) 0;have cf1 := blk_frozen (blk_below BKc.out HB.out) 1)))
 all_goals (first | go_end0 | ((try simp only [Exit.inBlock,Exit.then]);refine bodyPost_ret (results_none rfl _ _ _) rfl ?_))
 all_goals exact ⟨rfl,((blk_set (blk_set (blk_below BKc.out HB.out) 0 _) 1 _).trans rfl),KeepBut.set_ (KeepBut.set_ (KeepBut.of_below HB.out g3 none) 0 _) 1 _,below_set (below_set (below_then HB0.out HB0.out.size HB.out) HG.out) HG.out⟩
theorem Proves1_gives_up (k : Nat) (g1 g2 g3 : Nat) (A0_0 : Option Addr) (c0_0 : Nat) (l0_0 : List S126) (a0_1 : Int) (A0_2 : Option Addr) (c0_2 : Nat) (l0_2 : List S64) (a0_3 a0_4 : Int) (s0 s1 x0 x1 r1 r2 : Int) (t1 t2 t3 : Int) (t4 : List (List Int)) (w0 w : World) (hB0 : Below w0.heap.size w0 w) (hg3 : w0.heap.size ≤ g3) (hn1 : g1 ≠ g3) (hn2 : g2 ≠ g3)
 (hb1 : w.heap[g1]? = some (.cells #[.slice A0_0 l0_0.length c0_0,.int .i64 a0_1,.slice A0_2 l0_2.length c0_2,.int .i64 a0_3,.int .i64 a0_4] 27 (0,0))) (hb2 : w.heap[g2]? = some (.cells #[.int .i64 s0,.int .i64 s1] 40 (0,0))) (hb3 : w.heap[g3]? = some (.cells #[.int .i64 x0,.int .i64 x1] 40 (0,0))) (hr0_0 : Kd.C k126 w A0_0 l0_0.length l0_0) (hc0_0 : l0_0.length ≤ c0_0) (hr0_2 : Kd.C k64 w A0_2 l0_2.length l0_2) (hc0_2 : l0_2.length ≤ c0_2)
 (h1 : ca_fill.f k l0_0 a0_1 l0_2 a0_3 a0_4 = some (t1,t2,t3,t4)) (h2 : gf_proves_P.f l0_0 t1 l0_2 t2 t3 t4 s0 s1 = some (r1,r2)) :
 Calls Tryz.prog 71 #[.pointer (some ⟨g1,0,none⟩),.pointer (some ⟨g2,0,none⟩),.pointer (some ⟨g3,0,none⟩)] w fun e w' => e = .panicked [{ v := .iface 135 (.agg #[.int .i64 r1,.int .i64 r2]),recovered := false }] ∧ Below w.heap.size w w' := by
 have hu := Tryz.underlying27
 have hus := Tryz.underlying40
 have HB := am (below_drew (Below.refl w.heap.size w))
 have HR0 := am hr0_0
 have HC0 := am hc0_0
 have HR2 := am hr0_2
 have HC2 := am hc0_2
 have H1 := am h1
 have H2 := am h2
 have HB0 := am hB0
 have BKa := am hb1
 have BKb := am hb2
 have BKc := am hb3
 have HG := am hg3
 clear hr0_0 hc0_0 hr0_2 hc0_2 h1 h2 hB0 hb1 hb2 hb3 hg3
 obtain ⟨ca0,ca1,ca2,ca3,ca4⟩ := cO5 BKa.out
 obtain ⟨cb0,cb1⟩ := cO2 BKb.out
 go_enter Tryz.func71,Tryz.ntmps71
 refine start_ (n := 5) (S := fun W => W.cell? ⟨g1,0,none⟩ = some (.slice A0_0 l0_0.length c0_0) ∧ W.cell? ⟨g1,1,none⟩ = some (.int .i64 a0_1) ∧ W.cell? ⟨g1,2,none⟩ = some (.slice A0_2 l0_2.length c0_2) ∧ W.cell? ⟨g1,3,none⟩ = some (.int .i64 a0_3) ∧ W.cell? ⟨g1,4,none⟩ = some (.int .i64 a0_4) ∧ W.cell? ⟨g2,0,none⟩ = some (.int .i64 s0) ∧ W.cell? ⟨g2,1,none⟩ = some (.int .i64 s1)) (ds := [3,4]) (ba 5 0) (by kernel_rfl) rfl rfl ⟨(blk_cell (blk_drew BKa.out) 0).trans rfl,(blk_cell (blk_drew BKa.out) 1).trans rfl,(blk_cell (blk_drew BKa.out) 2).trans rfl,(blk_cell (blk_drew BKa.out) 3).trans rfl,(blk_cell (blk_drew BKa.out) 4).trans rfl,(blk_cell (blk_drew BKb.out) 0).trans rfl,(blk_cell (blk_drew BKb.out) 1).trans rfl⟩ (fun hHeld => ?_)
 refine take_ (i := 0) (N := some 3) (v := ?_) (a' := ?_) (ba 5 1) rfl rfl (by kernel_rfl) (fun _ _ _ h => h) (Or.inl ⟨by rfl,?_⟩) hHeld ?_ ?_
 rotate_left
 · rintro w' ⟨s0,s1,s2,s3,s4,s5,s6⟩
   go_simp
   with_reducible rfl
 rotate_left
 · simp only [Act.put,NRM]
   rfl
 refine take_ (i := 2) (N := some 5) (v := ?_) (a' := ?_) (ba 5 5) rfl rfl (by kernel_rfl) (fun _ _ _ h => h) (Or.inl ⟨by rfl,?_⟩) hHeld ?_ ?_
 rotate_left
 · rintro w' ⟨s0,s1,s2,s3,s4,s5,s6⟩
   go_simp
   with_reducible rfl
 rotate_left
 · simp only [Act.put,NRM]
   rfl
 refine one_ (i := 1) (N := some 4) (ba 5 7) rfl rfl (by kernel_rfl) (by decide) (fun K hK => ?_)
 refine goes_ Tryz.func59 (by kernel_rfl) rfl #[.agg #[.slice A0_0 l0_0.length c0_0,.int .i64 a0_1,.slice A0_2 l0_2.length c0_2,.int .i64 a0_3,.int .i64 a0_4]] (by rfl) rfl rfl (by (try simp only [List.map_toArray,List.map_cons,List.map_nil]);first | done | rfl) ?_
 refine (ca_fill.calls k A0_0 c0_0 l0_0 a0_1 A0_2 c0_2 l0_2 a0_3 a0_4 t1 t2 t3 t4 _ (kC HR0.out HB.out) HC0.out (kC HR2.out HB.out) HC2.out H1.out).mono ?_
 rintro e w1 ⟨v4,rfl,ho,hb⟩
 refine ⟨_,rfl,?_⟩
 obtain ⟨Ao,co,rfl,hlc,hrc⟩ := Kd.R_reads (Kd.S_R ho)
 have HB1 := (bmv HB hb)
 refine hK.out _ _ ⟨(blk_cell (blk_below BKa.out HB1.out) 0).trans rfl,(blk_cell (blk_below BKa.out HB1.out) 1).trans rfl,(blk_cell (blk_below BKa.out HB1.out) 2).trans rfl,(blk_cell (blk_below BKa.out HB1.out) 3).trans rfl,(blk_cell (blk_below BKa.out HB1.out) 4).trans rfl,(blk_cell (blk_below BKb.out HB1.out) 0).trans rfl,(blk_cell (blk_below BKb.out HB1.out) 1).trans rfl⟩ (fun hHeld => ?_)
 clear hK K
 refine last_ (i := 3) (N := some 6) (ba 5 15) rfl rfl (by kernel_rfl) (by decide) (fun K hK => ?_)
 refine goesP_ Tryz.func72 (by kernel_rfl) rfl #[.agg #[.slice A0_0 l0_0.length c0_0,.int .i64 t1,.slice A0_2 l0_2.length c0_2,.int .i64 t2,.int .i64 t3,.slice Ao t4.length co],.agg #[.int .i64 s0,.int .i64 s1]] (by rfl) rfl rfl (by (try simp only [List.map_toArray,List.map_cons,List.map_nil]);first | done | rfl) ?_
 refine (gf_proves_P.calls A0_0 c0_0 l0_0 t1 A0_2 c0_2 l0_2 t2 t3 Ao co t4 s0 s1 r1 r2 _ (kC HR0.out HB1.out) HC0.out (kC HR2.out HB1.out) HC2.out hrc hlc H2.out).mono ?_
 rintro e w2 ⟨rfl,hb2⟩
 exact ⟨_,rfl,rfl,rfl,below_then HB1.out HB1.out.size hb2⟩
end Go.Proofs.YticlelgmmonloaaGreatDoor.C

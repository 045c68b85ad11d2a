/- A part of the proof: the walks of the functions that it reaches. TIGHT. -/
import Derived.Test.YticlelgmmonloaaGreatDoorLBounds1
import Derived.Test.YticlelgmmonloaaGreatDoorM19
import Derived.Test.YticlelgmmonloaaGreatDoorLBounds2
set_option linter.unusedVariables false
set_option linter.unusedSimpArgs false
namespace Go.Proofs.YticlelgmmonloaaGreatDoor.C
open Go.RowKit Go.Proofs.YticlelgmmonloaaGreatDoorW.PrintWords Go.Proofs.YticlelgmmonloaaGreatDoorW.PrintLast Go.Proofs.YticlelgmmonloaaGreatDoorW.PrintMore
set_option linter.unusedVariables false
set_option linter.unusedSimpArgs false
set_option maxHeartbeats 16000000
set_option maxRecDepth 100000
section
attribute [local go_sem] max2_int min2_int max_two min_two
attribute [local go_sem high] eqA40
def l4_CastleBounds.j0 : Nat → Int → List (S40) → Int → Bool → List (S126) → Int → List (S64) → Int → Int → Int → Int → Int → Int → Int → Int → Option (Bool)
 | 0,_,_,_,_,_,_,_,_,_,_,_,_,_,_,_ => none
 | k + 1,x6,x7,x9,x36,x594000,x594001,x594002,x594003,x594004,x595000,x595001,x601000,x601001,x608000,x608001 => if x36 = true then (if x6 = 2 then (if (x601000 == 0 && (x601001 == 0)) = true then (if x9 = 2 then (if (x7.length : Int) = 0 then (if (x608000 == 0 && (x608001 == 0)) = true then ((l4_known.f).bind fun t610 => (some t610)) else (none)) else (none)) else (none)) else (none)) else (none)) else ((q4_Bounds.f k x594000 x594001 x594002 x594003 x594004 x595000 x595001).bind fun bt611 => (if x6 = 0 then ((q4_Stands.f k x594000 x594001 x594002 x594003 x594004 x595000).bind fun t617 => ((q4_Stands.f k x594000 x594001 x594002 x594003 x594004 x595001).bind fun t618 => (if (x601000 == t617 && (x601001 == t618)) = true then (if x9 = 0 then ((q4_SameSpans.f k x7 bt611.1).bind fun t619 => (if t619 = true then (if (x608000 == bt611.2.1 && (x608001 == bt611.2.2)) = true then ((l4_known.f).bind fun t620 => (some t620)) else (none)) else (none))) else (none)) else (none)))) else (none)))
def l4_CastleBounds.f (k : Nat) (l0_0 : List (S126)) (a0_1 : Int) (l0_2 : List (S64)) (a0_3 : Int) (a0_4 : Int) (a1_0 : Int) (a1_1 : Int) : Option (Bool) := (l4_short.f l0_0 a0_1 l0_2 a0_3 a0_4).bind fun t595 => (if t595 = true then ((ca_Level.f k l0_0 a0_1 l0_2 a0_3 a0_4 a1_0 a1_1).bind fun bt597 => ((ca_Bounds.f k l0_0 a0_1 l0_2 a0_3 a0_4 a1_0 a1_1).bind fun bt601 => ((q4_Basin.f k l0_0 a0_1 l0_2 a0_3 a0_4).bind fun t608 => (if t608 = true then ((q4_Flow.f a1_0 a1_1).bind fun t609 => (l4_CastleBounds.j0 k bt597.2.2 bt601.1 bt601.2.2.2 (!t609) l0_0 a0_1 l0_2 a0_3 a0_4 a1_0 a1_1 bt597.1 bt597.2.1 bt601.2.1 bt601.2.2.1)) else (l4_CastleBounds.j0 k bt597.2.2 bt601.1 bt601.2.2.2 true l0_0 a0_1 l0_2 a0_3 a0_4 a1_0 a1_1 bt597.1 bt597.2.1 bt601.2.1 bt601.2.2.1))))) else ((l4_known.f).bind fun t596 => (some t596)))
def l4_CastleBounds.T8 : Bool × List (List Nat × List Nat) := (true,[([],[]),([0],[0]),([1],[1]),([2],[2]),([2],[2]),([2],[2]),([5,2],[2,5]),([4,6,2,2],[2,4,6]),([2],[2]),([2],[2]),([9,2],[2,9]),([8,10,7,2],[2,8,10]),([7,11,2],[2,7,11]),([3,12,2],[2,3,12]),([2,13],[2,13]),([14,11],[14]),([15],[15]),([16,15],[15,16]),([15,17],[15,17]),([18,15],[18]),([19],[19]),([19],[19]),([20,21,19,19],[19,20,21]),([19,22],[19,22]),([23,22],[23]),([24],[24]),([24],[24]),([25,26,24],[24,25,26]),([24,27],[24,27]),([28,24],[28]),([29,29],[29]),([29,30],[29,30]),([31,30,0,1,2,3,4,5,6,7,8,9,10,11,12,13,14,15,16,17,18,19,20,21,22,23,24,25,26,27,28,29,30,31],[31])])
def l4_CastleBounds.B8 : List Nat := [0,1,3,7,7,7,39,119,7,7,519,2039,4087,8191,16383,32767,65535,131071,262143,524287,1048575,1048575,4194303,8388607,16777215,33554431,33554431,134217727,268435455,536870911,1073741823,2147483647,4294967295]
theorem l4_CastleBounds.tab8 : rtab .any (opsOf Tryz.f5 8) = l4_CastleBounds.T8 := by kernel_rfl
theorem l4_CastleBounds.bits8 : waitsOk l4_CastleBounds.T8.2 l4_CastleBounds.B8 = true := by kernel_rfl
theorem l4_CastleBounds.calls (k : Nat) (A0_0 : Option Addr) (c0_0 : Nat) (l0_0 : List (S126)) (a0_1 : Int) (A0_2 : Option Addr) (c0_2 : Nat) (l0_2 : List (S64)) (a0_3 : Int) (a0_4 : Int) (a1_0 : Int) (a1_1 : Int) (r : Bool) (w : World) (hr0_0 : Kd.C k126 w A0_0 l0_0.length l0_0) (hc0_0 : l0_0.length ≤ c0_0) (hr0_2 : Kd.C k64 w A0_2 l0_2.length l0_2) (hc0_2 : l0_2.length ≤ c0_2) (h : l4_CastleBounds.f k l0_0 a0_1 l0_2 a0_3 a0_4 a1_0 a1_1 = some r) :
 Calls Tryz.prog 5 #[.agg #[.slice A0_0 l0_0.length c0_0,.int .i64 a0_1,.slice A0_2 l0_2.length c0_2,.int .i64 a0_3,.int .i64 a0_4],.agg #[.int .i64 a1_0,.int .i64 a1_1]] w fun e w' => e = .returned (.bool r) ∧ Below w.heap.size w w' := by
 have hu27 := Tryz.underlying27
 have hu40 := Tryz.underlying40
 have HR0_0 := am hr0_0
 have HC0_0 := am hc0_0
 clear hr0_0 hc0_0
 have HR0_2 := am hr0_2
 have HC0_2 := am hc0_2
 clear hr0_2 hc0_2
 have HB := am (Below.refl w.heap.size w)
 have H : ((l4_short.f l0_0 a0_1 l0_2 a0_3 a0_4).bind fun t595 => (if t595 = true then ((ca_Level.f k l0_0 a0_1 l0_2 a0_3 a0_4 a1_0 a1_1).bind fun bt597 => ((ca_Bounds.f k l0_0 a0_1 l0_2 a0_3 a0_4 a1_0 a1_1).bind fun bt601 => ((q4_Basin.f k l0_0 a0_1 l0_2 a0_3 a0_4).bind fun t608 => (if t608 = true then ((q4_Flow.f a1_0 a1_1).bind fun t609 => (l4_CastleBounds.j0 k bt597.2.2 bt601.1 bt601.2.2.2 (!t609) l0_0 a0_1 l0_2 a0_3 a0_4 a1_0 a1_1 bt597.1 bt597.2.1 bt601.2.1 bt601.2.2.1)) else (l4_CastleBounds.j0 k bt597.2.2 bt601.1 bt601.2.2.2 true l0_0 a0_1 l0_2 a0_3 a0_4 a1_0 a1_1 bt597.1 bt597.2.1 bt601.2.1 bt601.2.2.1))))) else ((l4_known.f).bind fun t596 => (some t596)))) = some r := h
 clear h
 replace H := obm H
 obtain ⟨t595,A30,H⟩ := H
 replace H : (if t595 = true then ((ca_Level.f k l0_0 a0_1 l0_2 a0_3 a0_4 a1_0 a1_1).bind fun bt597 => ((ca_Bounds.f k l0_0 a0_1 l0_2 a0_3 a0_4 a1_0 a1_1).bind fun bt601 => ((q4_Basin.f k l0_0 a0_1 l0_2 a0_3 a0_4).bind fun t608 => (if t608 = true then ((q4_Flow.f a1_0 a1_1).bind fun t609 => (l4_CastleBounds.j0 k bt597.2.2 bt601.1 bt601.2.2.2 (!t609) l0_0 a0_1 l0_2 a0_3 a0_4 a1_0 a1_1 bt597.1 bt597.2.1 bt601.2.1 bt601.2.2.1)) else (l4_CastleBounds.j0 k bt597.2.2 bt601.1 bt601.2.2.2 true l0_0 a0_1 l0_2 a0_3 a0_4 a1_0 a1_1 bt597.1 bt597.2.1 bt601.2.1 bt601.2.2.1))))) else ((l4_known.f).bind fun t596 => (some t596))) = some r := H
 have A3 := am A30
 clear A30
 by_cases c4 : t595 = true
 case neg =>
  replace c4 := Bool.eq_false_iff.mpr c4
  subst c4
  replace H : ((l4_known.f).bind fun t596 => (some t596)) = some r := by rw [if_neg (show ¬ (false = true) by decide)] at H;exact H
  replace H := obm H
  obtain ⟨t596,A920,H⟩ := H
  replace H : (some t596) = some r := H
  have A92 := am A920
  clear A920
  obtain rfl := Option.some.inj H
  go_enter Tryz.func5,Tryz.ntmps5
  go_wp2_with (first | ((with_reducible refine gate_dst (N := 2) rfl ?_);(try (refine gate_guard (by rfl) ?_;dsimp only));refine box_event ?hg (N := 2) ?hd (cs := #[.slice A0_0 l0_0.length c0_0,.int .i64 a0_1,.slice A0_2 l0_2.length c0_2,.int .i64 a0_3,.int .i64 a0_4]) (t := 27) ?hr ?_;(case hd => rfl);(case hg => rfl);(case hr => go_simp;try rfl);intro gb593 hg w93 hbox hb;have BK593 := am (hbox);have GW593 := am (ge_new (by repeat (first | (with_reducible first | exact HB.out | apply below_alloc | apply pw_below_drewN) | exact HB.out)) hg);have GE593 := am (ge_new (by repeat (first | (with_reducible first | exact HB.out | apply below_alloc | apply pw_below_drewN) | exact HB.out)) hg);replace HB := am (below_step (by repeat (first | (with_reducible first | exact HB.out | apply below_alloc | apply pw_below_drewN) | exact HB.out)) hb);clear hb hbox hg) | ((with_reducible refine gate_dst (N := 3) rfl ?_);(try (refine gate_guard (by rfl) ?_;dsimp only));refine box_event ?hg (N := 3) ?hd (cs := #[.int .i64 a1_0,.int .i64 a1_1]) (t := 40) ?hr ?_;(case hd => rfl);(case hg => rfl);(case hr => go_simp;try rfl);intro gb594 hg w94 hbox hb;have BK594 := am (hbox);have GW594 := am (ge_new (by repeat (first | (with_reducible first | exact HB.out | refine below_set ?_ GE593.out | apply below_alloc | apply pw_below_drewN) | exact HB.out)) hg);have GE594 := am (ge_new (by repeat (first | (with_reducible first | exact HB.out | refine below_set ?_ GE593.out | apply below_alloc | apply pw_below_drewN) | exact HB.out)) hg);have NB593_594 := am ((by rw [hg];exact Nat.ne_of_lt (blk_lt (g := gb593) (o := .cells #[.slice A0_0 l0_0.length c0_0,.int .i64 a0_1,.slice A0_2 l0_2.length c0_2,.int .i64 a0_3,.int .i64 a0_4] 27 (0,0)) (by (with_reducible repeat (first | refine blk_drewN ?_ _ | refine blk_drew ?_ | refine blk_alloc ?_ _));exact BK593.out)) : gb593 ≠ gb594));have NB594_593 := am ((by rw [hg];exact Nat.ne_of_gt (blk_lt (g := gb593) (o := .cells #[.slice A0_0 l0_0.length c0_0,.int .i64 a0_1,.slice A0_2 l0_2.length c0_2,.int .i64 a0_3,.int .i64 a0_4] 27 (0,0)) (by (with_reducible repeat (first | refine blk_drewN ?_ _ | refine blk_drew ?_ | refine blk_alloc ?_ _));exact BK593.out)) : gb594 ≠ gb593));replace BK593 := am (blk_below (g := gb593) (o := .cells #[.slice A0_0 l0_0.length c0_0,.int .i64 a0_1,.slice A0_2 l0_2.length c0_2,.int .i64 a0_3,.int .i64 a0_4] 27 (0,0)) (by (with_reducible repeat (first | refine blk_drewN ?_ _ | refine blk_drew ?_ | refine blk_alloc ?_ _));exact BK593.out) hb);replace HB := am (below_step (by repeat (first | (with_reducible first | exact HB.out | refine below_set ?_ GE593.out | apply below_alloc | apply pw_below_drewN) | exact HB.out)) hb);clear hb hbox hg;have hnb95 := NB593_594.out;have hnc95 := NB594_593.out;obtain ⟨hcz96_0,hcz96_1,hcz96_2,hcz96_3,hcz96_4⟩ := cO5 BK593.out;have hfz96_0 := blk_frozen BK593.out 0;have hfz96_1 := blk_frozen BK593.out 1;have hfz96_2 := blk_frozen BK593.out 2;have hfz96_3 := blk_frozen BK593.out 3;have hfz96_4 := blk_frozen BK593.out 4) | ((with_reducible refine gate_callee (f := 14) rfl ?_);refine goesL_ (some 13) rfl rfl Tryz.func14 (by kernel_rfl) rfl #[.agg #[.slice A0_0 l0_0.length c0_0,.int .i64 a0_1,.slice A0_2 l0_2.length c0_2,.int .i64 a0_3,.int .i64 a0_4]] rfl (by (try simp only [List.map_toArray,List.map_cons,List.map_nil]);first | done | rfl | (simp only [List.length_drop,List.length_take];rfl)) ?_;(with_reducible refine (l4_short.calls _ _ l0_0 a0_1 _ _ l0_2 a0_3 a0_4 false _ ?side1 ?side2 ?side3 ?side4 A3.out).mono ?_);(case side1 => repeat (first | exact (kC HR0_0.out HB.out) | (with_reducible refine Kd.C_alloc ?_ _) | (with_reducible refine Kd.C_drewN ?_ _) | (with_reducible refine Kd.C_drew ?_)));(case side2 => exact HC0_0.out);(case side3 => repeat (first | exact (kC HR0_2.out HB.out) | (with_reducible refine Kd.C_alloc ?_ _) | (with_reducible refine Kd.C_drewN ?_ _) | (with_reducible refine Kd.C_drew ?_)));(case side4 => exact HC0_2.out);rintro e w97 ⟨rfl,hb⟩;refine ⟨_,rfl,?_⟩;replace BK593 := am (blk_below (g := gb593) (o := .cells #[.slice A0_0 l0_0.length c0_0,.int .i64 a0_1,.slice A0_2 l0_2.length c0_2,.int .i64 a0_3,.int .i64 a0_4] 27 (0,0)) (by (with_reducible repeat (first | refine blk_drewN ?_ _ | refine blk_drew ?_ | refine blk_alloc ?_ _));exact BK593.out) hb);replace BK594 := am (blk_below (g := gb594) (o := .cells #[.int .i64 a1_0,.int .i64 a1_1] 40 (0,0)) (by (with_reducible repeat (first | refine blk_drewN ?_ _ | refine blk_drew ?_ | refine blk_alloc ?_ _));exact BK594.out) hb);replace HB := am (below_step (by repeat (first | (with_reducible first | exact HB.out | refine below_set ?_ (Aside0.out (by assumption)) | apply below_alloc | apply pw_below_drewN) | exact HB.out)) hb);(try clear hb);(try clear hb2);(try clear hk);(try clear hi)) | ((with_reducible refine gate_callee (f := 15) rfl ?_);refine goesL_ (some 15) rfl rfl Tryz.func15 (by kernel_rfl) rfl #[] rfl (by (try simp only [List.map_toArray,List.map_cons,List.map_nil]);first | done | rfl | (simp only [List.length_drop,List.length_take];rfl)) ?_;(with_reducible refine (l4_known.calls  t596 _ A92.out).mono ?_);rintro e w98 ⟨rfl,hb⟩;refine ⟨_,rfl,?_⟩;replace BK593 := am (blk_below (g := gb593) (o := .cells #[.slice A0_0 l0_0.length c0_0,.int .i64 a0_1,.slice A0_2 l0_2.length c0_2,.int .i64 a0_3,.int .i64 a0_4] 27 (0,0)) (by (with_reducible repeat (first | refine blk_drewN ?_ _ | refine blk_drew ?_ | refine blk_alloc ?_ _));exact BK593.out) hb);replace BK594 := am (blk_below (g := gb594) (o := .cells #[.int .i64 a1_0,.int .i64 a1_1] 40 (0,0)) (by (with_reducible repeat (first | refine blk_drewN ?_ _ | refine blk_drew ?_ | refine blk_alloc ?_ _));exact BK594.out) hb);replace HB := am (below_step (by repeat (first | (with_reducible first | exact HB.out | refine below_set ?_ (Aside0.out (by assumption)) | apply below_alloc | apply pw_below_drewN) | exact HB.out)) hb);(try clear hb);(try clear hb2);(try clear hk);(try clear hi)))
  go_ret
  exact ⟨by first | rfl | (simp [*] <;> rfl),by repeat (first | (with_reducible first | exact HB.out | refine below_set ?_ (Aside0.out (by assumption)) | apply below_alloc | apply pw_below_drewN) | exact HB.out)⟩
 subst c4
 replace H : ((ca_Level.f k l0_0 a0_1 l0_2 a0_3 a0_4 a1_0 a1_1).bind fun bt597 => ((ca_Bounds.f k l0_0 a0_1 l0_2 a0_3 a0_4 a1_0 a1_1).bind fun bt601 => ((q4_Basin.f k l0_0 a0_1 l0_2 a0_3 a0_4).bind fun t608 => (if t608 = true then ((q4_Flow.f a1_0 a1_1).bind fun t609 => (l4_CastleBounds.j0 k bt597.2.2 bt601.1 bt601.2.2.2 (!t609) l0_0 a0_1 l0_2 a0_3 a0_4 a1_0 a1_1 bt597.1 bt597.2.1 bt601.2.1 bt601.2.2.1)) else (l4_CastleBounds.j0 k bt597.2.2 bt601.1 bt601.2.2.2 true l0_0 a0_1 l0_2 a0_3 a0_4 a1_0 a1_1 bt597.1 bt597.2.1 bt601.2.1 bt601.2.2.1))))) = some r := by rw [if_pos rfl] at H;exact H
 replace H := obm H
 obtain ⟨⟨t597,t598,t599⟩,A50,H⟩ := H
 replace H : ((ca_Bounds.f k l0_0 a0_1 l0_2 a0_3 a0_4 a1_0 a1_1).bind fun bt601 => ((q4_Basin.f k l0_0 a0_1 l0_2 a0_3 a0_4).bind fun t608 => (if t608 = true then ((q4_Flow.f a1_0 a1_1).bind fun t609 => (l4_CastleBounds.j0 k t599 bt601.1 bt601.2.2.2 (!t609) l0_0 a0_1 l0_2 a0_3 a0_4 a1_0 a1_1 t597 t598 bt601.2.1 bt601.2.2.1)) else (l4_CastleBounds.j0 k t599 bt601.1 bt601.2.2.2 true l0_0 a0_1 l0_2 a0_3 a0_4 a1_0 a1_1 t597 t598 bt601.2.1 bt601.2.2.1)))) = some r := H
 have A5 := am A50
 clear A50
 replace H := obm H
 obtain ⟨⟨t601,t604,t605,t606⟩,A60,H⟩ := H
 replace H : ((q4_Basin.f k l0_0 a0_1 l0_2 a0_3 a0_4).bind fun t608 => (if t608 = true then ((q4_Flow.f a1_0 a1_1).bind fun t609 => (l4_CastleBounds.j0 k t599 t601 t606 (!t609) l0_0 a0_1 l0_2 a0_3 a0_4 a1_0 a1_1 t597 t598 t604 t605)) else (l4_CastleBounds.j0 k t599 t601 t606 true l0_0 a0_1 l0_2 a0_3 a0_4 a1_0 a1_1 t597 t598 t604 t605))) = some r := H
 have A6 := am A60
 clear A60
 have HC7 := am H
 clear H
 go_enter Tryz.func5,Tryz.ntmps5
 go_upto_region 5 with (first | ((with_reducible refine gate_dst (N := 2) rfl ?_);(try (refine gate_guard (by rfl) ?_;dsimp only));refine box_event ?hg (N := 2) ?hd (cs := #[.slice A0_0 l0_0.length c0_0,.int .i64 a0_1,.slice A0_2 l0_2.length c0_2,.int .i64 a0_3,.int .i64 a0_4]) (t := 27) ?hr ?_;(case hd => rfl);(case hg => rfl);(case hr => go_simp;try rfl);intro gb593 hg w8 hbox hb;have BK593 := am (hbox);have GW593 := am (ge_new (by repeat (first | (with_reducible first | exact HB.out | apply below_alloc | apply pw_below_drewN) | exact HB.out)) hg);have GE593 := am (ge_new (by repeat (first | (with_reducible first | exact HB.out | apply below_alloc | apply pw_below_drewN) | exact HB.out)) hg);replace HB := am (below_step (by repeat (first | (with_reducible first | exact HB.out | apply below_alloc | apply pw_below_drewN) | exact HB.out)) hb);clear hb hbox hg) | ((with_reducible refine gate_dst (N := 3) rfl ?_);(try (refine gate_guard (by rfl) ?_;dsimp only));refine box_event ?hg (N := 3) ?hd (cs := #[.int .i64 a1_0,.int .i64 a1_1]) (t := 40) ?hr ?_;(case hd => rfl);(case hg => rfl);(case hr => go_simp;try rfl);intro gb594 hg w9 hbox hb;have BK594 := am (hbox);have GW594 := am (ge_new (by repeat (first | (with_reducible first | exact HB.out | refine below_set ?_ GE593.out | apply below_alloc | apply pw_below_drewN) | exact HB.out)) hg);have GE594 := am (ge_new (by repeat (first | (with_reducible first | exact HB.out | refine below_set ?_ GE593.out | apply below_alloc | apply pw_below_drewN) | exact HB.out)) hg);have NB593_594 := am ((by rw [hg];exact Nat.ne_of_lt (blk_lt (g := gb593) (o := .cells #[.slice A0_0 l0_0.length c0_0,.int .i64 a0_1,.slice A0_2 l0_2.length c0_2,.int .i64 a0_3,.int .i64 a0_4] 27 (0,0)) (by (with_reducible repeat (first | refine blk_drewN ?_ _ | refine blk_drew ?_ | refine blk_alloc ?_ _));exact BK593.out)) : gb593 ≠ gb594));have NB594_593 := am ((by rw [hg];exact Nat.ne_of_gt (blk_lt (g := gb593) (o := .cells #[.slice A0_0 l0_0.length c0_0,.int .i64 a0_1,.slice A0_2 l0_2.length c0_2,.int .i64 a0_3,.int .i64 a0_4] 27 (0,0)) (by (with_reducible repeat (first | refine blk_drewN ?_ _ | refine blk_drew ?_ | refine blk_alloc ?_ _));exact BK593.out)) : gb594 ≠ gb593));replace BK593 := am (blk_below (g := gb593) (o := .cells #[.slice A0_0 l0_0.length c0_0,.int .i64 a0_1,.slice A0_2 l0_2.length c0_2,.int .i64 a0_3,.int .i64 a0_4] 27 (0,0)) (by (with_reducible repeat (first | refine blk_drewN ?_ _ | refine blk_drew ?_ | refine blk_alloc ?_ _));exact BK593.out) hb);replace HB := am (below_step (by repeat (first | (with_reducible first | exact HB.out | refine below_set ?_ GE593.out | apply below_alloc | apply pw_below_drewN) | exact HB.out)) hb);clear hb hbox hg;have hnb10 := NB593_594.out;have hnc10 := NB594_593.out;obtain ⟨hcz11_0,hcz11_1,hcz11_2,hcz11_3,hcz11_4⟩ := cO5 BK593.out;have hfz11_0 := blk_frozen BK593.out 0;have hfz11_1 := blk_frozen BK593.out 1;have hfz11_2 := blk_frozen BK593.out 2;have hfz11_3 := blk_frozen BK593.out 3;have hfz11_4 := blk_frozen BK593.out 4) | ((with_reducible refine gate_callee (f := 14) rfl ?_);refine goesL_ (some 13) rfl rfl Tryz.func14 (by kernel_rfl) rfl #[.agg #[.slice A0_0 l0_0.length c0_0,.int .i64 a0_1,.slice A0_2 l0_2.length c0_2,.int .i64 a0_3,.int .i64 a0_4]] rfl (by (try simp only [List.map_toArray,List.map_cons,List.map_nil]);first | done | rfl | (simp only [List.length_drop,List.length_take];rfl)) ?_;(with_reducible refine (l4_short.calls _ _ l0_0 a0_1 _ _ l0_2 a0_3 a0_4 true _ ?side1 ?side2 ?side3 ?side4 A3.out).mono ?_);(case side1 => repeat (first | exact (kC HR0_0.out HB.out) | (with_reducible refine Kd.C_alloc ?_ _) | (with_reducible refine Kd.C_drewN ?_ _) | (with_reducible refine Kd.C_drew ?_)));(case side2 => exact HC0_0.out);(case side3 => repeat (first | exact (kC HR0_2.out HB.out) | (with_reducible refine Kd.C_alloc ?_ _) | (with_reducible refine Kd.C_drewN ?_ _) | (with_reducible refine Kd.C_drew ?_)));(case side4 => exact HC0_2.out);rintro e w12 ⟨rfl,hb⟩;refine ⟨_,rfl,?_⟩;replace BK593 := am (blk_below (g := gb593) (o := .cells #[.slice A0_0 l0_0.length c0_0,.int .i64 a0_1,.slice A0_2 l0_2.length c0_2,.int .i64 a0_3,.int .i64 a0_4] 27 (0,0)) (by (with_reducible repeat (first | refine blk_drewN ?_ _ | refine blk_drew ?_ | refine blk_alloc ?_ _));exact BK593.out) hb);replace BK594 := am (blk_below (g := gb594) (o := .cells #[.int .i64 a1_0,.int .i64 a1_1] 40 (0,0)) (by (with_reducible repeat (first | refine blk_drewN ?_ _ | refine blk_drew ?_ | refine blk_alloc ?_ _));exact BK594.out) hb);replace HB := am (below_step (by repeat (first | (with_reducible first | exact HB.out | refine below_set ?_ (Aside0.out (by assumption)) | apply below_alloc | apply pw_below_drewN) | exact HB.out)) hb);(try clear hb);(try clear hb2);(try clear hk);(try clear hi);obtain ⟨hcz13_0,hcz13_1,hcz13_2,hcz13_3,hcz13_4⟩ := cO5 BK593.out;have hfz13_0 := blk_frozen BK593.out 0;have hfz13_1 := blk_frozen BK593.out 1;have hfz13_2 := blk_frozen BK593.out 2;have hfz13_3 := blk_frozen BK593.out 3;have hfz13_4 := blk_frozen BK593.out 4;obtain ⟨hcz14_0,hcz14_1⟩ := cO2 BK594.out;have hfz14_0 := blk_frozen BK594.out 0;have hfz14_1 := blk_frozen BK594.out 1) | ((with_reducible refine gate_callee (f := 22) rfl ?_);refine goesL_ (some 19) rfl rfl Tryz.func22 (by kernel_rfl) rfl #[.agg #[.slice A0_0 l0_0.length c0_0,.int .i64 a0_1,.slice A0_2 l0_2.length c0_2,.int .i64 a0_3,.int .i64 a0_4],.agg #[.int .i64 a1_0,.int .i64 a1_1]] rfl (by (try simp only [List.map_toArray,List.map_cons,List.map_nil]);first | done | rfl | (simp only [List.length_drop,List.length_take];rfl)) ?_;(with_reducible refine (ca_Level.calls k _ _ l0_0 a0_1 _ _ l0_2 a0_3 a0_4 a1_0 a1_1 t597 t598 t599 _ ?side1 ?side2 ?side3 ?side4 A5.out).mono ?_);(case side1 => repeat (first | exact (kC HR0_0.out HB.out) | (with_reducible refine Kd.C_alloc ?_ _) | (with_reducible refine Kd.C_drewN ?_ _) | (with_reducible refine Kd.C_drew ?_)));(case side2 => exact HC0_0.out);(case side3 => repeat (first | exact (kC HR0_2.out HB.out) | (with_reducible refine Kd.C_alloc ?_ _) | (with_reducible refine Kd.C_drewN ?_ _) | (with_reducible refine Kd.C_drew ?_)));(case side4 => exact HC0_2.out);rintro e w15 ⟨rfl,hb⟩;refine ⟨_,rfl,?_⟩;replace BK593 := am (blk_below (g := gb593) (o := .cells #[.slice A0_0 l0_0.length c0_0,.int .i64 a0_1,.slice A0_2 l0_2.length c0_2,.int .i64 a0_3,.int .i64 a0_4] 27 (0,0)) (by (with_reducible repeat (first | refine blk_drewN ?_ _ | refine blk_drew ?_ | refine blk_alloc ?_ _));exact BK593.out) hb);replace BK594 := am (blk_below (g := gb594) (o := .cells #[.int .i64 a1_0,.int .i64 a1_1] 40 (0,0)) (by (with_reducible repeat (first | refine blk_drewN ?_ _ | refine blk_drew ?_ | refine blk_alloc ?_ _));exact BK594.out) hb);replace HB := am (below_step (by repeat (first | (with_reducible first | exact HB.out | refine below_set ?_ (Aside0.out (by assumption)) | apply below_alloc | apply pw_below_drewN) | exact HB.out)) hb);(try clear hb);(try clear hb2);(try clear hk);(try clear hi)) | ((with_reducible refine gate_dst (N := 5) rfl ?_);(try (refine gate_guard (by rfl) ?_;dsimp only));refine box_event ?hg (N := 5) ?hd (cs := #[.int .i64 0,.int .i64 0]) (t := 40) ?hr ?_;(case hd => rfl);(case hg => rfl);(case hr => go_simp;try rfl);intro gb600 hg w16 hbox hb;have BK600 := am (hbox);have GW600 := am (ge_new (by repeat (first | (with_reducible first | exact HB.out | refine below_set ?_ (Aside0.out (by assumption)) | apply below_alloc | apply pw_below_drewN) | exact HB.out)) hg);have GE600 := am (ge_new (by repeat (first | (with_reducible first | exact HB.out | refine below_set ?_ (Aside0.out (by assumption)) | apply below_alloc | apply pw_below_drewN) | exact HB.out)) hg);have NB593_600 := am ((by rw [hg];exact Nat.ne_of_lt (blk_lt (g := gb593) (o := .cells #[.slice A0_0 l0_0.length c0_0,.int .i64 a0_1,.slice A0_2 l0_2.length c0_2,.int .i64 a0_3,.int .i64 a0_4] 27 (0,0)) (by (with_reducible repeat (first | refine blk_drewN ?_ _ | refine blk_drew ?_ | refine blk_alloc ?_ _));exact BK593.out)) : gb593 ≠ gb600));have NB600_593 := am ((by rw [hg];exact Nat.ne_of_gt (blk_lt (g := gb593) (o := .cells #[.slice A0_0 l0_0.length c0_0,.int .i64 a0_1,.slice A0_2 l0_2.length c0_2,.int .i64 a0_3,.int .i64 a0_4] 27 (0,0)) (by (with_reducible repeat (first | refine blk_drewN ?_ _ | refine blk_drew ?_ | refine blk_alloc ?_ _));exact BK593.out)) : gb600 ≠ gb593));have NB594_600 := am ((by rw [hg];exact Nat.ne_of_lt (blk_lt (g := gb594) (o := .cells #[.int .i64 a1_0,.int .i64 a1_1] 40 (0,0)) (by (with_reducible repeat (first | refine blk_drewN ?_ _ | refine blk_drew ?_ | refine blk_alloc ?_ _));exact BK594.out)) : gb594 ≠ gb600));have NB600_594 := am ((by rw [hg];exact Nat.ne_of_gt (blk_lt (g := gb594) (o := .cells #[.int .i64 a1_0,.int .i64 a1_1] 40 (0,0)) (by (with_reducible repeat (first | refine blk_drewN ?_ _ | refine blk_drew ?_ | refine blk_alloc ?_ _));exact BK594.out)) : gb600 ≠ gb594));replace BK593 := am (blk_below (g := gb593) (o := .cells #[.slice A0_0 l0_0.length c0_0,.int .i64 a0_1,.slice A0_2 l0_2.length c0_2,.int .i64 a0_3,.int .i64 a0_4] 27 (0,0)) (by (with_reducible repeat (first | refine blk_drewN ?_ _ | refine blk_drew ?_ | refine blk_alloc ?_ _));exact BK593.out) hb);replace BK594 := am (blk_below (g := gb594) (o := .cells #[.int .i64 a1_0,.int .i64 a1_1] 40 (0,0)) (by (with_reducible repeat (first | refine blk_drewN ?_ _ | refine blk_drew ?_ | refine blk_alloc ?_ _));exact BK594.out) hb);replace HB := am (below_step (by repeat (first | (with_reducible first | exact HB.out | refine below_set ?_ (Aside0.out (by assumption)) | apply below_alloc | apply pw_below_drewN) | exact HB.out)) hb);clear hb hbox hg;have hnb17 := NB600_593.out;have hnc17 := NB593_600.out;have hnb18 := NB600_594.out;have hnc18 := NB594_600.out;obtain ⟨hcz19_0,hcz19_1⟩ := cO2 BK600.out;have hfz19_0 := blk_frozen BK600.out 0;have hfz19_1 := blk_frozen BK600.out 1;obtain ⟨hcz20_0,hcz20_1,hcz20_2,hcz20_3,hcz20_4⟩ := cO5 BK593.out;have hfz20_0 := blk_frozen BK593.out 0;have hfz20_1 := blk_frozen BK593.out 1;have hfz20_2 := blk_frozen BK593.out 2;have hfz20_3 := blk_frozen BK593.out 3;have hfz20_4 := blk_frozen BK593.out 4;obtain ⟨hcz21_0,hcz21_1⟩ := cO2 BK594.out;have hfz21_0 := blk_frozen BK594.out 0;have hfz21_1 := blk_frozen BK594.out 1) | ((with_reducible refine gate_callee (f := 25) rfl ?_);refine goesL_ (some 25) rfl rfl Tryz.func25 (by kernel_rfl) rfl #[.agg #[.slice A0_0 l0_0.length c0_0,.int .i64 a0_1,.slice A0_2 l0_2.length c0_2,.int .i64 a0_3,.int .i64 a0_4],.agg #[.int .i64 a1_0,.int .i64 a1_1]] rfl (by (try simp only [List.map_toArray,List.map_cons,List.map_nil]);first | done | rfl | (simp only [List.length_drop,List.length_take];rfl)) ?_;(with_reducible refine (ca_Bounds.calls k _ _ l0_0 a0_1 _ _ l0_2 a0_3 a0_4 a1_0 a1_1 t601 t604 t605 t606 _ ?side1 ?side2 ?side3 ?side4 A6.out).mono ?_);(case side1 => exact kC HR0_0.out (by repeat (first | (with_reducible first | exact HB.out | refine below_set ?_ (Aside0.out (by assumption)) | apply below_alloc | apply pw_below_drewN) | exact HB.out)));(case side2 => exact HC0_0.out);(case side3 => exact kC HR0_2.out (by repeat (first | (with_reducible first | exact HB.out | refine below_set ?_ (Aside0.out (by assumption)) | apply below_alloc | apply pw_below_drewN) | exact HB.out)));(case side4 => exact HC0_2.out);rintro e w22 ⟨v602,rfl,ho0,hb⟩;refine ⟨_,rfl,?_⟩;have HO603 := am (Kd.R_lower (Kd.R_newB (Kd.R_newB ho0 (g := gb594) (o := .cells #[.int .i64 a1_0,.int .i64 a1_1] 40 (0,0)) (by (with_reducible repeat (first | refine blk_drewN ?_ _ | refine blk_drew ?_ | refine blk_alloc ?_ _));refine blk_far ?_ NB594_600.out _;(with_reducible repeat (first | refine blk_drewN ?_ _ | refine blk_drew ?_ | refine blk_alloc ?_ _));refine blk_far ?_ NB594_600.out _;(with_reducible repeat (first | refine blk_drewN ?_ _ | refine blk_drew ?_ | refine blk_alloc ?_ _));exact BK594.out)) (g := gb600) (o := .cells #[.int .i64 t597,.int .i64 t598] 40 (0,0)) (by (with_reducible repeat (first | refine blk_drewN ?_ _ | refine blk_drew ?_ | refine blk_alloc ?_ _));refine blk_put (cs := #[.int .i64 t597,.int .i64 0]) ?_ 1 _ rfl;(with_reducible repeat (first | refine blk_drewN ?_ _ | refine blk_drew ?_ | refine blk_alloc ?_ _));refine blk_put (cs := #[.int .i64 0,.int .i64 0]) ?_ 0 _ rfl;(with_reducible repeat (first | refine blk_drewN ?_ _ | refine blk_drew ?_ | refine blk_alloc ?_ _));exact BK600.out)) (below_size (by repeat (first | (with_reducible first | exact HB.out | refine below_set ?_ (Aside0.out (by assumption)) | apply below_alloc | apply pw_below_drewN) | exact HB.out))));replace BK593 := am (blk_below (g := gb593) (o := .cells #[.slice A0_0 l0_0.length c0_0,.int .i64 a0_1,.slice A0_2 l0_2.length c0_2,.int .i64 a0_3,.int .i64 a0_4] 27 (0,0)) (by (with_reducible repeat (first | refine blk_drewN ?_ _ | refine blk_drew ?_ | refine blk_alloc ?_ _));refine blk_far ?_ NB593_600.out _;(with_reducible repeat (first | refine blk_drewN ?_ _ | refine blk_drew ?_ | refine blk_alloc ?_ _));refine blk_far ?_ NB593_600.out _;(with_reducible repeat (first | refine blk_drewN ?_ _ | refine blk_drew ?_ | refine blk_alloc ?_ _));exact BK593.out) hb);replace BK594 := am (blk_below (g := gb594) (o := .cells #[.int .i64 a1_0,.int .i64 a1_1] 40 (0,0)) (by (with_reducible repeat (first | refine blk_drewN ?_ _ | refine blk_drew ?_ | refine blk_alloc ?_ _));refine blk_far ?_ NB594_600.out _;(with_reducible repeat (first | refine blk_drewN ?_ _ | refine blk_drew ?_ | refine blk_alloc ?_ _));refine blk_far ?_ NB594_600.out _;(with_reducible repeat (first | refine blk_drewN ?_ _ | refine blk_drew ?_ | refine blk_alloc ?_ _));exact BK594.out) hb);replace BK600 := am (blk_below (g := gb600) (o := .cells #[.int .i64 t597,.int .i64 t598] 40 (0,0)) (by (with_reducible repeat (first | refine blk_drewN ?_ _ | refine blk_drew ?_ | refine blk_alloc ?_ _));refine blk_put (cs := #[.int .i64 t597,.int .i64 0]) ?_ 1 _ rfl;(with_reducible repeat (first | refine blk_drewN ?_ _ | refine blk_drew ?_ | refine blk_alloc ?_ _));refine blk_put (cs := #[.int .i64 0,.int .i64 0]) ?_ 0 _ rfl;(with_reducible repeat (first | refine blk_drewN ?_ _ | refine blk_drew ?_ | refine blk_alloc ?_ _));exact BK600.out) hb);replace HB := am (below_step (by repeat (first | (with_reducible first | exact HB.out | refine below_set ?_ (Aside0.out (by assumption)) | apply below_alloc | apply pw_below_drewN) | exact HB.out)) hb);(try clear hb);(try clear hb2);(try clear hk);(try clear hi);(try clear ho0)) | ((with_reducible refine gate_dst (N := 8) rfl ?_);(try (refine gate_guard (by rfl) ?_;dsimp only));refine box_event ?hg (N := 8) ?hd (cs := #[.int .i64 0,.int .i64 0]) (t := 40) ?hr ?_;(case hd => rfl);(case hg => rfl);(case hr => go_simp;try rfl);intro gb607 hg w23 hbox hb;have BK607 := am (hbox);have GW607 := am (ge_new (by repeat (first | (with_reducible first | exact HB.out | refine below_set ?_ (Aside0.out (by assumption)) | apply below_alloc | apply pw_below_drewN) | exact HB.out)) hg);have GE607 := am (ge_new (by repeat (first | (with_reducible first | exact HB.out | refine below_set ?_ (Aside0.out (by assumption)) | apply below_alloc | apply pw_below_drewN) | exact HB.out)) hg);have NB593_607 := am ((by rw [hg];exact Nat.ne_of_lt (blk_lt (g := gb593) (o := .cells #[.slice A0_0 l0_0.length c0_0,.int .i64 a0_1,.slice A0_2 l0_2.length c0_2,.int .i64 a0_3,.int .i64 a0_4] 27 (0,0)) (by (with_reducible repeat (first | refine blk_drewN ?_ _ | refine blk_drew ?_ | refine blk_alloc ?_ _));exact BK593.out)) : gb593 ≠ gb607));have NB607_593 := am ((by rw [hg];exact Nat.ne_of_gt (blk_lt (g := gb593) (o := .cells #[.slice A0_0 l0_0.length c0_0,.int .i64 a0_1,.slice A0_2 l0_2.length c0_2,.int .i64 a0_3,.int .i64 a0_4] 27 (0,0)) (by (with_reducible repeat (first | refine blk_drewN ?_ _ | refine blk_drew ?_ | refine blk_alloc ?_ _));exact BK593.out)) : gb607 ≠ gb593));have NB594_607 := am ((by rw [hg];exact Nat.ne_of_lt (blk_lt (g := gb594) (o := .cells #[.int .i64 a1_0,.int .i64 a1_1] 40 (0,0)) (by (with_reducible repeat (first | refine blk_drewN ?_ _ | refine blk_drew ?_ | refine blk_alloc ?_ _));exact BK594.out)) : gb594 ≠ gb607));have NB607_594 := am ((by rw [hg];exact Nat.ne_of_gt (blk_lt (g := gb594) (o := .cells #[.int .i64 a1_0,.int .i64 a1_1] 40 (0,0)) (by (with_reducible repeat (first | refine blk_drewN ?_ _ | refine blk_drew ?_ | refine blk_alloc ?_ _));exact BK594.out)) : gb607 ≠ gb594));have NB600_607 := am ((by rw [hg];exact Nat.ne_of_lt (blk_lt (g := gb600) (o := .cells #[.int .i64 t597,.int .i64 t598] 40 (0,0)) (by (with_reducible repeat (first | refine blk_drewN ?_ _ | refine blk_drew ?_ | refine blk_alloc ?_ _));exact BK600.out)) : gb600 ≠ gb607));have NB607_600 := am ((by rw [hg];exact Nat.ne_of_gt (blk_lt (g := gb600) (o := .cells #[.int .i64 t597,.int .i64 t598] 40 (0,0)) (by (with_reducible repeat (first | refine blk_drewN ?_ _ | refine blk_drew ?_ | refine blk_alloc ?_ _));exact BK600.out)) : gb607 ≠ gb600));replace HO603 := am (Kd.R_below (Kd.R_elderB (by (with_reducible repeat (first | apply Kd.R_alloc | apply Kd.R_drewN | apply Kd.R_drew));exact HO603.out) gb607 (Nat.le_of_eq hg.symm)) hb);replace BK593 := am (blk_below (g := gb593) (o := .cells #[.slice A0_0 l0_0.length c0_0,.int .i64 a0_1,.slice A0_2 l0_2.length c0_2,.int .i64 a0_3,.int .i64 a0_4] 27 (0,0)) (by (with_reducible repeat (first | refine blk_drewN ?_ _ | refine blk_drew ?_ | refine blk_alloc ?_ _));exact BK593.out) hb);replace BK594 := am (blk_below (g := gb594) (o := .cells #[.int .i64 a1_0,.int .i64 a1_1] 40 (0,0)) (by (with_reducible repeat (first | refine blk_drewN ?_ _ | refine blk_drew ?_ | refine blk_alloc ?_ _));exact BK594.out) hb);replace BK600 := am (blk_below (g := gb600) (o := .cells #[.int .i64 t597,.int .i64 t598] 40 (0,0)) (by (with_reducible repeat (first | refine blk_drewN ?_ _ | refine blk_drew ?_ | refine blk_alloc ?_ _));exact BK600.out) hb);replace HB := am (below_step (by repeat (first | (with_reducible first | exact HB.out | refine below_set ?_ (Aside0.out (by assumption)) | apply below_alloc | apply pw_below_drewN) | exact HB.out)) hb);clear hb hbox hg;have hnb24 := NB607_593.out;have hnc24 := NB593_607.out;have hnb25 := NB607_594.out;have hnc25 := NB594_607.out;have hnb26 := NB607_600.out;have hnc26 := NB600_607.out;obtain ⟨hcz27_0,hcz27_1⟩ := cO2 BK607.out;have hfz27_0 := blk_frozen BK607.out 0;have hfz27_1 := blk_frozen BK607.out 1))
 (try simp only [Act.put,List.setIfInBounds_toArray,List.set_cons_zero,List.set_cons_succ])
 go_cut [36] (fun v36 wc => ∃ (kq : Nat) (x36_6 : Bool),v36 = .bool x36_6 ∧ Aside0 (l4_CastleBounds.j0 kq t599 t601 t606 x36_6 l0_0 a0_1 l0_2 a0_3 a0_4 a1_0 a1_1 t597 t598 t604 t605 = some r) ∧ Aside0 (kq ≤ k) ∧ Aside0 (Kd.R k40 40 wc w.heap.size (fun k_ => k_ ≠ gb594 ∧ k_ ≠ gb600 ∧ k_ ≠ gb607) v602 t601) ∧ Aside0 (wc.heap[gb593]? = some (.cells #[(.slice A0_0 l0_0.length c0_0),.int .i64 a0_1,(.slice A0_2 l0_2.length c0_2),.int .i64 a0_3,.int .i64 a0_4] 27 (0,0))) ∧ Aside0 (wc.heap[gb594]? = some (.cells #[.int .i64 a1_0,.int .i64 a1_1] 40 (0,0))) ∧ Aside0 (wc.heap[gb600]? = some (.cells #[.int .i64 t597,.int .i64 t598] 40 (0,0))) ∧ Aside0 (wc.heap[gb607]? = some (.cells #[.int .i64 t604,.int .i64 t605] 40 (0,0))) ∧ Aside0 (Below w.heap.size w wc))
 case first =>
  have H := HC7.out
  clear HC7
  replace H := obm H
  obtain ⟨t608,A280,H⟩ := H
  replace H : (if t608 = true then ((q4_Flow.f a1_0 a1_1).bind fun t609 => (l4_CastleBounds.j0 k t599 t601 t606 (!t609) l0_0 a0_1 l0_2 a0_3 a0_4 a1_0 a1_1 t597 t598 t604 t605)) else (l4_CastleBounds.j0 k t599 t601 t606 true l0_0 a0_1 l0_2 a0_3 a0_4 a1_0 a1_1 t597 t598 t604 t605)) = some r := H
  have A28 := am A280
  clear A280
  by_cases c29 : t608 = true
  case neg =>
   replace c29 := Bool.eq_false_iff.mpr c29
   subst c29
   replace H : (l4_CastleBounds.j0 k t599 t601 t606 true l0_0 a0_1 l0_2 a0_3 a0_4 a1_0 a1_1 t597 t598 t604 t605) = some r := by rw [if_neg (show ¬ (false = true) by decide)] at H;exact H
   replace H' := am H
   have hnb40 := NB593_594.out
   have hnc40 := NB594_593.out
   have hnb41 := NB593_600.out
   have hnc41 := NB600_593.out
   have hnb42 := NB593_607.out
   have hnc42 := NB607_593.out
   obtain ⟨hcz43_0,hcz43_1,hcz43_2,hcz43_3,hcz43_4⟩ := cO5 BK593.out
   have hfz43_0 := blk_frozen BK593.out 0
   have hfz43_1 := blk_frozen BK593.out 1
   have hfz43_2 := blk_frozen BK593.out 2
   have hfz43_3 := blk_frozen BK593.out 3
   have hfz43_4 := blk_frozen BK593.out 4
   go_wp2_with (first | ((with_reducible refine gate_callee (f := 17) rfl ?_);refine goesL_ (some 30) rfl rfl Tryz.func17 (by kernel_rfl) rfl #[.agg #[.slice A0_0 l0_0.length c0_0,.int .i64 a0_1,.slice A0_2 l0_2.length c0_2,.int .i64 a0_3,.int .i64 a0_4]] rfl (by (try simp only [List.map_toArray,List.map_cons,List.map_nil]);first | done | rfl | (simp only [List.length_drop,List.length_take];rfl)) ?_;(with_reducible refine (q4_Basin.calls k _ _ l0_0 a0_1 _ _ l0_2 a0_3 a0_4 false _ ?side1 ?side2 ?side3 ?side4 A28.out).mono ?_);(case side1 => exact kC HR0_0.out (by repeat (first | (with_reducible first | exact HB.out | refine below_set ?_ (Aside0.out (by assumption)) | apply below_alloc | apply pw_below_drewN) | exact HB.out)));(case side2 => exact HC0_0.out);(case side3 => exact kC HR0_2.out (by repeat (first | (with_reducible first | exact HB.out | refine below_set ?_ (Aside0.out (by assumption)) | apply below_alloc | apply pw_below_drewN) | exact HB.out)));(case side4 => exact HC0_2.out);rintro e w44 ⟨rfl,hb⟩;refine ⟨_,rfl,?_⟩;replace HO603 := am (Kd.R_below (by (with_reducible repeat (first | apply Kd.R_alloc | apply Kd.R_drewN | apply Kd.R_drew));exact (Kd.R_mono (Kd.R_far (p := ⟨gb607,1,none⟩) (Kd.R_far (p := ⟨gb607,0,none⟩) (Kd.R_mono HO603.out (fun k_ hk => (⟨hk,hk.2⟩ : _ ∧ k_ ≠ gb607))) (fun _ hk => hk.2) (.int .i64 t604)) (fun _ hk => hk.2) (.int .i64 t605)) (fun _ h_ => h_.1))) hb);replace BK593 := am (blk_below (g := gb593) (o := .cells #[.slice A0_0 l0_0.length c0_0,.int .i64 a0_1,.slice A0_2 l0_2.length c0_2,.int .i64 a0_3,.int .i64 a0_4] 27 (0,0)) (by (with_reducible repeat (first | refine blk_drewN ?_ _ | refine blk_drew ?_ | refine blk_alloc ?_ _));refine blk_far ?_ NB593_607.out _;(with_reducible repeat (first | refine blk_drewN ?_ _ | refine blk_drew ?_ | refine blk_alloc ?_ _));refine blk_far ?_ NB593_607.out _;(with_reducible repeat (first | refine blk_drewN ?_ _ | refine blk_drew ?_ | refine blk_alloc ?_ _));exact BK593.out) hb);replace BK594 := am (blk_below (g := gb594) (o := .cells #[.int .i64 a1_0,.int .i64 a1_1] 40 (0,0)) (by (with_reducible repeat (first | refine blk_drewN ?_ _ | refine blk_drew ?_ | refine blk_alloc ?_ _));refine blk_far ?_ NB594_607.out _;(with_reducible repeat (first | refine blk_drewN ?_ _ | refine blk_drew ?_ | refine blk_alloc ?_ _));refine blk_far ?_ NB594_607.out _;(with_reducible repeat (first | refine blk_drewN ?_ _ | refine blk_drew ?_ | refine blk_alloc ?_ _));exact BK594.out) hb);replace BK600 := am (blk_below (g := gb600) (o := .cells #[.int .i64 t597,.int .i64 t598] 40 (0,0)) (by (with_reducible repeat (first | refine blk_drewN ?_ _ | refine blk_drew ?_ | refine blk_alloc ?_ _));refine blk_far ?_ NB600_607.out _;(with_reducible repeat (first | refine blk_drewN ?_ _ | refine blk_drew ?_ | refine blk_alloc ?_ _));refine blk_far ?_ NB600_607.out _;(with_reducible repeat (first | refine blk_drewN ?_ _ | refine blk_drew ?_ | refine blk_alloc ?_ _));exact BK600.out) hb);replace BK607 := am (blk_below (g := gb607) (o := .cells #[.int .i64 t604,.int .i64 t605] 40 (0,0)) (by (with_reducible repeat (first | refine blk_drewN ?_ _ | refine blk_drew ?_ | refine blk_alloc ?_ _));refine blk_put (cs := #[.int .i64 t604,.int .i64 0]) ?_ 1 _ rfl;(with_reducible repeat (first | refine blk_drewN ?_ _ | refine blk_drew ?_ | refine blk_alloc ?_ _));refine blk_put (cs := #[.int .i64 0,.int .i64 0]) ?_ 0 _ rfl;(with_reducible repeat (first | refine blk_drewN ?_ _ | refine blk_drew ?_ | refine blk_alloc ?_ _));exact BK607.out) hb);replace HB := am (below_step (by repeat (first | (with_reducible first | exact HB.out | refine below_set ?_ (Aside0.out (by assumption)) | apply below_alloc | apply pw_below_drewN) | exact HB.out)) hb);(try clear hb);(try clear hb2);(try clear hk);(try clear hi)))
   go_meet
   case rel => exact ⟨_,(true),(by first | rfl | (simp;done) | (simp [*];done)),H',⟨by first | omega | exact Nat.le_refl _⟩,⟨by (with_reducible repeat (first | apply Kd.R_alloc | apply Kd.R_drewN | apply Kd.R_drew));exact Kd.R_mono HO603.out (fun _ hk => ⟨hk.1.1.2,⟨hk.1.2,hk.2⟩⟩)⟩,⟨by (with_reducible repeat (first | refine blk_drewN ?_ _ | refine blk_drew ?_ | refine blk_alloc ?_ _));exact BK593.out⟩,⟨by (with_reducible repeat (first | refine blk_drewN ?_ _ | refine blk_drew ?_ | refine blk_alloc ?_ _));exact BK594.out⟩,⟨by (with_reducible repeat (first | refine blk_drewN ?_ _ | refine blk_drew ?_ | refine blk_alloc ?_ _));exact BK600.out⟩,⟨by (with_reducible repeat (first | refine blk_drewN ?_ _ | refine blk_drew ?_ | refine blk_alloc ?_ _));exact BK607.out⟩,⟨by repeat (first | (with_reducible first | exact HB.out | refine below_set ?_ (Aside0.out (by assumption)) | apply below_alloc | apply pw_below_drewN) | exact HB.out)⟩⟩
  subst c29
  replace H : ((q4_Flow.f a1_0 a1_1).bind fun t609 => (l4_CastleBounds.j0 k t599 t601 t606 (!t609) l0_0 a0_1 l0_2 a0_3 a0_4 a1_0 a1_1 t597 t598 t604 t605)) = some r := by rw [if_pos rfl] at H;exact H
  replace H := obm H
  obtain ⟨t609,A300,H⟩ := H
  replace H : (l4_CastleBounds.j0 k t599 t601 t606 (!t609) l0_0 a0_1 l0_2 a0_3 a0_4 a1_0 a1_1 t597 t598 t604 t605) = some r := H
  have A30 := am A300
  clear A300
  replace H' := am H
  have hnb31 := NB593_594.out
  have hnc31 := NB594_593.out
  have hnb32 := NB593_600.out
  have hnc32 := NB600_593.out
  have hnb33 := NB593_607.out
  have hnc33 := NB607_593.out
  obtain ⟨hcz34_0,hcz34_1,hcz34_2,hcz34_3,hcz34_4⟩ := cO5 BK593.out
  have hfz34_0 := blk_frozen BK593.out 0
  have hfz34_1 := blk_frozen BK593.out 1
  have hfz34_2 := blk_frozen BK593.out 2
  have hfz34_3 := blk_frozen BK593.out 3
  have hfz34_4 := blk_frozen BK593.out 4
  go_wp2_with (first | ((with_reducible refine gate_callee (f := 17) rfl ?_);refine goesL_ (some 30) rfl rfl Tryz.func17 (by kernel_rfl) rfl #[.agg #[.slice A0_0 l0_0.length c0_0,.int .i64 a0_1,.slice A0_2 l0_2.length c0_2,.int .i64 a0_3,.int .i64 a0_4]] rfl (by (try simp only [List.map_toArray,List.map_cons,List.map_nil]);first | done | rfl | (simp only [List.length_drop,List.length_take];rfl)) ?_;(with_reducible refine (q4_Basin.calls k _ _ l0_0 a0_1 _ _ l0_2 a0_3 a0_4 true _ ?side1 ?side2 ?side3 ?side4 A28.out).mono ?_);(case side1 => exact kC HR0_0.out (by repeat (first | (with_reducible first | exact HB.out | refine below_set ?_ (Aside0.out (by assumption)) | apply below_alloc | apply pw_below_drewN) | exact HB.out)));(case side2 => exact HC0_0.out);(case side3 => exact kC HR0_2.out (by repeat (first | (with_reducible first | exact HB.out | refine below_set ?_ (Aside0.out (by assumption)) | apply below_alloc | apply pw_below_drewN) | exact HB.out)));(case side4 => exact HC0_2.out);rintro e w35 ⟨rfl,hb⟩;refine ⟨_,rfl,?_⟩;replace HO603 := am (Kd.R_below (by (with_reducible repeat (first | apply Kd.R_alloc | apply Kd.R_drewN | apply Kd.R_drew));exact (Kd.R_mono (Kd.R_far (p := ⟨gb607,1,none⟩) (Kd.R_far (p := ⟨gb607,0,none⟩) (Kd.R_mono HO603.out (fun k_ hk => (⟨hk,hk.2⟩ : _ ∧ k_ ≠ gb607))) (fun _ hk => hk.2) (.int .i64 t604)) (fun _ hk => hk.2) (.int .i64 t605)) (fun _ h_ => h_.1))) hb);replace BK593 := am (blk_below (g := gb593) (o := .cells #[.slice A0_0 l0_0.length c0_0,.int .i64 a0_1,.slice A0_2 l0_2.length c0_2,.int .i64 a0_3,.int .i64 a0_4] 27 (0,0)) (by (with_reducible repeat (first | refine blk_drewN ?_ _ | refine blk_drew ?_ | refine blk_alloc ?_ _));refine blk_far ?_ NB593_607.out _;(with_reducible repeat (first | refine blk_drewN ?_ _ | refine blk_drew ?_ | refine blk_alloc ?_ _));refine blk_far ?_ NB593_607.out _;(with_reducible repeat (first | refine blk_drewN ?_ _ | refine blk_drew ?_ | refine blk_alloc ?_ _));exact BK593.out) hb);replace BK594 := am (blk_below (g := gb594) (o := .cells #[.int .i64 a1_0,.int .i64 a1_1] 40 (0,0)) (by (with_reducible repeat (first | refine blk_drewN ?_ _ | refine blk_drew ?_ | refine blk_alloc ?_ _));refine blk_far ?_ NB594_607.out _;(with_reducible repeat (first | refine blk_drewN ?_ _ | refine blk_drew ?_ | refine blk_alloc ?_ _));refine blk_far ?_ NB594_607.out _;(with_reducible repeat (first | refine blk_drewN ?_ _ | refine blk_drew ?_ | refine blk_alloc ?_ _));exact BK594.out) hb);replace BK600 := am (blk_below (g := gb600) (o := .cells #[.int .i64 t597,.int .i64 t598] 40 (0,0)) (by (with_reducible repeat (first | refine blk_drewN ?_ _ | refine blk_drew ?_ | refine blk_alloc ?_ _));refine blk_far ?_ NB600_607.out _;(with_reducible repeat (first | refine blk_drewN ?_ _ | refine blk_drew ?_ | refine blk_alloc ?_ _));refine blk_far ?_ NB600_607.out _;(with_reducible repeat (first | refine blk_drewN ?_ _ | refine blk_drew ?_ | refine blk_alloc ?_ _));exact BK600.out) hb);replace BK607 := am (blk_below (g := gb607) (o := .cells #[.int .i64 t604,.int .i64 t605] 40 (0,0)) (by (with_reducible repeat (first | refine blk_drewN ?_ _ | refine blk_drew ?_ | refine blk_alloc ?_ _));refine blk_put (cs := #[.int .i64 t604,.int .i64 0]) ?_ 1 _ rfl;(with_reducible repeat (first | refine blk_drewN ?_ _ | refine blk_drew ?_ | refine blk_alloc ?_ _));refine blk_put (cs := #[.int .i64 0,.int .i64 0]) ?_ 0 _ rfl;(with_reducible repeat (first | refine blk_drewN ?_ _ | refine blk_drew ?_ | refine blk_alloc ?_ _));exact BK607.out) hb);replace HB := am (below_step (by repeat (first | (with_reducible first | exact HB.out | refine below_set ?_ (Aside0.out (by assumption)) | apply below_alloc | apply pw_below_drewN) | exact HB.out)) hb);(try clear hb);(try clear hb2);(try clear hk);(try clear hi);have hnb36 := NB594_600.out;have hnc36 := NB600_594.out;have hnb37 := NB594_607.out;have hnc37 := NB607_594.out;obtain ⟨hcz38_0,hcz38_1⟩ := cO2 BK594.out;have hfz38_0 := blk_frozen BK594.out 0;have hfz38_1 := blk_frozen BK594.out 1) | (go_at_call 26;(with_reducible refine (q4_Flow.calls a1_0 a1_1 t609 _ A30.out).mono ?_);rintro e w39 ⟨rfl,hb⟩;replace HO603 := am (Kd.R_below (by (with_reducible repeat (first | apply Kd.R_alloc | apply Kd.R_drewN | apply Kd.R_drew));exact HO603.out) hb);replace BK593 := am (blk_below (g := gb593) (o := .cells #[.slice A0_0 l0_0.length c0_0,.int .i64 a0_1,.slice A0_2 l0_2.length c0_2,.int .i64 a0_3,.int .i64 a0_4] 27 (0,0)) (by (with_reducible repeat (first | refine blk_drewN ?_ _ | refine blk_drew ?_ | refine blk_alloc ?_ _));exact BK593.out) hb);replace BK594 := am (blk_below (g := gb594) (o := .cells #[.int .i64 a1_0,.int .i64 a1_1] 40 (0,0)) (by (with_reducible repeat (first | refine blk_drewN ?_ _ | refine blk_drew ?_ | refine blk_alloc ?_ _));exact BK594.out) hb);replace BK600 := am (blk_below (g := gb600) (o := .cells #[.int .i64 t597,.int .i64 t598] 40 (0,0)) (by (with_reducible repeat (first | refine blk_drewN ?_ _ | refine blk_drew ?_ | refine blk_alloc ?_ _));exact BK600.out) hb);replace BK607 := am (blk_below (g := gb607) (o := .cells #[.int .i64 t604,.int .i64 t605] 40 (0,0)) (by (with_reducible repeat (first | refine blk_drewN ?_ _ | refine blk_drew ?_ | refine blk_alloc ?_ _));exact BK607.out) hb);replace HB := am (below_step (by repeat (first | (with_reducible first | exact HB.out | refine below_set ?_ (Aside0.out (by assumption)) | apply below_alloc | apply pw_below_drewN) | exact HB.out)) hb);(try clear hb);(try clear hb2);(try clear hk);(try clear hi)))
  go_meet
  case rel => exact ⟨_,(!t609),(by first | rfl | (simp;done) | (simp [*];done)),H',⟨by first | omega | exact Nat.le_refl _⟩,⟨by (with_reducible repeat (first | apply Kd.R_alloc | apply Kd.R_drewN | apply Kd.R_drew));exact Kd.R_mono HO603.out (fun _ hk => ⟨hk.1.1.2,⟨hk.1.2,hk.2⟩⟩)⟩,⟨by (with_reducible repeat (first | refine blk_drewN ?_ _ | refine blk_drew ?_ | refine blk_alloc ?_ _));exact BK593.out⟩,⟨by (with_reducible repeat (first | refine blk_drewN ?_ _ | refine blk_drew ?_ | refine blk_alloc ?_ _));exact BK594.out⟩,⟨by (with_reducible repeat (first | refine blk_drewN ?_ _ | refine blk_drew ?_ | refine blk_alloc ?_ _));exact BK600.out⟩,⟨by (with_reducible repeat (first | refine blk_drewN ?_ _ | refine blk_drew ?_ | refine blk_alloc ?_ _));exact BK607.out⟩,⟨by repeat (first | (with_reducible first | exact HB.out | refine below_set ?_ (Aside0.out (by assumption)) | apply below_alloc | apply pw_below_drewN) | exact HB.out)⟩⟩
 case rest =>
  clear HC7
  try clear c1
  try clear c2
  try clear p2
  try clear c3
  try clear c4
  try clear c5
  try clear c10
  try clear c14
  try clear c17
  try clear c18
  try clear c22
  try clear c24
  try clear c25
  try clear c26
  try clear c29
  try clear c31
  try clear c32
  try clear c33
  try clear c36
  try clear c37
  try clear c40
  try clear c41
  try clear c42
  try clear hcz11_0
  try clear hcz11_1
  try clear hcz11_2
  try clear hcz11_3
  try clear hcz11_4
  try clear hcz13_0
  try clear hcz13_1
  try clear hcz13_2
  try clear hcz13_3
  try clear hcz13_4
  try clear hcz14_0
  try clear hcz14_1
  try clear hcz19_0
  try clear hcz19_1
  try clear hcz20_0
  try clear hcz20_1
  try clear hcz20_2
  try clear hcz20_3
  try clear hcz20_4
  try clear hcz21_0
  try clear hcz21_1
  try clear hcz27_0
  try clear hcz27_1
  try clear hcz34_0
  try clear hcz34_1
  try clear hcz34_2
  try clear hcz34_3
  try clear hcz34_4
  try clear hcz38_0
  try clear hcz38_1
  try clear hcz43_0
  try clear hcz43_1
  try clear hcz43_2
  try clear hcz43_3
  try clear hcz43_4
  try clear hfz11_0
  try clear hfz11_1
  try clear hfz11_2
  try clear hfz11_3
  try clear hfz11_4
  try clear hfz13_0
  try clear hfz13_1
  try clear hfz13_2
  try clear hfz13_3
  try clear hfz13_4
  try clear hfz14_0
  try clear hfz14_1
  try clear hfz19_0
  try clear hfz19_1
  try clear hfz20_0
  try clear hfz20_1
  try clear hfz20_2
  try clear hfz20_3
  try clear hfz20_4
  try clear hfz21_0
  try clear hfz21_1
  try clear hfz27_0
  try clear hfz27_1
  try clear hfz34_0
  try clear hfz34_1
  try clear hfz34_2
  try clear hfz34_3
  try clear hfz34_4
  try clear hfz38_0
  try clear hfz38_1
  try clear hfz43_0
  try clear hfz43_1
  try clear hfz43_2
  try clear hfz43_3
  try clear hfz43_4
  obtain ⟨kq,x36_6,rfl,HA,HJ6,HO_7,BK593,BK594,BK600,BK607,HB⟩ := hcut
  cases kq with
  | zero => exact absurd HA.out (by simp [l4_CastleBounds.j0])
  | succ kj6 =>
   have H := HA.out
   clear HA
   simp only [l4_CastleBounds.j0] at H
   by_cases c45 : x36_6 = true
   · subst c45
     replace H : (if t599 = 2 then (if (t597 == 0 && (t598 == 0)) = true then (if t606 = 2 then (if (t601.length : Int) = 0 then (if (t604 == 0 && (t605 == 0)) = true then ((l4_known.f).bind fun t610 => (some t610)) else (none)) else (none)) else (none)) else (none)) else (none)) = some r := by rw [if_pos rfl] at H;exact H
     by_cases c46 : t599 = 2
     case neg =>
      rw [if_neg c46] at H
      exact absurd H (by simp)
     rw [if_pos c46] at H
     have c46b0 : (t599 == 2) = true := beq_iff_eq.mpr c46
     have c46b1 : (t599 != 2) = false := bne_eq_false_iff_eq.mpr c46
     clear c46
     by_cases c47 : (t597 == 0 && (t598 == 0)) = true
     case neg =>
      rw [if_neg c47] at H
      exact absurd H (by simp)
     rw [if_pos c47] at H
     have c47b0 : (t597 == 0 && (t598 == 0)) = true := c47
     (try (have c47b1 : decide (t597 = 0 && (t598 == 0)) = true := by simpa using c47))
     (try (have c47b2 : (t597 == 0 && (t598 == 0)) = true := by simpa using c47))
     clear c47
     by_cases c48 : t606 = 2
     case neg =>
      rw [if_neg c48] at H
      exact absurd H (by simp)
     rw [if_pos c48] at H
     have c48b0 : (t606 == 2) = true := beq_iff_eq.mpr c48
     have c48b1 : (t606 != 2) = false := bne_eq_false_iff_eq.mpr c48
     clear c48
     by_cases c49 : (t601.length : Int) = 0
     case neg =>
      rw [if_neg c49] at H
      exact absurd H (by simp)
     rw [if_pos c49] at H
     have c49b0 : ((t601.length : Int) == 0) = true := beq_iff_eq.mpr c49
     have c49b1 : ((t601.length : Int) != 0) = false := bne_eq_false_iff_eq.mpr c49
     clear c49
     by_cases c50 : (t604 == 0 && (t605 == 0)) = true
     case neg =>
      rw [if_neg c50] at H
      exact absurd H (by simp)
     rw [if_pos c50] at H
     have c50b0 : (t604 == 0 && (t605 == 0)) = true := c50
     (try (have c50b1 : decide (t604 = 0 && (t605 == 0)) = true := by simpa using c50))
     (try (have c50b2 : (t604 == 0 && (t605 == 0)) = true := by simpa using c50))
     clear c50
     replace H := obm H
     obtain ⟨t610,A510,H⟩ := H
     replace H : (some t610) = some r := H
     have A51 := am A510
     clear A510
     obtain rfl := Option.some.inj H
     have hnb52 := NB600_593.out
     have hnc52 := NB593_600.out
     have hnb53 := NB600_594.out
     have hnc53 := NB594_600.out
     have hnb54 := NB600_607.out
     have hnc54 := NB607_600.out
     obtain ⟨hcz55_0,hcz55_1⟩ := cO2 BK600.out
     have hfz55_0 := blk_frozen BK600.out 0
     have hfz55_1 := blk_frozen BK600.out 1
     obtain ⟨Ao56,co56,eo56⟩ := Kd.R_slice HO_7.out
     subst eo56
     have hnb57 := NB607_593.out
     have hnc57 := NB593_607.out
     have hnb58 := NB607_594.out
     have hnc58 := NB594_607.out
     obtain ⟨hcz59_0,hcz59_1⟩ := cO2 BK607.out
     have hfz59_0 := blk_frozen BK607.out 0
     have hfz59_1 := blk_frozen BK607.out 1
     go_wp2_with (first | (go_at_call 15;(with_reducible refine (l4_known.calls  t610 _ A51.out).mono ?_);rintro e w60 ⟨rfl,hb⟩;replace HO_7 := am (Kd.R_below (by (with_reducible repeat (first | apply Kd.R_alloc | apply Kd.R_drewN | apply Kd.R_drew));exact HO_7.out) hb);replace BK593 := am (blk_below (g := gb593) (o := .cells #[.slice A0_0 l0_0.length c0_0,.int .i64 a0_1,.slice A0_2 l0_2.length c0_2,.int .i64 a0_3,.int .i64 a0_4] 27 (0,0)) (by (with_reducible repeat (first | refine blk_drewN ?_ _ | refine blk_drew ?_ | refine blk_alloc ?_ _));exact BK593.out) hb);replace BK594 := am (blk_below (g := gb594) (o := .cells #[.int .i64 a1_0,.int .i64 a1_1] 40 (0,0)) (by (with_reducible repeat (first | refine blk_drewN ?_ _ | refine blk_drew ?_ | refine blk_alloc ?_ _));exact BK594.out) hb);replace BK600 := am (blk_below (g := gb600) (o := .cells #[.int .i64 t597,.int .i64 t598] 40 (0,0)) (by (with_reducible repeat (first | refine blk_drewN ?_ _ | refine blk_drew ?_ | refine blk_alloc ?_ _));exact BK600.out) hb);replace BK607 := am (blk_below (g := gb607) (o := .cells #[.int .i64 t604,.int .i64 t605] 40 (0,0)) (by (with_reducible repeat (first | refine blk_drewN ?_ _ | refine blk_drew ?_ | refine blk_alloc ?_ _));exact BK607.out) hb);replace HB := am (below_step (by repeat (first | (with_reducible first | exact HB.out | refine below_set ?_ (Aside0.out (by assumption)) | apply below_alloc | apply pw_below_drewN) | exact HB.out)) hb);(try clear hb);(try clear hb2);(try clear hk);(try clear hi)))
     go_ret
     exact ⟨by first | rfl | (simp [*] <;> rfl),by repeat (first | (with_reducible first | exact HB.out | refine below_set ?_ (Aside0.out (by assumption)) | apply below_alloc | apply pw_below_drewN) | exact HB.out)⟩
   · replace c45 := Bool.eq_false_iff.mpr c45
     subst c45
     replace H : ((q4_Bounds.f kj6 l0_0 a0_1 l0_2 a0_3 a0_4 a1_0 a1_1).bind fun bt611 => (if t599 = 0 then ((q4_Stands.f kj6 l0_0 a0_1 l0_2 a0_3 a0_4 a1_0).bind fun t617 => ((q4_Stands.f kj6 l0_0 a0_1 l0_2 a0_3 a0_4 a1_1).bind fun t618 => (if (t597 == t617 && (t598 == t618)) = true then (if t606 = 0 then ((q4_SameSpans.f kj6 t601 bt611.1).bind fun t619 => (if t619 = true then (if (t604 == bt611.2.1 && (t605 == bt611.2.2)) = true then ((l4_known.f).bind fun t620 => (some t620)) else (none)) else (none))) else (none)) else (none)))) else (none))) = some r := by rw [if_neg (show ¬ (false = true) by decide)] at H;exact H
     replace H := obm H
     obtain ⟨⟨t611,t614,t615⟩,A610,H⟩ := H
     replace H : (if t599 = 0 then ((q4_Stands.f kj6 l0_0 a0_1 l0_2 a0_3 a0_4 a1_0).bind fun t617 => ((q4_Stands.f kj6 l0_0 a0_1 l0_2 a0_3 a0_4 a1_1).bind fun t618 => (if (t597 == t617 && (t598 == t618)) = true then (if t606 = 0 then ((q4_SameSpans.f kj6 t601 t611).bind fun t619 => (if t619 = true then (if (t604 == t614 && (t605 == t615)) = true then ((l4_known.f).bind fun t620 => (some t620)) else (none)) else (none))) else (none)) else (none)))) else (none)) = some r := H
     have A61 := am A610
     clear A610
     by_cases c62 : t599 = 0
     case neg =>
      rw [if_neg c62] at H
      have c62b0 : (t599 == 0) = false := beq_eq_false_iff_ne.mpr c62
      have c62b1 : (t599 != 0) = true := bne_iff_ne.mpr c62
      exact absurd H (by simp)
     rw [if_pos c62] at H
     have c62b0 : (t599 == 0) = true := beq_iff_eq.mpr c62
     have c62b1 : (t599 != 0) = false := bne_eq_false_iff_eq.mpr c62
     clear c62
     replace H := obm H
     obtain ⟨t617,A630,H⟩ := H
     replace H : ((q4_Stands.f kj6 l0_0 a0_1 l0_2 a0_3 a0_4 a1_1).bind fun t618 => (if (t597 == t617 && (t598 == t618)) = true then (if t606 = 0 then ((q4_SameSpans.f kj6 t601 t611).bind fun t619 => (if t619 = true then (if (t604 == t614 && (t605 == t615)) = true then ((l4_known.f).bind fun t620 => (some t620)) else (none)) else (none))) else (none)) else (none))) = some r := H
     have A63 := am A630
     clear A630
     replace H := obm H
     obtain ⟨t618,A640,H⟩ := H
     replace H : (if (t597 == t617 && (t598 == t618)) = true then (if t606 = 0 then ((q4_SameSpans.f kj6 t601 t611).bind fun t619 => (if t619 = true then (if (t604 == t614 && (t605 == t615)) = true then ((l4_known.f).bind fun t620 => (some t620)) else (none)) else (none))) else (none)) else (none)) = some r := H
     have A64 := am A640
     clear A640
     by_cases c65 : (t597 == t617 && (t598 == t618)) = true
     case neg =>
      rw [if_neg c65] at H
      have c65b0 : (t597 == t617 && (t598 == t618)) = false := by simpa using c65
      (try (have c65b1 : decide (t597 = t617 && (t598 == t618)) = false := by simpa using c65))
      (try (have c65b2 : (t597 == t617 && (t598 == t618)) = false := by simpa using c65))
      (try (have c65b3 : ¬ (t597 = t617 && (t598 == t618)) := by simpa using c65))
      clear c65
      exact absurd H (by simp)
     rw [if_pos c65] at H
     have c65b0 : (t597 == t617 && (t598 == t618)) = true := c65
     (try (have c65b1 : decide (t597 = t617 && (t598 == t618)) = true := by simpa using c65))
     (try (have c65b2 : (t597 == t617 && (t598 == t618)) = true := by simpa using c65))
     clear c65
     by_cases c66 : t606 = 0
     case neg =>
      rw [if_neg c66] at H
      have c66b0 : (t606 == 0) = false := beq_eq_false_iff_ne.mpr c66
      have c66b1 : (t606 != 0) = true := bne_iff_ne.mpr c66
      exact absurd H (by simp)
     rw [if_pos c66] at H
     have c66b0 : (t606 == 0) = true := beq_iff_eq.mpr c66
     have c66b1 : (t606 != 0) = false := bne_eq_false_iff_eq.mpr c66
     clear c66
     replace H := obm H
     obtain ⟨t619,A670,H⟩ := H
     replace H : (if t619 = true then (if (t604 == t614 && (t605 == t615)) = true then ((l4_known.f).bind fun t620 => (some t620)) else (none)) else (none)) = some r := H
     have A67 := am A670
     clear A670
     by_cases c68 : t619 = true
     case neg =>
      replace c68 := Bool.eq_false_iff.mpr c68
      subst c68
      replace H : (none) = some r := by rw [if_neg (show ¬ (false = true) by decide)] at H;exact H
      exact absurd H (by simp)
     subst c68
     replace H : (if (t604 == t614 && (t605 == t615)) = true then ((l4_known.f).bind fun t620 => (some t620)) else (none)) = some r := by rw [if_pos rfl] at H;exact H
     by_cases c69 : (t604 == t614 && (t605 == t615)) = true
     case neg =>
      rw [if_neg c69] at H
      have c69b0 : (t604 == t614 && (t605 == t615)) = false := by simpa using c69
      (try (have c69b1 : decide (t604 = t614 && (t605 == t615)) = false := by simpa using c69))
      (try (have c69b2 : (t604 == t614 && (t605 == t615)) = false := by simpa using c69))
      (try (have c69b3 : ¬ (t604 = t614 && (t605 == t615)) := by simpa using c69))
      clear c69
      exact absurd H (by simp)
     rw [if_pos c69] at H
     have c69b0 : (t604 == t614 && (t605 == t615)) = true := c69
     (try (have c69b1 : decide (t604 = t614 && (t605 == t615)) = true := by simpa using c69))
     (try (have c69b2 : (t604 == t614 && (t605 == t615)) = true := by simpa using c69))
     clear c69
     replace H := obm H
     obtain ⟨t620,A700,H⟩ := H
     replace H : (some t620) = some r := H
     have A70 := am A700
     clear A700
     obtain rfl := Option.some.inj H
     have hnb71 := NB593_594.out
     have hnc71 := NB594_593.out
     have hnb72 := NB593_600.out
     have hnc72 := NB600_593.out
     have hnb73 := NB593_607.out
     have hnc73 := NB607_593.out
     obtain ⟨hcz74_0,hcz74_1,hcz74_2,hcz74_3,hcz74_4⟩ := cO5 BK593.out
     have hfz74_0 := blk_frozen BK593.out 0
     have hfz74_1 := blk_frozen BK593.out 1
     have hfz74_2 := blk_frozen BK593.out 2
     have hfz74_3 := blk_frozen BK593.out 3
     have hfz74_4 := blk_frozen BK593.out 4
     have hnb75 := NB594_600.out
     have hnc75 := NB600_594.out
     have hnb76 := NB594_607.out
     have hnc76 := NB607_594.out
     obtain ⟨hcz77_0,hcz77_1⟩ := cO2 BK594.out
     have hfz77_0 := blk_frozen BK594.out 0
     have hfz77_1 := blk_frozen BK594.out 1
     try go_wp2_with (first | ((with_reducible refine gate_callee (f := 27) rfl ?_);refine goesL_ (some 64) rfl rfl Tryz.func27 (by kernel_rfl) rfl #[.agg #[.slice A0_0 l0_0.length c0_0,.int .i64 a0_1,.slice A0_2 l0_2.length c0_2,.int .i64 a0_3,.int .i64 a0_4],.agg #[.int .i64 a1_0,.int .i64 a1_1]] rfl (by (try simp only [List.map_toArray,List.map_cons,List.map_nil]);first | done | rfl | (simp only [List.length_drop,List.length_take];rfl)) ?_;(with_reducible refine (q4_Bounds.calls kj6 _ _ l0_0 a0_1 _ _ l0_2 a0_3 a0_4 a1_0 a1_1 t611 t614 t615 _ ?side1 ?side2 ?side3 ?side4 A61.out).mono ?_);(case side1 => repeat (first | exact (kC HR0_0.out HB.out) | (with_reducible refine Kd.C_alloc ?_ _) | (with_reducible refine Kd.C_drewN ?_ _) | (with_reducible refine Kd.C_drew ?_)));(case side2 => exact HC0_0.out);(case side3 => repeat (first | exact (kC HR0_2.out HB.out) | (with_reducible refine Kd.C_alloc ?_ _) | (with_reducible refine Kd.C_drewN ?_ _) | (with_reducible refine Kd.C_drew ?_)));(case side4 => exact HC0_2.out);rintro e w78 ⟨v612,rfl,ho0,hb⟩;refine ⟨_,rfl,?_⟩;have HO613 := am (Kd.R_lower (Kd.R_newB (Kd.R_newB (Kd.R_newB (Kd.R_new' ho0 (Kd.R_lt (by (with_reducible repeat (first | apply Kd.R_alloc | apply Kd.R_drewN | apply Kd.R_drew));exact HO_7.out))) (g := gb594) (o := .cells #[.int .i64 a1_0,.int .i64 a1_1] 40 (0,0)) (by (with_reducible repeat (first | refine blk_drewN ?_ _ | refine blk_drew ?_ | refine blk_alloc ?_ _));exact BK594.out)) (g := gb600) (o := .cells #[.int .i64 t597,.int .i64 t598] 40 (0,0)) (by (with_reducible repeat (first | refine blk_drewN ?_ _ | refine blk_drew ?_ | refine blk_alloc ?_ _));exact BK600.out)) (g := gb607) (o := .cells #[.int .i64 t604,.int .i64 t605] 40 (0,0)) (by (with_reducible repeat (first | refine blk_drewN ?_ _ | refine blk_drew ?_ | refine blk_alloc ?_ _));exact BK607.out)) (below_size (by repeat (first | (with_reducible first | exact HB.out | refine below_set ?_ (Aside0.out (by assumption)) | apply below_alloc | apply pw_below_drewN) | exact HB.out))));replace HO_7 := am (Kd.R_elder' (by (with_reducible repeat (first | apply Kd.R_alloc | apply Kd.R_drewN | apply Kd.R_drew));exact HO_7.out) (Kd.R_base ho0) hb);replace BK593 := am (blk_below (g := gb593) (o := .cells #[.slice A0_0 l0_0.length c0_0,.int .i64 a0_1,.slice A0_2 l0_2.length c0_2,.int .i64 a0_3,.int .i64 a0_4] 27 (0,0)) (by (with_reducible repeat (first | refine blk_drewN ?_ _ | refine blk_drew ?_ | refine blk_alloc ?_ _));exact BK593.out) hb);replace BK594 := am (blk_below (g := gb594) (o := .cells #[.int .i64 a1_0,.int .i64 a1_1] 40 (0,0)) (by (with_reducible repeat (first | refine blk_drewN ?_ _ | refine blk_drew ?_ | refine blk_alloc ?_ _));exact BK594.out) hb);replace BK600 := am (blk_below (g := gb600) (o := .cells #[.int .i64 t597,.int .i64 t598] 40 (0,0)) (by (with_reducible repeat (first | refine blk_drewN ?_ _ | refine blk_drew ?_ | refine blk_alloc ?_ _));exact BK600.out) hb);replace BK607 := am (blk_below (g := gb607) (o := .cells #[.int .i64 t604,.int .i64 t605] 40 (0,0)) (by (with_reducible repeat (first | refine blk_drewN ?_ _ | refine blk_drew ?_ | refine blk_alloc ?_ _));exact BK607.out) hb);replace HB := am (below_step (by repeat (first | (with_reducible first | exact HB.out | refine below_set ?_ (Aside0.out (by assumption)) | apply below_alloc | apply pw_below_drewN) | exact HB.out)) hb);(try clear hb);(try clear hb2);(try clear hk);(try clear hi);(try clear ho0)) | ((with_reducible refine gate_dst (N := 11) rfl ?_);(try (refine gate_guard (by rfl) ?_;dsimp only));refine box_event ?hg (N := 11) ?hd (cs := #[.int .i64 0,.int .i64 0]) (t := 40) ?hr ?_;(case hd => rfl);(case hg => rfl);(case hr => go_simp;try rfl);intro gb616 hg w79 hbox hb;have BK616 := am (hbox);have GW616 := am (ge_new (by repeat (first | (with_reducible first | exact HB.out | refine below_set ?_ (Aside0.out (by assumption)) | apply below_alloc | apply pw_below_drewN) | exact HB.out)) hg);have GE616 := am (ge_new (by repeat (first | (with_reducible first | exact HB.out | refine below_set ?_ (Aside0.out (by assumption)) | apply below_alloc | apply pw_below_drewN) | exact HB.out)) hg);have NB593_616 := am ((by rw [hg];exact Nat.ne_of_lt (blk_lt (g := gb593) (o := .cells #[.slice A0_0 l0_0.length c0_0,.int .i64 a0_1,.slice A0_2 l0_2.length c0_2,.int .i64 a0_3,.int .i64 a0_4] 27 (0,0)) (by (with_reducible repeat (first | refine blk_drewN ?_ _ | refine blk_drew ?_ | refine blk_alloc ?_ _));exact BK593.out)) : gb593 ≠ gb616));have NB616_593 := am ((by rw [hg];exact Nat.ne_of_gt (blk_lt (g := gb593) (o := .cells #[.slice A0_0 l0_0.length c0_0,.int .i64 a0_1,.slice A0_2 l0_2.length c0_2,.int .i64 a0_3,.int .i64 a0_4] 27 (0,0)) (by (with_reducible repeat (first | refine blk_drewN ?_ _ | refine blk_drew ?_ | refine blk_alloc ?_ _));exact BK593.out)) : gb616 ≠ gb593));have NB594_616 := am ((by rw [hg];exact Nat.ne_of_lt (blk_lt (g := gb594) (o := .cells #[.int .i64 a1_0,.int .i64 a1_1] 40 (0,0)) (by (with_reducible repeat (first | refine blk_drewN ?_ _ | refine blk_drew ?_ | refine blk_alloc ?_ _));exact BK594.out)) : gb594 ≠ gb616));have NB616_594 := am ((by rw [hg];exact Nat.ne_of_gt (blk_lt (g := gb594) (o := .cells #[.int .i64 a1_0,.int .i64 a1_1] 40 (0,0)) (by (with_reducible repeat (first | refine blk_drewN ?_ _ | refine blk_drew ?_ | refine blk_alloc ?_ _));exact BK594.out)) : gb616 ≠ gb594));have NB600_616 := am ((by rw [hg];exact Nat.ne_of_lt (blk_lt (g := gb600) (o := .cells #[.int .i64 t597,.int .i64 t598] 40 (0,0)) (by (with_reducible repeat (first | refine blk_drewN ?_ _ | refine blk_drew ?_ | refine blk_alloc ?_ _));exact BK600.out)) : gb600 ≠ gb616));have NB616_600 := am ((by rw [hg];exact Nat.ne_of_gt (blk_lt (g := gb600) (o := .cells #[.int .i64 t597,.int .i64 t598] 40 (0,0)) (by (with_reducible repeat (first | refine blk_drewN ?_ _ | refine blk_drew ?_ | refine blk_alloc ?_ _));exact BK600.out)) : gb616 ≠ gb600));have NB607_616 := am ((by rw [hg];exact Nat.ne_of_lt (blk_lt (g := gb607) (o := .cells #[.int .i64 t604,.int .i64 t605] 40 (0,0)) (by (with_reducible repeat (first | refine blk_drewN ?_ _ | refine blk_drew ?_ | refine blk_alloc ?_ _));exact BK607.out)) : gb607 ≠ gb616));have NB616_607 := am ((by rw [hg];exact Nat.ne_of_gt (blk_lt (g := gb607) (o := .cells #[.int .i64 t604,.int .i64 t605] 40 (0,0)) (by (with_reducible repeat (first | refine blk_drewN ?_ _ | refine blk_drew ?_ | refine blk_alloc ?_ _));exact BK607.out)) : gb616 ≠ gb607));replace HO_7 := am (Kd.R_below (Kd.R_elderB (by (with_reducible repeat (first | apply Kd.R_alloc | apply Kd.R_drewN | apply Kd.R_drew));exact HO_7.out) gb616 (Nat.le_of_eq hg.symm)) hb);replace HO613 := am (Kd.R_below (Kd.R_elderB (by (with_reducible repeat (first | apply Kd.R_alloc | apply Kd.R_drewN | apply Kd.R_drew));exact HO613.out) gb616 (Nat.le_of_eq hg.symm)) hb);replace BK593 := am (blk_below (g := gb593) (o := .cells #[.slice A0_0 l0_0.length c0_0,.int .i64 a0_1,.slice A0_2 l0_2.length c0_2,.int .i64 a0_3,.int .i64 a0_4] 27 (0,0)) (by (with_reducible repeat (first | refine blk_drewN ?_ _ | refine blk_drew ?_ | refine blk_alloc ?_ _));exact BK593.out) hb);replace BK594 := am (blk_below (g := gb594) (o := .cells #[.int .i64 a1_0,.int .i64 a1_1] 40 (0,0)) (by (with_reducible repeat (first | refine blk_drewN ?_ _ | refine blk_drew ?_ | refine blk_alloc ?_ _));exact BK594.out) hb);replace BK600 := am (blk_below (g := gb600) (o := .cells #[.int .i64 t597,.int .i64 t598] 40 (0,0)) (by (with_reducible repeat (first | refine blk_drewN ?_ _ | refine blk_drew ?_ | refine blk_alloc ?_ _));exact BK600.out) hb);replace BK607 := am (blk_below (g := gb607) (o := .cells #[.int .i64 t604,.int .i64 t605] 40 (0,0)) (by (with_reducible repeat (first | refine blk_drewN ?_ _ | refine blk_drew ?_ | refine blk_alloc ?_ _));exact BK607.out) hb);replace HB := am (below_step (by repeat (first | (with_reducible first | exact HB.out | refine below_set ?_ (Aside0.out (by assumption)) | apply below_alloc | apply pw_below_drewN) | exact HB.out)) hb);clear hb hbox hg;have hnb80 := NB616_593.out;have hnc80 := NB593_616.out;have hnb81 := NB616_594.out;have hnc81 := NB594_616.out;have hnb82 := NB616_600.out;have hnc82 := NB600_616.out;have hnb83 := NB616_607.out;have hnc83 := NB607_616.out;obtain ⟨hcz84_0,hcz84_1⟩ := cO2 BK616.out;have hfz84_0 := blk_frozen BK616.out 0;have hfz84_1 := blk_frozen BK616.out 1))
     have n0_ : Aside0 (Kd.R k40 40 ((w79.setCell ⟨gb616,0,none⟩ (.int .i64 t614)).setCell ⟨gb616,1,none⟩ (.int .i64 t615)) w.heap.size (fun k_ => some k_ ≠ (v612 : Value).ownBlock ∧ k_ ≠ gb594 ∧ k_ ≠ gb600 ∧ k_ ≠ gb607 ∧ k_ ≠ gb616) v602 t601) := ⟨by (with_reducible repeat (first | apply Kd.R_alloc | apply Kd.R_drewN | apply Kd.R_drew));exact Kd.R_mono (Kd.R_far (p := ⟨gb616,1,none⟩) (Kd.R_far (p := ⟨gb616,0,none⟩) (Kd.R_mono HO_7.out (fun k_ hk => (⟨hk,hk.2⟩ : _ ∧ k_ ≠ gb616))) (fun _ hk => hk.2) (.int .i64 t614)) (fun _ hk => hk.2) (.int .i64 t615)) (fun _ hk => ⟨hk.1.1.2,⟨hk.1.1.1.1,⟨hk.1.1.1.2.1,⟨hk.1.1.1.2.2,hk.1.2⟩⟩⟩⟩)⟩
     have n1_ : Aside0 (Kd.R k40 40 ((w79.setCell ⟨gb616,0,none⟩ (.int .i64 t614)).setCell ⟨gb616,1,none⟩ (.int .i64 t615)) w.heap.size (fun k_ => some k_ ≠ (v602 : Value).ownBlock ∧ k_ ≠ gb594 ∧ k_ ≠ gb600 ∧ k_ ≠ gb607 ∧ k_ ≠ gb616) v612 t611) := ⟨by (with_reducible repeat (first | apply Kd.R_alloc | apply Kd.R_drewN | apply Kd.R_drew));exact Kd.R_mono (Kd.R_far (p := ⟨gb616,1,none⟩) (Kd.R_far (p := ⟨gb616,0,none⟩) (Kd.R_mono HO613.out (fun k_ hk => (⟨hk,hk.2⟩ : _ ∧ k_ ≠ gb616))) (fun _ hk => hk.2) (.int .i64 t614)) (fun _ hk => hk.2) (.int .i64 t615)) (fun _ hk => ⟨hk.1.1.1.1.1.2,⟨hk.1.1.1.1.2,⟨hk.1.1.1.2,⟨hk.1.1.2,hk.1.2⟩⟩⟩⟩)⟩
     have n2_ : Aside0 (((w79.setCell ⟨gb616,0,none⟩ (.int .i64 t614)).setCell ⟨gb616,1,none⟩ (.int .i64 t615)).heap[gb593]? = some (.cells #[.slice A0_0 l0_0.length c0_0,.int .i64 a0_1,.slice A0_2 l0_2.length c0_2,.int .i64 a0_3,.int .i64 a0_4] 27 (0,0))) := ⟨by (with_reducible repeat (first | refine blk_drewN ?_ _ | refine blk_drew ?_ | refine blk_alloc ?_ _));refine blk_far ?_ NB593_616.out _;(with_reducible repeat (first | refine blk_drewN ?_ _ | refine blk_drew ?_ | refine blk_alloc ?_ _));refine blk_far ?_ NB593_616.out _;(with_reducible repeat (first | refine blk_drewN ?_ _ | refine blk_drew ?_ | refine blk_alloc ?_ _));exact BK593.out⟩
     have n3_ : Aside0 (((w79.setCell ⟨gb616,0,none⟩ (.int .i64 t614)).setCell ⟨gb616,1,none⟩ (.int .i64 t615)).heap[gb594]? = some (.cells #[.int .i64 a1_0,.int .i64 a1_1] 40 (0,0))) := ⟨by (with_reducible repeat (first | refine blk_drewN ?_ _ | refine blk_drew ?_ | refine blk_alloc ?_ _));refine blk_far ?_ NB594_616.out _;(with_reducible repeat (first | refine blk_drewN ?_ _ | refine blk_drew ?_ | refine blk_alloc ?_ _));refine blk_far ?_ NB594_616.out _;(with_reducible repeat (first | refine blk_drewN ?_ _ | refine blk_drew ?_ | refine blk_alloc ?_ _));exact BK594.out⟩
     have n4_ : Aside0 (((w79.setCell ⟨gb616,0,none⟩ (.int .i64 t614)).setCell ⟨gb616,1,none⟩ (.int .i64 t615)).heap[gb600]? = some (.cells #[.int .i64 t597,.int .i64 t598] 40 (0,0))) := ⟨by (with_reducible repeat (first | refine blk_drewN ?_ _ | refine blk_drew ?_ | refine blk_alloc ?_ _));refine blk_far ?_ NB600_616.out _;(with_reducible repeat (first | refine blk_drewN ?_ _ | refine blk_drew ?_ | refine blk_alloc ?_ _));refine blk_far ?_ NB600_616.out _;(with_reducible repeat (first | refine blk_drewN ?_ _ | refine blk_drew ?_ | refine blk_alloc ?_ _));exact BK600.out⟩
     have n5_ : Aside0 (((w79.setCell ⟨gb616,0,none⟩ (.int .i64 t614)).setCell ⟨gb616,1,none⟩ (.int .i64 t615)).heap[gb607]? = some (.cells #[.int .i64 t604,.int .i64 t605] 40 (0,0))) := ⟨by (with_reducible repeat (first | refine blk_drewN ?_ _ | refine blk_drew ?_ | refine blk_alloc ?_ _));refine blk_far ?_ NB607_616.out _;(with_reducible repeat (first | refine blk_drewN ?_ _ | refine blk_drew ?_ | refine blk_alloc ?_ _));refine blk_far ?_ NB607_616.out _;(with_reducible repeat (first | refine blk_drewN ?_ _ | refine blk_drew ?_ | refine blk_alloc ?_ _));exact BK607.out⟩
     have n6_ : Aside0 (((w79.setCell ⟨gb616,0,none⟩ (.int .i64 t614)).setCell ⟨gb616,1,none⟩ (.int .i64 t615)).heap[gb616]? = some (.cells #[.int .i64 t614,.int .i64 t615] 40 (0,0))) := ⟨by (with_reducible repeat (first | refine blk_drewN ?_ _ | refine blk_drew ?_ | refine blk_alloc ?_ _));refine blk_put (cs := #[.int .i64 t614,.int .i64 0]) ?_ 1 _ rfl;(with_reducible repeat (first | refine blk_drewN ?_ _ | refine blk_drew ?_ | refine blk_alloc ?_ _));refine blk_put (cs := #[.int .i64 0,.int .i64 0]) ?_ 0 _ rfl;(with_reducible repeat (first | refine blk_drewN ?_ _ | refine blk_drew ?_ | refine blk_alloc ?_ _));exact BK616.out⟩
     have n7_ : Aside0 (Below w.heap.size w ((w79.setCell ⟨gb616,0,none⟩ (.int .i64 t614)).setCell ⟨gb616,1,none⟩ (.int .i64 t615))) := ⟨by repeat (first | (with_reducible first | exact HB.out | refine below_set ?_ (Aside0.out (by assumption)) | apply below_alloc | apply pw_below_drewN) | exact HB.out)⟩
     (try clear HO_7)
     (try clear HO613)
     (try clear BK593)
     (try clear BK594)
     (try clear BK600)
     (try clear BK607)
     (try clear BK616)
     (try clear HB)
     generalize ((w79.setCell ⟨gb616,0,none⟩ (.int .i64 t614)).setCell ⟨gb616,1,none⟩ (.int .i64 t615)) = w85 at n0_ n1_ n2_ n3_ n4_ n5_ n6_ n7_ ⊢
     have HO_7 := n0_
     have HO613 := n1_
     have BK593 := n2_
     have BK594 := n3_
     have BK600 := n4_
     have BK607 := n5_
     have BK616 := n6_
     have HB := n7_
     clear n0_ n1_ n2_ n3_ n4_ n5_ n6_ n7_
     replace HO_7 := am (Kd.R_drew HO_7.out)
     replace HO613 := am (Kd.R_drew HO613.out)
     replace BK593 := am (blk_drew BK593.out)
     replace BK594 := am (blk_drew BK594.out)
     replace BK600 := am (blk_drew BK600.out)
     replace BK607 := am (blk_drew BK607.out)
     replace BK616 := am (blk_drew BK616.out)
     replace HB := am (below_drew1 HB.out)
     refine start_ (n := 33) (S := fun w' => w'.cell? ⟨gb600,0,none⟩ = some (.int .i64 t597) ∧ w'.cell? ⟨gb600,1,none⟩ = some (.int .i64 t598) ∧ w'.cell? ⟨gb593,0,none⟩ = some (.slice A0_0 l0_0.length c0_0) ∧ w'.cell? ⟨gb593,1,none⟩ = some (.int .i64 a0_1) ∧ w'.cell? ⟨gb593,2,none⟩ = some (.slice A0_2 l0_2.length c0_2) ∧ w'.cell? ⟨gb593,3,none⟩ = some (.int .i64 a0_3) ∧ w'.cell? ⟨gb593,4,none⟩ = some (.int .i64 a0_4) ∧ w'.cell? ⟨gb594,0,none⟩ = some (.int .i64 a1_0) ∧ w'.cell? ⟨gb594,1,none⟩ = some (.int .i64 a1_1) ∧ w'.cell? ⟨gb607,0,none⟩ = some (.int .i64 t604) ∧ w'.cell? ⟨gb607,1,none⟩ = some (.int .i64 t605) ∧ w'.cell? ⟨gb616,0,none⟩ = some (.int .i64 t614) ∧ w'.cell? ⟨gb616,1,none⟩ = some (.int .i64 t615)) (ds := []) (ba 33 0) (by kernel_rfl) rfl rfl ⟨(blk_cell BK600.out 0).trans rfl,(blk_cell BK600.out 1).trans rfl,(blk_cell BK593.out 0).trans rfl,(blk_cell BK593.out 1).trans rfl,(blk_cell BK593.out 2).trans rfl,(blk_cell BK593.out 3).trans rfl,(blk_cell BK593.out 4).trans rfl,(blk_cell BK594.out 0).trans rfl,(blk_cell BK594.out 1).trans rfl,(blk_cell BK607.out 0).trans rfl,(blk_cell BK607.out 1).trans rfl,(blk_cell BK616.out 0).trans rfl,(blk_cell BK616.out 1).trans rfl⟩ (fun hHeld => ?_);refine with_tabW l4_CastleBounds.tab8 l4_CastleBounds.bits8 (fun HT_ HW_ => ?_)
     generalize w85.drew = w86 at HO_7 HO613 BK593 BK594 BK600 BK607 BK616 HB hHeld ⊢
     refine pure_ (i := 0) (N := some 67) (v := ?_) (a' := ?_) (ba 33 1) rfl rfl (any_of HT_.out (by kernel_rfl)) (fun _ _ _ h => h) (Or.inl ⟨by rfl,?_⟩) ?_ ?_
     rotate_left
     · intro w'
       go_simp
       with_reducible rfl
     rotate_left
     · simp only [Act.put,NRM]
       rfl
     refine pure_ (i := 1) (N := some 68) (v := ?_) (a' := ?_) (ba 33 3) rfl rfl (any_of HT_.out (by kernel_rfl)) (fun _ _ _ h => h) (Or.inl ⟨by rfl,?_⟩) ?_ ?_
     rotate_left
     · intro w'
       go_simp
       with_reducible rfl
     rotate_left
     · simp only [Act.put,NRM]
       rfl
     refine pure_ (i := 2) (N := some 69) (v := ?_) (a' := ?_) (ba 33 7) rfl rfl (any_of HT_.out (by kernel_rfl)) (fun _ _ _ h => h) (Or.inl ⟨by rfl,?_⟩) ?_ ?_
     rotate_left
     · intro w'
       go_simp
       with_reducible rfl
     rotate_left
     · simp only [Act.put,NRM]
       rfl
     refine pure_ (i := 5) (N := some 72) (v := ?_) (a' := ?_) (ba 33 39) rfl rfl (any_of HT_.out (by kernel_rfl)) (fun _ _ _ h => h) (Or.inl ⟨by rfl,?_⟩) ?_ ?_
     rotate_left
     · intro w'
       go_simp
       with_reducible rfl
     rotate_left
     · simp only [Act.put,NRM]
       rfl
     refine pure_ (i := 9) (N := some 76) (v := ?_) (a' := ?_) (ba 33 551) rfl rfl (any_of HT_.out (by kernel_rfl)) (fun _ _ _ h => h) (Or.inl ⟨by rfl,?_⟩) ?_ ?_
     rotate_left
     · intro w'
       go_simp
       with_reducible rfl
     rotate_left
     · simp only [Act.put,NRM]
       rfl
     refine take_ (i := 3) (N := some 70) (v := ?_) (a' := ?_) (ba 33 559) rfl rfl (take_ofW HT_.out HW_.out (by kernel_rfl)) (fun _ _ _ h => h) (Or.inl ⟨by rfl,?_⟩) hHeld ?_ ?_
     rotate_left
     · rintro w' ⟨s0,s1,s2,s3,s4,s5,s6,s7,s8,s9,s10,s11,s12⟩
       go_simp
       with_reducible rfl
     rotate_left
     · simp only [Act.put,NRM]
       rfl
     refine take_ (i := 4) (N := some 71) (v := ?_) (a' := ?_) (ba 33 575) rfl rfl (take_ofW HT_.out HW_.out (by kernel_rfl)) (fun _ _ _ h => h) (Or.inl ⟨by rfl,?_⟩) hHeld ?_ ?_
     rotate_left
     · rintro w' ⟨s0,s1,s2,s3,s4,s5,s6,s7,s8,s9,s10,s11,s12⟩
       go_simp
       with_reducible rfl
     rotate_left
     · simp only [Act.put,NRM]
       rfl
     refine take_ (i := 6) (N := some 73) (v := ?_) (a' := ?_) (ba 33 639) rfl rfl (take_ofW HT_.out HW_.out (by kernel_rfl)) (fun _ _ _ h => h) (Or.inl ⟨by rfl,?_⟩) hHeld ?_ ?_
     rotate_left
     · rintro w' ⟨s0,s1,s2,s3,s4,s5,s6,s7,s8,s9,s10,s11,s12⟩
       go_simp
       with_reducible rfl
     rotate_left
     · simp only [Act.put,NRM]
       rfl
     refine take_ (i := 8) (N := some 75) (v := ?_) (a' := ?_) (ba 33 895) rfl rfl (take_ofW HT_.out HW_.out (by kernel_rfl)) (fun _ _ _ h => h) (Or.inl ⟨by rfl,?_⟩) hHeld ?_ ?_
     rotate_left
     · rintro w' ⟨s0,s1,s2,s3,s4,s5,s6,s7,s8,s9,s10,s11,s12⟩
       go_simp
       with_reducible rfl
     rotate_left
     · simp only [Act.put,NRM]
       rfl
     refine take_ (i := 10) (N := some 77) (v := ?_) (a' := ?_) (ba 33 1919) rfl rfl (take_ofW HT_.out HW_.out (by kernel_rfl)) (fun _ _ _ h => h) (Or.inl ⟨by rfl,?_⟩) hHeld ?_ ?_
     rotate_left
     · rintro w' ⟨s0,s1,s2,s3,s4,s5,s6,s7,s8,s9,s10,s11,s12⟩
       go_simp
       with_reducible rfl
     rotate_left
     · simp only [Act.put,NRM]
       rfl
     refine one_ (i := 7) (N := some 74) (ba 33 2047) rfl rfl (one_of HT_.out (by kernel_rfl)) (by decide) (fun K hK => ?_)
     refine goes_ Tryz.func28 (by kernel_rfl) rfl #[.agg #[.slice A0_0 l0_0.length c0_0,.int .i64 a0_1,.slice A0_2 l0_2.length c0_2,.int .i64 a0_3,.int .i64 a0_4],.int .i64 a1_0] (by rfl) rfl rfl (by (try simp only [List.map_toArray,List.map_cons,List.map_nil]);first | done | rfl | (simp only [List.length_drop,List.length_take];rfl)) ?_
     with_reducible refine (q4_Stands.calls kj6 _ _ l0_0 a0_1 _ _ l0_2 a0_3 a0_4 a1_0 t617 _ ?side1 ?side2 ?side3 ?side4 A63.out).mono ?_
     (case side1 => repeat (first | exact (kC HR0_0.out HB.out) | (with_reducible refine Kd.C_alloc ?_ _) | (with_reducible refine Kd.C_drewN ?_ _) | (with_reducible refine Kd.C_drew ?_)))
     (case side2 => exact HC0_0.out)
     (case side3 => repeat (first | exact (kC HR0_2.out HB.out) | (with_reducible refine Kd.C_alloc ?_ _) | (with_reducible refine Kd.C_drewN ?_ _) | (with_reducible refine Kd.C_drew ?_)))
     (case side4 => exact HC0_2.out)
     rintro e w87 ⟨rfl,hb⟩
     refine ⟨_,rfl,?_⟩
     replace HO_7 := am (Kd.R_below (by (with_reducible repeat (first | apply Kd.R_alloc | apply Kd.R_drewN | apply Kd.R_drew));exact HO_7.out) hb)
     replace HO613 := am (Kd.R_below (by (with_reducible repeat (first | apply Kd.R_alloc | apply Kd.R_drewN | apply Kd.R_drew));exact HO613.out) hb)
     replace BK593 := am (blk_below (g := gb593) (o := .cells #[.slice A0_0 l0_0.length c0_0,.int .i64 a0_1,.slice A0_2 l0_2.length c0_2,.int .i64 a0_3,.int .i64 a0_4] 27 (0,0)) (by (with_reducible repeat (first | refine blk_drewN ?_ _ | refine blk_drew ?_ | refine blk_alloc ?_ _));exact BK593.out) hb)
     replace BK594 := am (blk_below (g := gb594) (o := .cells #[.int .i64 a1_0,.int .i64 a1_1] 40 (0,0)) (by (with_reducible repeat (first | refine blk_drewN ?_ _ | refine blk_drew ?_ | refine blk_alloc ?_ _));exact BK594.out) hb)
     replace BK600 := am (blk_below (g := gb600) (o := .cells #[.int .i64 t597,.int .i64 t598] 40 (0,0)) (by (with_reducible repeat (first | refine blk_drewN ?_ _ | refine blk_drew ?_ | refine blk_alloc ?_ _));exact BK600.out) hb)
     replace BK607 := am (blk_below (g := gb607) (o := .cells #[.int .i64 t604,.int .i64 t605] 40 (0,0)) (by (with_reducible repeat (first | refine blk_drewN ?_ _ | refine blk_drew ?_ | refine blk_alloc ?_ _));exact BK607.out) hb)
     replace BK616 := am (blk_below (g := gb616) (o := .cells #[.int .i64 t614,.int .i64 t615] 40 (0,0)) (by (with_reducible repeat (first | refine blk_drewN ?_ _ | refine blk_drew ?_ | refine blk_alloc ?_ _));exact BK616.out) hb)
     replace HB := am (below_step (by repeat (first | (with_reducible first | exact HB.out | refine below_set ?_ (Aside0.out (by assumption)) | apply below_alloc | apply pw_below_drewN) | exact HB.out)) hb)
     (try clear hb)
     (try clear hb2)
     (try clear hk)
     (try clear hi)
     refine hK.out _ _ ⟨(blk_cell BK600.out 0).trans rfl,(blk_cell BK600.out 1).trans rfl,(blk_cell BK593.out 0).trans rfl,(blk_cell BK593.out 1).trans rfl,(blk_cell BK593.out 2).trans rfl,(blk_cell BK593.out 3).trans rfl,(blk_cell BK593.out 4).trans rfl,(blk_cell BK594.out 0).trans rfl,(blk_cell BK594.out 1).trans rfl,(blk_cell BK607.out 0).trans rfl,(blk_cell BK607.out 1).trans rfl,(blk_cell BK616.out 0).trans rfl,(blk_cell BK616.out 1).trans rfl⟩ (fun hHeld => ?_)
     clear hK K
     refine norm_ (a' := ?_) ?_ ?_
     rotate_left
     · show Act.put _ (some 74) _ = _
       simp only [Act.put,NRM]
       rfl
     refine one_ (i := 11) (N := some 78) (ba 33 4095) rfl rfl (one_of HT_.out (by kernel_rfl)) (by decide) (fun K hK => ?_)
     refine goes_ Tryz.func28 (by kernel_rfl) rfl #[.agg #[.slice A0_0 l0_0.length c0_0,.int .i64 a0_1,.slice A0_2 l0_2.length c0_2,.int .i64 a0_3,.int .i64 a0_4],.int .i64 a1_1] (by rfl) rfl rfl (by (try simp only [List.map_toArray,List.map_cons,List.map_nil]);first | done | rfl | (simp only [List.length_drop,List.length_take];rfl)) ?_
     with_reducible refine (q4_Stands.calls kj6 _ _ l0_0 a0_1 _ _ l0_2 a0_3 a0_4 a1_1 t618 _ ?side1 ?side2 ?side3 ?side4 A64.out).mono ?_
     (case side1 => repeat (first | exact (kC HR0_0.out HB.out) | (with_reducible refine Kd.C_alloc ?_ _) | (with_reducible refine Kd.C_drewN ?_ _) | (with_reducible refine Kd.C_drew ?_)))
     (case side2 => exact HC0_0.out)
     (case side3 => repeat (first | exact (kC HR0_2.out HB.out) | (with_reducible refine Kd.C_alloc ?_ _) | (with_reducible refine Kd.C_drewN ?_ _) | (with_reducible refine Kd.C_drew ?_)))
     (case side4 => exact HC0_2.out)
     rintro e w88 ⟨rfl,hb⟩
     refine ⟨_,rfl,?_⟩
     replace HO_7 := am (Kd.R_below (by (with_reducible repeat (first | apply Kd.R_alloc | apply Kd.R_drewN | apply Kd.R_drew));exact HO_7.out) hb)
     replace HO613 := am (Kd.R_below (by (with_reducible repeat (first | apply Kd.R_alloc | apply Kd.R_drewN | apply Kd.R_drew));exact HO613.out) hb)
     replace BK593 := am (blk_below (g := gb593) (o := .cells #[.slice A0_0 l0_0.length c0_0,.int .i64 a0_1,.slice A0_2 l0_2.length c0_2,.int .i64 a0_3,.int .i64 a0_4] 27 (0,0)) (by (with_reducible repeat (first | refine blk_drewN ?_ _ | refine blk_drew ?_ | refine blk_alloc ?_ _));exact BK593.out) hb)
     replace BK594 := am (blk_below (g := gb594) (o := .cells #[.int .i64 a1_0,.int .i64 a1_1] 40 (0,0)) (by (with_reducible repeat (first | refine blk_drewN ?_ _ | refine blk_drew ?_ | refine blk_alloc ?_ _));exact BK594.out) hb)
     replace BK600 := am (blk_below (g := gb600) (o := .cells #[.int .i64 t597,.int .i64 t598] 40 (0,0)) (by (with_reducible repeat (first | refine blk_drewN ?_ _ | refine blk_drew ?_ | refine blk_alloc ?_ _));exact BK600.out) hb)
     replace BK607 := am (blk_below (g := gb607) (o := .cells #[.int .i64 t604,.int .i64 t605] 40 (0,0)) (by (with_reducible repeat (first | refine blk_drewN ?_ _ | refine blk_drew ?_ | refine blk_alloc ?_ _));exact BK607.out) hb)
     replace BK616 := am (blk_below (g := gb616) (o := .cells #[.int .i64 t614,.int .i64 t615] 40 (0,0)) (by (with_reducible repeat (first | refine blk_drewN ?_ _ | refine blk_drew ?_ | refine blk_alloc ?_ _));exact BK616.out) hb)
     replace HB := am (below_step (by repeat (first | (with_reducible first | exact HB.out | refine below_set ?_ (Aside0.out (by assumption)) | apply below_alloc | apply pw_below_drewN) | exact HB.out)) hb)
     (try clear hb)
     (try clear hb2)
     (try clear hk)
     (try clear hi)
     obtain ⟨Ao89,co89,eo89⟩ := Kd.R_slice HO_7.out
     (first | subst eo89 | (injection eo89 with f1_ f2_ f3_;have f4_ := f1_.symm;have f5_ := f3_.symm;clear f1_ f2_ f3_;subst f4_;subst f5_))
     obtain ⟨Ao90,co90,eo90⟩ := Kd.R_slice HO613.out
     (first | subst eo90 | (injection eo90 with f1_ f2_ f3_;have f4_ := f1_.symm;have f5_ := f3_.symm;clear f1_ f2_ f3_;subst f4_;subst f5_))
     refine hK.out _ _ ⟨(blk_cell BK600.out 0).trans rfl,(blk_cell BK600.out 1).trans rfl,(blk_cell BK593.out 0).trans rfl,(blk_cell BK593.out 1).trans rfl,(blk_cell BK593.out 2).trans rfl,(blk_cell BK593.out 3).trans rfl,(blk_cell BK593.out 4).trans rfl,(blk_cell BK594.out 0).trans rfl,(blk_cell BK594.out 1).trans rfl,(blk_cell BK607.out 0).trans rfl,(blk_cell BK607.out 1).trans rfl,(blk_cell BK616.out 0).trans rfl,(blk_cell BK616.out 1).trans rfl⟩ (fun hHeld => ?_)
     clear hK K
     refine norm_ (a' := ?_) ?_ ?_
     rotate_left
     · show Act.put _ (some 78) _ = _
       simp only [Act.put,NRM]
       rfl
     refine pure_ (i := 12) (N := some 79) (v := ?_) (a' := ?_) (ba 33 8191) rfl rfl (any_of HT_.out (by kernel_rfl)) (fun _ _ _ h => h) (Or.inl ⟨by rfl,?_⟩) ?_ ?_
     rotate_left
     · intro w'
       go_simp
       with_reducible rfl
     rotate_left
     · simp only [Act.put,NRM]
       rfl
     refine pure_ (i := 13) (N := some 80) (v := ?_) (a' := ?_) (ba 33 16383) rfl rfl (any_of HT_.out (by kernel_rfl)) (fun _ _ _ h => h) (Or.inl ⟨by rfl,?_⟩) ?_ ?_
     rotate_left
     · intro w'
       go_simp
       with_reducible rfl
     rotate_left
     · simp only [Act.put,NRM]
       rfl
     refine pure_ (i := 14) (N := some 81) (v := ?_) (a' := ?_) (ba 33 32767) rfl rfl (any_of HT_.out (by kernel_rfl)) (fun _ _ _ h => h) (Or.inl ⟨by rfl,?_⟩) ?_ ?_
     rotate_left
     · intro w'
       go_simp
       with_reducible rfl
     rotate_left
     · simp only [Act.put,NRM]
       rfl
     refine pure_ (i := 15) (N := some 82) (v := ?_) (a' := ?_) (ba 33 65535) rfl rfl (any_of HT_.out (by kernel_rfl)) (fun _ _ _ h => h) (Or.inl ⟨by rfl,?_⟩) ?_ ?_
     rotate_left
     · intro w'
       go_simp
       with_reducible rfl
     rotate_left
     · simp only [Act.put,NRM]
       rfl
     refine pure_ (i := 16) (N := some 83) (v := ?_) (a' := ?_) (ba 33 131071) rfl rfl (any_of HT_.out (by kernel_rfl)) (fun _ _ _ h => h) (Or.inl ⟨by rfl,?_⟩) ?_ ?_
     rotate_left
     · intro w'
       go_simp
       with_reducible rfl
     rotate_left
     · simp only [Act.put,NRM]
       rfl
     refine pure_ (i := 17) (N := some 84) (v := ?_) (a' := ?_) (ba 33 262143) rfl rfl (any_of HT_.out (by kernel_rfl)) (fun _ _ _ h => h) (Or.inl ⟨by rfl,?_⟩) ?_ ?_
     rotate_left
     · intro w'
       go_simp
       with_reducible rfl
     rotate_left
     · simp only [Act.put,NRM]
       rfl
     refine pure_ (i := 18) (N := some 85) (v := ?_) (a' := ?_) (ba 33 524287) rfl rfl (any_of HT_.out (by kernel_rfl)) (fun _ _ _ h => h) (Or.inl ⟨by rfl,?_⟩) ?_ ?_
     rotate_left
     · intro w'
       go_simp
       with_reducible rfl
     rotate_left
     · simp only [Act.put,NRM]
       rfl
     refine pure_ (i := 19) (N := some 86) (v := ?_) (a' := ?_) (ba 33 1048575) rfl rfl (any_of HT_.out (by kernel_rfl)) (fun _ _ _ h => h) (Or.inl ⟨by rfl,?_⟩) ?_ ?_
     rotate_left
     · intro w'
       go_simp
       with_reducible rfl
     rotate_left
     · simp only [Act.put,NRM]
       rfl
     refine pure_ (i := 20) (N := some 87) (v := ?_) (a' := ?_) (ba 33 2097151) rfl rfl (any_of HT_.out (by kernel_rfl)) (fun _ _ _ h => h) (Or.inl ⟨by rfl,?_⟩) ?_ ?_
     rotate_left
     · intro w'
       go_simp
       with_reducible rfl
     rotate_left
     · simp only [Act.put,NRM]
       rfl
     refine pure_ (i := 21) (N := some 88) (v := ?_) (a' := ?_) (ba 33 4194303) rfl rfl (any_of HT_.out (by kernel_rfl)) (fun _ _ _ h => h) (Or.inl ⟨by rfl,?_⟩) ?_ ?_
     rotate_left
     · intro w'
       go_simp
       with_reducible rfl
     rotate_left
     · simp only [Act.put,NRM]
       rfl
     refine one_ (i := 22) (N := some 89) (ba 33 8388607) rfl rfl (one_of HT_.out (by kernel_rfl)) (by decide) (fun K hK => ?_)
     refine goes_ Tryz.func29 (by kernel_rfl) rfl #[.slice Ao89 t601.length co89,.slice Ao90 t611.length co90] (by rfl) rfl rfl (by (try simp only [List.map_toArray,List.map_cons,List.map_nil]);first | done | rfl | (simp only [List.length_drop,List.length_take];rfl)) ?_
     with_reducible refine (q4_SameSpans.calls kj6 _ _ t601 _ _ t611 true _ ?side1 ?side2 ?side3 ?side4 A67.out).mono ?_
     (case side1 => repeat (first | exact (Kd.R_reads' HO_7.out).2.2 | (with_reducible refine Kd.C_alloc ?_ _) | (with_reducible refine Kd.C_drewN ?_ _) | (with_reducible refine Kd.C_drew ?_)))
     (case side2 => exact (Kd.R_reads' HO_7.out).2.1)
     (case side3 => repeat (first | exact (Kd.R_reads' HO613.out).2.2 | (with_reducible refine Kd.C_alloc ?_ _) | (with_reducible refine Kd.C_drewN ?_ _) | (with_reducible refine Kd.C_drew ?_)))
     (case side4 => exact (Kd.R_reads' HO613.out).2.1)
     rintro e w' ⟨rfl,⟨nd,rfl⟩⟩
     refine ⟨_,rfl,?_⟩
     refine hK.out _ _ ⟨(blk_cell BK600.out 0).trans rfl,(blk_cell BK600.out 1).trans rfl,(blk_cell BK593.out 0).trans rfl,(blk_cell BK593.out 1).trans rfl,(blk_cell BK593.out 2).trans rfl,(blk_cell BK593.out 3).trans rfl,(blk_cell BK593.out 4).trans rfl,(blk_cell BK594.out 0).trans rfl,(blk_cell BK594.out 1).trans rfl,(blk_cell BK607.out 0).trans rfl,(blk_cell BK607.out 1).trans rfl,(blk_cell BK616.out 0).trans rfl,(blk_cell BK616.out 1).trans rfl⟩ (fun hHeld => ?_)
     clear hK K
     refine norm_ (a' := ?_) ?_ ?_
     rotate_left
     · show Act.put _ (some 89) _ = _
       simp only [Act.put,NRM]
       rfl
     refine pure_ (i := 23) (N := some 90) (v := ?_) (a' := ?_) (ba 33 16777215) rfl rfl (any_of HT_.out (by kernel_rfl)) (fun _ _ _ h => h) (Or.inl ⟨by rfl,?_⟩) ?_ ?_
     rotate_left
     · intro w'
       go_simp
       with_reducible rfl
     rotate_left
     · simp only [Act.put,NRM]
       rfl
     refine pure_ (i := 24) (N := some 91) (v := ?_) (a' := ?_) (ba 33 33554431) rfl rfl (any_of HT_.out (by kernel_rfl)) (fun _ _ _ h => h) (Or.inl ⟨by rfl,?_⟩) ?_ ?_
     rotate_left
     · intro w'
       go_simp
       with_reducible rfl
     rotate_left
     · simp only [Act.put,NRM]
       rfl
     refine take_ (i := 25) (N := some 92) (v := ?_) (a' := ?_) (ba 33 67108863) rfl rfl (take_ofW HT_.out HW_.out (by kernel_rfl)) (fun _ _ _ h => h) (Or.inl ⟨by rfl,?_⟩) hHeld ?_ ?_
     rotate_left
     · rintro w' ⟨s0,s1,s2,s3,s4,s5,s6,s7,s8,s9,s10,s11,s12⟩
       go_simp
       with_reducible rfl
     rotate_left
     · simp only [Act.put,NRM]
       rfl
     refine take_ (i := 26) (N := some 93) (v := ?_) (a' := ?_) (ba 33 134217727) rfl rfl (take_ofW HT_.out HW_.out (by kernel_rfl)) (fun _ _ _ h => h) (Or.inl ⟨by rfl,?_⟩) hHeld ?_ ?_
     rotate_left
     · rintro w' ⟨s0,s1,s2,s3,s4,s5,s6,s7,s8,s9,s10,s11,s12⟩
       go_simp
       with_reducible rfl
     rotate_left
     · simp only [Act.put,NRM]
       rfl
     refine pure_ (i := 27) (N := some 94) (v := ?_) (a' := ?_) (ba 33 268435455) rfl rfl (any_of HT_.out (by kernel_rfl)) (fun _ _ _ h => h) (Or.inl ⟨by rfl,?_⟩) ?_ ?_
     rotate_left
     · intro w'
       go_simp
       with_reducible rfl
     rotate_left
     · simp only [Act.put,NRM]
       rfl
     refine pure_ (i := 28) (N := some 95) (v := ?_) (a' := ?_) (ba 33 536870911) rfl rfl (any_of HT_.out (by kernel_rfl)) (fun _ _ _ h => h) (Or.inl ⟨by rfl,?_⟩) ?_ ?_
     rotate_left
     · intro w'
       go_simp
       with_reducible rfl
     rotate_left
     · simp only [Act.put,NRM]
       rfl
     refine pure_ (i := 29) (N := some 96) (v := ?_) (a' := ?_) (ba 33 1073741823) rfl rfl (any_of HT_.out (by kernel_rfl)) (fun _ _ _ h => h) (Or.inl ⟨by rfl,?_⟩) ?_ ?_
     rotate_left
     · intro w'
       go_simp
       with_reducible rfl
     rotate_left
     · simp only [Act.put,NRM]
       rfl
     refine one_ (i := 30) (N := some 97) (ba 33 2147483647) rfl rfl (one_of HT_.out (by kernel_rfl)) (by decide) (fun K hK => ?_)
     refine goes_ Tryz.func15 (by kernel_rfl) rfl #[] (by rfl) rfl rfl (by (try simp only [List.map_toArray,List.map_cons,List.map_nil]);first | done | rfl | (simp only [List.length_drop,List.length_take];rfl)) ?_
     with_reducible refine (l4_known.calls  t620 _ A70.out).mono ?_
     rintro e w91 ⟨rfl,hb⟩
     refine ⟨_,rfl,?_⟩
     replace HO_7 := am (Kd.R_below (by (with_reducible repeat (first | apply Kd.R_alloc | apply Kd.R_drewN | apply Kd.R_drew));exact HO_7.out) hb)
     replace HO613 := am (Kd.R_below (by (with_reducible repeat (first | apply Kd.R_alloc | apply Kd.R_drewN | apply Kd.R_drew));exact HO613.out) hb)
     replace BK593 := am (blk_below (g := gb593) (o := .cells #[.slice A0_0 l0_0.length c0_0,.int .i64 a0_1,.slice A0_2 l0_2.length c0_2,.int .i64 a0_3,.int .i64 a0_4] 27 (0,0)) (by (with_reducible repeat (first | refine blk_drewN ?_ _ | refine blk_drew ?_ | refine blk_alloc ?_ _));exact BK593.out) hb)
     replace BK594 := am (blk_below (g := gb594) (o := .cells #[.int .i64 a1_0,.int .i64 a1_1] 40 (0,0)) (by (with_reducible repeat (first | refine blk_drewN ?_ _ | refine blk_drew ?_ | refine blk_alloc ?_ _));exact BK594.out) hb)
     replace BK600 := am (blk_below (g := gb600) (o := .cells #[.int .i64 t597,.int .i64 t598] 40 (0,0)) (by (with_reducible repeat (first | refine blk_drewN ?_ _ | refine blk_drew ?_ | refine blk_alloc ?_ _));exact BK600.out) hb)
     replace BK607 := am (blk_below (g := gb607) (o := .cells #[.int .i64 t604,.int .i64 t605] 40 (0,0)) (by (with_reducible repeat (first | refine blk_drewN ?_ _ | refine blk_drew ?_ | refine blk_alloc ?_ _));exact BK607.out) hb)
     replace BK616 := am (blk_below (g := gb616) (o := .cells #[.int .i64 t614,.int .i64 t615] 40 (0,0)) (by (with_reducible repeat (first | refine blk_drewN ?_ _ | refine blk_drew ?_ | refine blk_alloc ?_ _));exact BK616.out) hb)
     replace HB := am (below_step (by repeat (first | (with_reducible first | exact HB.out | refine below_set ?_ (Aside0.out (by assumption)) | apply below_alloc | apply pw_below_drewN) | exact HB.out)) hb)
     (try clear hb)
     (try clear hb2)
     (try clear hk)
     (try clear hi)
     refine hK.out _ _ ⟨(blk_cell BK600.out 0).trans rfl,(blk_cell BK600.out 1).trans rfl,(blk_cell BK593.out 0).trans rfl,(blk_cell BK593.out 1).trans rfl,(blk_cell BK593.out 2).trans rfl,(blk_cell BK593.out 3).trans rfl,(blk_cell BK593.out 4).trans rfl,(blk_cell BK594.out 0).trans rfl,(blk_cell BK594.out 1).trans rfl,(blk_cell BK607.out 0).trans rfl,(blk_cell BK607.out 1).trans rfl,(blk_cell BK616.out 0).trans rfl,(blk_cell BK616.out 1).trans rfl⟩ (fun hHeld => ?_)
     clear hK K
     refine norm_ (a' := ?_) ?_ ?_
     rotate_left
     · show Act.put _ (some 97) _ = _
       simp only [Act.put,NRM]
       rfl
     refine pure_ (i := 31) (N := some 98) (v := ?_) (a' := ?_) (ba 33 4294967295) rfl rfl (any_of HT_.out (by kernel_rfl)) (fun _ _ _ h => h) (Or.inl ⟨by rfl,?_⟩) ?_ ?_
     rotate_left
     · intro w'
       go_simp
       with_reducible rfl
     rotate_left
     · simp only [Act.put,NRM]
       rfl
     refine pure_ (i := 32) (N := some 4) (v := ?_) (a' := ?_) (ba 33 8589934591) rfl rfl (any_of HT_.out (by kernel_rfl)) (fun _ _ _ h => h) (Or.inl ⟨by rfl,?_⟩) ?_ ?_
     rotate_left
     · intro w'
       go_simp
       with_reducible rfl
     rotate_left
     · simp only [Act.put,NRM]
       rfl
     refine done_ (done_of HT_.out (by kernel_rfl)) ?_
     try go_wp2
     go_ret
     exact ⟨by first | rfl | (simp [*] <;> rfl),by repeat (first | (with_reducible first | exact HB.out | refine below_set ?_ (Aside0.out (by assumption)) | apply below_alloc | apply pw_below_drewN) | exact HB.out)⟩
end
end Go.Proofs.YticlelgmmonloaaGreatDoor.C

/- A part of the proof: the walks of the functions that it reaches. TIGHT. -/
import Derived.Test.YticlelgmmonloaaGreatDoorLGains2
import Derived.Test.YticlelgmmonloaaGreatDoorLGains3
import Derived.Test.YticlelgmmonloaaGreatDoorM20
set_option linter.unusedVariables false
set_option linter.unusedSimpArgs false
namespace Go.Proofs.YticlelgmmonloaaGreatDoor.C
open Go.RowKit Go.Proofs.YticlelgmmonloaaGreatDoorW.PrintWords Go.Proofs.YticlelgmmonloaaGreatDoorW.PrintLast Go.Proofs.YticlelgmmonloaaGreatDoorW.PrintMore
set_option linter.unusedVariables false
set_option linter.unusedSimpArgs false
set_option maxHeartbeats 16000000
set_option maxRecDepth 100000
section
attribute [local go_sem] max2_int min2_int max_two min_two
def l4_CastleGains.j0 : Nat → Int → List Int → Int → Int → Bool → List (S126) → Int → List (S64) → Int → Int → Int → Int → Option (Bool)
 | 0,_,_,_,_,_,_,_,_,_,_,_,_ => none
 | k + 1,x2,x7,x8,x9,x37,x753000,x753001,x753002,x753003,x753004,x754000,x754001 => if x37 = true then (if x9 = 2 then (if (x7.length : Int) = 0 then (if x8 = 0 then ((l4_known.f).bind fun t764 => (some t764)) else (none)) else (none)) else (none)) else ((q4_Gains.f k x753000 x753001 x753002 x753003 x753004 x754000 x754001 x2).bind fun bt765 => (if x9 = 0 then ((q4_Same.f k x7 bt765.1).bind fun t769 => (if t769 = true then (if x8 = bt765.2 then ((l4_known.f).bind fun t770 => (some t770)) else (none)) else (none))) else (none)))
def l4_CastleGains.f (k : Nat) (l0_0 : List (S126)) (a0_1 : Int) (l0_2 : List (S64)) (a0_3 : Int) (a0_4 : Int) (a1_0 : Int) (a1_1 : Int) (a2 : Int) : Option (Bool) := (l4_short.f l0_0 a0_1 l0_2 a0_3 a0_4).bind fun t754 => (if t754 = true then ((ca_Gains.f k l0_0 a0_1 l0_2 a0_3 a0_4 a1_0 a1_1 a2).bind fun bt756 => ((q4_Basin.f k l0_0 a0_1 l0_2 a0_3 a0_4).bind fun t761 => (if t761 = true then ((q4_Change.f l0_0 a0_1 l0_2 a0_3 a0_4 a1_0 a1_1).bind fun t762 => (if t762 = true then ((q4_Cups.f a2).bind fun t763 => (l4_CastleGains.j0 k a2 bt756.1 bt756.2.1 bt756.2.2 (!t763) l0_0 a0_1 l0_2 a0_3 a0_4 a1_0 a1_1)) else (l4_CastleGains.j0 k a2 bt756.1 bt756.2.1 bt756.2.2 true l0_0 a0_1 l0_2 a0_3 a0_4 a1_0 a1_1))) else (l4_CastleGains.j0 k a2 bt756.1 bt756.2.1 bt756.2.2 true l0_0 a0_1 l0_2 a0_3 a0_4 a1_0 a1_1)))) else ((l4_known.f).bind fun t755 => (some t755)))
theorem l4_CastleGains.calls (k : Nat) (A0_0 : Option Addr) (c0_0 : Nat) (l0_0 : List (S126)) (a0_1 : Int) (A0_2 : Option Addr) (c0_2 : Nat) (l0_2 : List (S64)) (a0_3 : Int) (a0_4 : Int) (a1_0 : Int) (a1_1 : Int) (a2 : Int) (r : Bool) (w : World) (hr0_0 : Kd.C k126 w A0_0 l0_0.length l0_0) (hc0_0 : l0_0.length ≤ c0_0) (hr0_2 : Kd.C k64 w A0_2 l0_2.length l0_2) (hc0_2 : l0_2.length ≤ c0_2) (h : l4_CastleGains.f k l0_0 a0_1 l0_2 a0_3 a0_4 a1_0 a1_1 a2 = some r) :
 Calls Tryz.prog 9 #[.agg #[.slice A0_0 l0_0.length c0_0,.int .i64 a0_1,.slice A0_2 l0_2.length c0_2,.int .i64 a0_3,.int .i64 a0_4],.agg #[.int .i64 a1_0,.int .i64 a1_1],.int .i64 a2] w fun e w' => e = .returned (.bool r) ∧ Below w.heap.size w w' := by
 have hu27 := Tryz.underlying27
 have hu58 := Tryz.underlying58
 have HR0_0 := am hr0_0
 have HC0_0 := am hc0_0
 clear hr0_0 hc0_0
 have HR0_2 := am hr0_2
 have HC0_2 := am hc0_2
 clear hr0_2 hc0_2
 have HB := am (Below.refl w.heap.size w)
 have H : ((l4_short.f l0_0 a0_1 l0_2 a0_3 a0_4).bind fun t754 => (if t754 = true then ((ca_Gains.f k l0_0 a0_1 l0_2 a0_3 a0_4 a1_0 a1_1 a2).bind fun bt756 => ((q4_Basin.f k l0_0 a0_1 l0_2 a0_3 a0_4).bind fun t761 => (if t761 = true then ((q4_Change.f l0_0 a0_1 l0_2 a0_3 a0_4 a1_0 a1_1).bind fun t762 => (if t762 = true then ((q4_Cups.f a2).bind fun t763 => (l4_CastleGains.j0 k a2 bt756.1 bt756.2.1 bt756.2.2 (!t763) l0_0 a0_1 l0_2 a0_3 a0_4 a1_0 a1_1)) else (l4_CastleGains.j0 k a2 bt756.1 bt756.2.1 bt756.2.2 true l0_0 a0_1 l0_2 a0_3 a0_4 a1_0 a1_1))) else (l4_CastleGains.j0 k a2 bt756.1 bt756.2.1 bt756.2.2 true l0_0 a0_1 l0_2 a0_3 a0_4 a1_0 a1_1)))) else ((l4_known.f).bind fun t755 => (some t755)))) = some r := h
 clear h
 replace H := obm H
 obtain ⟨t754,A40,H⟩ := H
 replace H : (if t754 = true then ((ca_Gains.f k l0_0 a0_1 l0_2 a0_3 a0_4 a1_0 a1_1 a2).bind fun bt756 => ((q4_Basin.f k l0_0 a0_1 l0_2 a0_3 a0_4).bind fun t761 => (if t761 = true then ((q4_Change.f l0_0 a0_1 l0_2 a0_3 a0_4 a1_0 a1_1).bind fun t762 => (if t762 = true then ((q4_Cups.f a2).bind fun t763 => (l4_CastleGains.j0 k a2 bt756.1 bt756.2.1 bt756.2.2 (!t763) l0_0 a0_1 l0_2 a0_3 a0_4 a1_0 a1_1)) else (l4_CastleGains.j0 k a2 bt756.1 bt756.2.1 bt756.2.2 true l0_0 a0_1 l0_2 a0_3 a0_4 a1_0 a1_1))) else (l4_CastleGains.j0 k a2 bt756.1 bt756.2.1 bt756.2.2 true l0_0 a0_1 l0_2 a0_3 a0_4 a1_0 a1_1)))) else ((l4_known.f).bind fun t755 => (some t755))) = some r := H
 have A4 := am A40
 clear A40
 by_cases c5 : t754 = true
 case neg =>
  replace c5 := Bool.eq_false_iff.mpr c5
  subst c5
  replace H : ((l4_known.f).bind fun t755 => (some t755)) = some r := by rw [if_neg (show ¬ (false = true) by decide)] at H;exact H
  replace H := obm H
  obtain ⟨t755,A560,H⟩ := H
  replace H : (some t755) = some r := H
  have A56 := am A560
  clear A560
  obtain rfl := Option.some.inj H
  go_enter Tryz.func9,Tryz.ntmps9
  go_wp2_with (first | ((with_reducible refine gate_dst (N := 3) rfl ?_);(try (refine gate_guard (by rfl) ?_;dsimp only));refine box_event ?hg (N := 3) ?hd (cs := #[.slice A0_0 l0_0.length c0_0,.int .i64 a0_1,.slice A0_2 l0_2.length c0_2,.int .i64 a0_3,.int .i64 a0_4]) (t := 27) ?hr ?_;(case hd => rfl);(case hg => rfl);(case hr => go_simp;try rfl);intro gb752 hg w57 hbox hb;have BK752 := am (hbox);have GW752 := am (ge_new (by repeat (first | (with_reducible first | exact HB.out | apply below_alloc | apply pw_below_drewN) | exact HB.out)) hg);have GE752 := am (ge_new (by repeat (first | (with_reducible first | exact HB.out | apply below_alloc | apply pw_below_drewN) | exact HB.out)) hg);replace HB := am (below_step (by repeat (first | (with_reducible first | exact HB.out | apply below_alloc | apply pw_below_drewN) | exact HB.out)) hb);clear hb hbox hg) | ((with_reducible refine gate_dst (N := 4) rfl ?_);(try (refine gate_guard (by rfl) ?_;dsimp only));refine box_event ?hg (N := 4) ?hd (cs := #[.int .i64 a1_0,.int .i64 a1_1]) (t := 58) ?hr ?_;(case hd => rfl);(case hg => rfl);(case hr => go_simp;try rfl);intro gb753 hg w58 hbox hb;have BK753 := am (hbox);have GW753 := am (ge_new (by repeat (first | (with_reducible first | exact HB.out | refine below_set ?_ GE752.out | apply below_alloc | apply pw_below_drewN) | exact HB.out)) hg);have GE753 := am (ge_new (by repeat (first | (with_reducible first | exact HB.out | refine below_set ?_ GE752.out | apply below_alloc | apply pw_below_drewN) | exact HB.out)) hg);have NB752_753 := am ((by rw [hg];exact Nat.ne_of_lt (blk_lt (g := gb752) (o := .cells #[.slice A0_0 l0_0.length c0_0,.int .i64 a0_1,.slice A0_2 l0_2.length c0_2,.int .i64 a0_3,.int .i64 a0_4] 27 (0,0)) (by (with_reducible repeat (first | refine blk_drewN ?_ _ | refine blk_drew ?_ | refine blk_alloc ?_ _));exact BK752.out)) : gb752 ≠ gb753));have NB753_752 := am ((by rw [hg];exact Nat.ne_of_gt (blk_lt (g := gb752) (o := .cells #[.slice A0_0 l0_0.length c0_0,.int .i64 a0_1,.slice A0_2 l0_2.length c0_2,.int .i64 a0_3,.int .i64 a0_4] 27 (0,0)) (by (with_reducible repeat (first | refine blk_drewN ?_ _ | refine blk_drew ?_ | refine blk_alloc ?_ _));exact BK752.out)) : gb753 ≠ gb752));replace BK752 := am (blk_below (g := gb752) (o := .cells #[.slice A0_0 l0_0.length c0_0,.int .i64 a0_1,.slice A0_2 l0_2.length c0_2,.int .i64 a0_3,.int .i64 a0_4] 27 (0,0)) (by (with_reducible repeat (first | refine blk_drewN ?_ _ | refine blk_drew ?_ | refine blk_alloc ?_ _));exact BK752.out) hb);replace HB := am (below_step (by repeat (first | (with_reducible first | exact HB.out | refine below_set ?_ GE752.out | apply below_alloc | apply pw_below_drewN) | exact HB.out)) hb);clear hb hbox hg;have hnb59 := NB752_753.out;have hnc59 := NB753_752.out;obtain ⟨hcz60_0,hcz60_1,hcz60_2,hcz60_3,hcz60_4⟩ := cO5 BK752.out;have hfz60_0 := blk_frozen BK752.out 0;have hfz60_1 := blk_frozen BK752.out 1;have hfz60_2 := blk_frozen BK752.out 2;have hfz60_3 := blk_frozen BK752.out 3;have hfz60_4 := blk_frozen BK752.out 4) | ((with_reducible refine gate_callee (f := 14) rfl ?_);refine goesL_ (some 13) rfl rfl Tryz.func14 (by kernel_rfl) rfl #[.agg #[.slice A0_0 l0_0.length c0_0,.int .i64 a0_1,.slice A0_2 l0_2.length c0_2,.int .i64 a0_3,.int .i64 a0_4]] rfl (by (try simp only [List.map_toArray,List.map_cons,List.map_nil]);first | done | rfl | (simp only [List.length_drop,List.length_take];rfl)) ?_;(with_reducible refine (l4_short.calls _ _ l0_0 a0_1 _ _ l0_2 a0_3 a0_4 false _ ?side1 ?side2 ?side3 ?side4 A4.out).mono ?_);(case side1 => repeat (first | exact (kC HR0_0.out HB.out) | (with_reducible refine Kd.C_alloc ?_ _) | (with_reducible refine Kd.C_drewN ?_ _) | (with_reducible refine Kd.C_drew ?_)));(case side2 => exact HC0_0.out);(case side3 => repeat (first | exact (kC HR0_2.out HB.out) | (with_reducible refine Kd.C_alloc ?_ _) | (with_reducible refine Kd.C_drewN ?_ _) | (with_reducible refine Kd.C_drew ?_)));(case side4 => exact HC0_2.out);rintro e w61 ⟨rfl,hb⟩;refine ⟨_,rfl,?_⟩;replace BK752 := am (blk_below (g := gb752) (o := .cells #[.slice A0_0 l0_0.length c0_0,.int .i64 a0_1,.slice A0_2 l0_2.length c0_2,.int .i64 a0_3,.int .i64 a0_4] 27 (0,0)) (by (with_reducible repeat (first | refine blk_drewN ?_ _ | refine blk_drew ?_ | refine blk_alloc ?_ _));exact BK752.out) hb);replace BK753 := am (blk_below (g := gb753) (o := .cells #[.int .i64 a1_0,.int .i64 a1_1] 58 (0,0)) (by (with_reducible repeat (first | refine blk_drewN ?_ _ | refine blk_drew ?_ | refine blk_alloc ?_ _));exact BK753.out) hb);replace HB := am (below_step (by repeat (first | (with_reducible first | exact HB.out | refine below_set ?_ (Aside0.out (by assumption)) | apply below_alloc | apply pw_below_drewN) | exact HB.out)) hb);(try clear hb);(try clear hb2);(try clear hk);(try clear hi)) | ((with_reducible refine gate_callee (f := 15) rfl ?_);refine goesL_ (some 15) rfl rfl Tryz.func15 (by kernel_rfl) rfl #[] rfl (by (try simp only [List.map_toArray,List.map_cons,List.map_nil]);first | done | rfl | (simp only [List.length_drop,List.length_take];rfl)) ?_;(with_reducible refine (l4_known.calls  t755 _ A56.out).mono ?_);rintro e w62 ⟨rfl,hb⟩;refine ⟨_,rfl,?_⟩;replace BK752 := am (blk_below (g := gb752) (o := .cells #[.slice A0_0 l0_0.length c0_0,.int .i64 a0_1,.slice A0_2 l0_2.length c0_2,.int .i64 a0_3,.int .i64 a0_4] 27 (0,0)) (by (with_reducible repeat (first | refine blk_drewN ?_ _ | refine blk_drew ?_ | refine blk_alloc ?_ _));exact BK752.out) hb);replace BK753 := am (blk_below (g := gb753) (o := .cells #[.int .i64 a1_0,.int .i64 a1_1] 58 (0,0)) (by (with_reducible repeat (first | refine blk_drewN ?_ _ | refine blk_drew ?_ | refine blk_alloc ?_ _));exact BK753.out) hb);replace HB := am (below_step (by repeat (first | (with_reducible first | exact HB.out | refine below_set ?_ (Aside0.out (by assumption)) | apply below_alloc | apply pw_below_drewN) | exact HB.out)) hb);(try clear hb);(try clear hb2);(try clear hk);(try clear hi)))
  go_ret
  exact ⟨by first | rfl | (simp [*] <;> rfl),by repeat (first | (with_reducible first | exact HB.out | refine below_set ?_ (Aside0.out (by assumption)) | apply below_alloc | apply pw_below_drewN) | exact HB.out)⟩
 subst c5
 replace H : ((ca_Gains.f k l0_0 a0_1 l0_2 a0_3 a0_4 a1_0 a1_1 a2).bind fun bt756 => ((q4_Basin.f k l0_0 a0_1 l0_2 a0_3 a0_4).bind fun t761 => (if t761 = true then ((q4_Change.f l0_0 a0_1 l0_2 a0_3 a0_4 a1_0 a1_1).bind fun t762 => (if t762 = true then ((q4_Cups.f a2).bind fun t763 => (l4_CastleGains.j0 k a2 bt756.1 bt756.2.1 bt756.2.2 (!t763) l0_0 a0_1 l0_2 a0_3 a0_4 a1_0 a1_1)) else (l4_CastleGains.j0 k a2 bt756.1 bt756.2.1 bt756.2.2 true l0_0 a0_1 l0_2 a0_3 a0_4 a1_0 a1_1))) else (l4_CastleGains.j0 k a2 bt756.1 bt756.2.1 bt756.2.2 true l0_0 a0_1 l0_2 a0_3 a0_4 a1_0 a1_1)))) = some r := by rw [if_pos rfl] at H;exact H
 replace H := obm H
 obtain ⟨⟨t756,t759,t760⟩,A60,H⟩ := H
 replace H : ((q4_Basin.f k l0_0 a0_1 l0_2 a0_3 a0_4).bind fun t761 => (if t761 = true then ((q4_Change.f l0_0 a0_1 l0_2 a0_3 a0_4 a1_0 a1_1).bind fun t762 => (if t762 = true then ((q4_Cups.f a2).bind fun t763 => (l4_CastleGains.j0 k a2 t756 t759 t760 (!t763) l0_0 a0_1 l0_2 a0_3 a0_4 a1_0 a1_1)) else (l4_CastleGains.j0 k a2 t756 t759 t760 true l0_0 a0_1 l0_2 a0_3 a0_4 a1_0 a1_1))) else (l4_CastleGains.j0 k a2 t756 t759 t760 true l0_0 a0_1 l0_2 a0_3 a0_4 a1_0 a1_1))) = some r := H
 have A6 := am A60
 clear A60
 have HC7 := am H
 clear H
 go_enter Tryz.func9,Tryz.ntmps9
 go_upto_region 4 with (first | ((with_reducible refine gate_dst (N := 3) rfl ?_);(try (refine gate_guard (by rfl) ?_;dsimp only));refine box_event ?hg (N := 3) ?hd (cs := #[.slice A0_0 l0_0.length c0_0,.int .i64 a0_1,.slice A0_2 l0_2.length c0_2,.int .i64 a0_3,.int .i64 a0_4]) (t := 27) ?hr ?_;(case hd => rfl);(case hg => rfl);(case hr => go_simp;try rfl);intro gb752 hg w8 hbox hb;have BK752 := am (hbox);have GW752 := am (ge_new (by repeat (first | (with_reducible first | exact HB.out | apply below_alloc | apply pw_below_drewN) | exact HB.out)) hg);have GE752 := am (ge_new (by repeat (first | (with_reducible first | exact HB.out | apply below_alloc | apply pw_below_drewN) | exact HB.out)) hg);replace HB := am (below_step (by repeat (first | (with_reducible first | exact HB.out | apply below_alloc | apply pw_below_drewN) | exact HB.out)) hb);clear hb hbox hg) | ((with_reducible refine gate_dst (N := 4) rfl ?_);(try (refine gate_guard (by rfl) ?_;dsimp only));refine box_event ?hg (N := 4) ?hd (cs := #[.int .i64 a1_0,.int .i64 a1_1]) (t := 58) ?hr ?_;(case hd => rfl);(case hg => rfl);(case hr => go_simp;try rfl);intro gb753 hg w9 hbox hb;have BK753 := am (hbox);have GW753 := am (ge_new (by repeat (first | (with_reducible first | exact HB.out | refine below_set ?_ GE752.out | apply below_alloc | apply pw_below_drewN) | exact HB.out)) hg);have GE753 := am (ge_new (by repeat (first | (with_reducible first | exact HB.out | refine below_set ?_ GE752.out | apply below_alloc | apply pw_below_drewN) | exact HB.out)) hg);have NB752_753 := am ((by rw [hg];exact Nat.ne_of_lt (blk_lt (g := gb752) (o := .cells #[.slice A0_0 l0_0.length c0_0,.int .i64 a0_1,.slice A0_2 l0_2.length c0_2,.int .i64 a0_3,.int .i64 a0_4] 27 (0,0)) (by (with_reducible repeat (first | refine blk_drewN ?_ _ | refine blk_drew ?_ | refine blk_alloc ?_ _));exact BK752.out)) : gb752 ≠ gb753));have NB753_752 := am ((by rw [hg];exact Nat.ne_of_gt (blk_lt (g := gb752) (o := .cells #[.slice A0_0 l0_0.length c0_0,.int .i64 a0_1,.slice A0_2 l0_2.length c0_2,.int .i64 a0_3,.int .i64 a0_4] 27 (0,0)) (by (with_reducible repeat (first | refine blk_drewN ?_ _ | refine blk_drew ?_ | refine blk_alloc ?_ _));exact BK752.out)) : gb753 ≠ gb752));replace BK752 := am (blk_below (g := gb752) (o := .cells #[.slice A0_0 l0_0.length c0_0,.int .i64 a0_1,.slice A0_2 l0_2.length c0_2,.int .i64 a0_3,.int .i64 a0_4] 27 (0,0)) (by (with_reducible repeat (first | refine blk_drewN ?_ _ | refine blk_drew ?_ | refine blk_alloc ?_ _));exact BK752.out) hb);replace HB := am (below_step (by repeat (first | (with_reducible first | exact HB.out | refine below_set ?_ GE752.out | apply below_alloc | apply pw_below_drewN) | exact HB.out)) hb);clear hb hbox hg;have hnb10 := NB752_753.out;have hnc10 := NB753_752.out;obtain ⟨hcz11_0,hcz11_1,hcz11_2,hcz11_3,hcz11_4⟩ := cO5 BK752.out;have hfz11_0 := blk_frozen BK752.out 0;have hfz11_1 := blk_frozen BK752.out 1;have hfz11_2 := blk_frozen BK752.out 2;have hfz11_3 := blk_frozen BK752.out 3;have hfz11_4 := blk_frozen BK752.out 4) | ((with_reducible refine gate_callee (f := 14) rfl ?_);refine goesL_ (some 13) rfl rfl Tryz.func14 (by kernel_rfl) rfl #[.agg #[.slice A0_0 l0_0.length c0_0,.int .i64 a0_1,.slice A0_2 l0_2.length c0_2,.int .i64 a0_3,.int .i64 a0_4]] rfl (by (try simp only [List.map_toArray,List.map_cons,List.map_nil]);first | done | rfl | (simp only [List.length_drop,List.length_take];rfl)) ?_;(with_reducible refine (l4_short.calls _ _ l0_0 a0_1 _ _ l0_2 a0_3 a0_4 true _ ?side1 ?side2 ?side3 ?side4 A4.out).mono ?_);(case side1 => repeat (first | exact (kC HR0_0.out HB.out) | (with_reducible refine Kd.C_alloc ?_ _) | (with_reducible refine Kd.C_drewN ?_ _) | (with_reducible refine Kd.C_drew ?_)));(case side2 => exact HC0_0.out);(case side3 => repeat (first | exact (kC HR0_2.out HB.out) | (with_reducible refine Kd.C_alloc ?_ _) | (with_reducible refine Kd.C_drewN ?_ _) | (with_reducible refine Kd.C_drew ?_)));(case side4 => exact HC0_2.out);rintro e w12 ⟨rfl,hb⟩;refine ⟨_,rfl,?_⟩;replace BK752 := am (blk_below (g := gb752) (o := .cells #[.slice A0_0 l0_0.length c0_0,.int .i64 a0_1,.slice A0_2 l0_2.length c0_2,.int .i64 a0_3,.int .i64 a0_4] 27 (0,0)) (by (with_reducible repeat (first | refine blk_drewN ?_ _ | refine blk_drew ?_ | refine blk_alloc ?_ _));exact BK752.out) hb);replace BK753 := am (blk_below (g := gb753) (o := .cells #[.int .i64 a1_0,.int .i64 a1_1] 58 (0,0)) (by (with_reducible repeat (first | refine blk_drewN ?_ _ | refine blk_drew ?_ | refine blk_alloc ?_ _));exact BK753.out) hb);replace HB := am (below_step (by repeat (first | (with_reducible first | exact HB.out | refine below_set ?_ (Aside0.out (by assumption)) | apply below_alloc | apply pw_below_drewN) | exact HB.out)) hb);(try clear hb);(try clear hb2);(try clear hk);(try clear hi);obtain ⟨hcz13_0,hcz13_1,hcz13_2,hcz13_3,hcz13_4⟩ := cO5 BK752.out;have hfz13_0 := blk_frozen BK752.out 0;have hfz13_1 := blk_frozen BK752.out 1;have hfz13_2 := blk_frozen BK752.out 2;have hfz13_3 := blk_frozen BK752.out 3;have hfz13_4 := blk_frozen BK752.out 4;obtain ⟨hcz14_0,hcz14_1⟩ := cO2 BK753.out;have hfz14_0 := blk_frozen BK753.out 0;have hfz14_1 := blk_frozen BK753.out 1) | ((with_reducible refine gate_callee (f := 33) rfl ?_);refine goesL_ (some 20) rfl rfl Tryz.func33 (by kernel_rfl) rfl #[.agg #[.slice A0_0 l0_0.length c0_0,.int .i64 a0_1,.slice A0_2 l0_2.length c0_2,.int .i64 a0_3,.int .i64 a0_4],.agg #[.int .i64 a1_0,.int .i64 a1_1],.int .i64 a2] rfl (by (try simp only [List.map_toArray,List.map_cons,List.map_nil]);first | done | rfl | (simp only [List.length_drop,List.length_take];rfl)) ?_;(with_reducible refine (ca_Gains.calls k _ _ l0_0 a0_1 _ _ l0_2 a0_3 a0_4 a1_0 a1_1 a2 t756 t759 t760 _ ?side1 ?side2 ?side3 ?side4 A6.out).mono ?_);(case side1 => repeat (first | exact (kC HR0_0.out HB.out) | (with_reducible refine Kd.C_alloc ?_ _) | (with_reducible refine Kd.C_drewN ?_ _) | (with_reducible refine Kd.C_drew ?_)));(case side2 => exact HC0_0.out);(case side3 => repeat (first | exact (kC HR0_2.out HB.out) | (with_reducible refine Kd.C_alloc ?_ _) | (with_reducible refine Kd.C_drewN ?_ _) | (with_reducible refine Kd.C_drew ?_)));(case side4 => exact HC0_2.out);rintro e w15 ⟨v757,rfl,ho0,hb⟩;refine ⟨_,rfl,?_⟩;have HO758 := am (Kd.R_lower ho0 (below_size (by repeat (first | (with_reducible first | exact HB.out | refine below_set ?_ (Aside0.out (by assumption)) | apply below_alloc | apply pw_below_drewN) | exact HB.out))));replace BK752 := am (blk_below (g := gb752) (o := .cells #[.slice A0_0 l0_0.length c0_0,.int .i64 a0_1,.slice A0_2 l0_2.length c0_2,.int .i64 a0_3,.int .i64 a0_4] 27 (0,0)) (by (with_reducible repeat (first | refine blk_drewN ?_ _ | refine blk_drew ?_ | refine blk_alloc ?_ _));exact BK752.out) hb);replace BK753 := am (blk_below (g := gb753) (o := .cells #[.int .i64 a1_0,.int .i64 a1_1] 58 (0,0)) (by (with_reducible repeat (first | refine blk_drewN ?_ _ | refine blk_drew ?_ | refine blk_alloc ?_ _));exact BK753.out) hb);replace HB := am (below_step (by repeat (first | (with_reducible first | exact HB.out | refine below_set ?_ (Aside0.out (by assumption)) | apply below_alloc | apply pw_below_drewN) | exact HB.out)) hb);(try clear hb);(try clear hb2);(try clear hk);(try clear hi);(try clear ho0)))
 (try simp only [Act.put,List.setIfInBounds_toArray,List.set_cons_zero,List.set_cons_succ])
 go_cut [37] (fun v37 wc => ∃ (kq : Nat) (x37_6 : Bool),v37 = .bool x37_6 ∧ Aside0 (l4_CastleGains.j0 kq a2 t756 t759 t760 x37_6 l0_0 a0_1 l0_2 a0_3 a0_4 a1_0 a1_1 = some r) ∧ Aside0 (kq ≤ k) ∧ Aside0 (Kd.R (Kd.int .i64) 3 wc w.heap.size (fun _ => True) v757 t756) ∧ Aside0 (wc.heap[gb752]? = some (.cells #[(.slice A0_0 l0_0.length c0_0),.int .i64 a0_1,(.slice A0_2 l0_2.length c0_2),.int .i64 a0_3,.int .i64 a0_4] 27 (0,0))) ∧ Aside0 (wc.heap[gb753]? = some (.cells #[.int .i64 a1_0,.int .i64 a1_1] 58 (0,0))) ∧ Aside0 (Below w.heap.size w wc))
 case first =>
  have H := HC7.out
  clear HC7
  replace H := obm H
  obtain ⟨t761,A160,H⟩ := H
  replace H : (if t761 = true then ((q4_Change.f l0_0 a0_1 l0_2 a0_3 a0_4 a1_0 a1_1).bind fun t762 => (if t762 = true then ((q4_Cups.f a2).bind fun t763 => (l4_CastleGains.j0 k a2 t756 t759 t760 (!t763) l0_0 a0_1 l0_2 a0_3 a0_4 a1_0 a1_1)) else (l4_CastleGains.j0 k a2 t756 t759 t760 true l0_0 a0_1 l0_2 a0_3 a0_4 a1_0 a1_1))) else (l4_CastleGains.j0 k a2 t756 t759 t760 true l0_0 a0_1 l0_2 a0_3 a0_4 a1_0 a1_1)) = some r := H
  have A16 := am A160
  clear A160
  by_cases c17 : t761 = true
  case neg =>
   replace c17 := Bool.eq_false_iff.mpr c17
   subst c17
   replace H : (l4_CastleGains.j0 k a2 t756 t759 t760 true l0_0 a0_1 l0_2 a0_3 a0_4 a1_0 a1_1) = some r := by rw [if_neg (show ¬ (false = true) by decide)] at H;exact H
   replace H' := am H
   have hnb33 := NB752_753.out
   have hnc33 := NB753_752.out
   obtain ⟨hcz34_0,hcz34_1,hcz34_2,hcz34_3,hcz34_4⟩ := cO5 BK752.out
   have hfz34_0 := blk_frozen BK752.out 0
   have hfz34_1 := blk_frozen BK752.out 1
   have hfz34_2 := blk_frozen BK752.out 2
   have hfz34_3 := blk_frozen BK752.out 3
   have hfz34_4 := blk_frozen BK752.out 4
   go_wp2_with (first | ((with_reducible refine gate_callee (f := 17) rfl ?_);refine goesL_ (some 25) rfl rfl Tryz.func17 (by kernel_rfl) rfl #[.agg #[.slice A0_0 l0_0.length c0_0,.int .i64 a0_1,.slice A0_2 l0_2.length c0_2,.int .i64 a0_3,.int .i64 a0_4]] rfl (by (try simp only [List.map_toArray,List.map_cons,List.map_nil]);first | done | rfl | (simp only [List.length_drop,List.length_take];rfl)) ?_;(with_reducible refine (q4_Basin.calls k _ _ l0_0 a0_1 _ _ l0_2 a0_3 a0_4 false _ ?side1 ?side2 ?side3 ?side4 A16.out).mono ?_);(case side1 => repeat (first | exact (kC HR0_0.out HB.out) | (with_reducible refine Kd.C_alloc ?_ _) | (with_reducible refine Kd.C_drewN ?_ _) | (with_reducible refine Kd.C_drew ?_)));(case side2 => exact HC0_0.out);(case side3 => repeat (first | exact (kC HR0_2.out HB.out) | (with_reducible refine Kd.C_alloc ?_ _) | (with_reducible refine Kd.C_drewN ?_ _) | (with_reducible refine Kd.C_drew ?_)));(case side4 => exact HC0_2.out);rintro e w35 ⟨rfl,hb⟩;refine ⟨_,rfl,?_⟩;replace HO758 := am (Kd.R_below (by (with_reducible repeat (first | apply Kd.R_alloc | apply Kd.R_drewN | apply Kd.R_drew));exact HO758.out) hb);replace BK752 := am (blk_below (g := gb752) (o := .cells #[.slice A0_0 l0_0.length c0_0,.int .i64 a0_1,.slice A0_2 l0_2.length c0_2,.int .i64 a0_3,.int .i64 a0_4] 27 (0,0)) (by (with_reducible repeat (first | refine blk_drewN ?_ _ | refine blk_drew ?_ | refine blk_alloc ?_ _));exact BK752.out) hb);replace BK753 := am (blk_below (g := gb753) (o := .cells #[.int .i64 a1_0,.int .i64 a1_1] 58 (0,0)) (by (with_reducible repeat (first | refine blk_drewN ?_ _ | refine blk_drew ?_ | refine blk_alloc ?_ _));exact BK753.out) hb);replace HB := am (below_step (by repeat (first | (with_reducible first | exact HB.out | refine below_set ?_ (Aside0.out (by assumption)) | apply below_alloc | apply pw_below_drewN) | exact HB.out)) hb);(try clear hb);(try clear hb2);(try clear hk);(try clear hi)))
   go_meet
   case rel => exact ⟨_,(true),(by first | rfl | (simp;done) | (simp [*];done)),H',⟨by first | omega | exact Nat.le_refl _⟩,⟨by (with_reducible repeat (first | apply Kd.R_alloc | apply Kd.R_drewN | apply Kd.R_drew));exact HO758.out⟩,⟨by (with_reducible repeat (first | refine blk_drewN ?_ _ | refine blk_drew ?_ | refine blk_alloc ?_ _));exact BK752.out⟩,⟨by (with_reducible repeat (first | refine blk_drewN ?_ _ | refine blk_drew ?_ | refine blk_alloc ?_ _));exact BK753.out⟩,⟨by repeat (first | (with_reducible first | exact HB.out | refine below_set ?_ (Aside0.out (by assumption)) | apply below_alloc | apply pw_below_drewN) | exact HB.out)⟩⟩
  subst c17
  replace H : ((q4_Change.f l0_0 a0_1 l0_2 a0_3 a0_4 a1_0 a1_1).bind fun t762 => (if t762 = true then ((q4_Cups.f a2).bind fun t763 => (l4_CastleGains.j0 k a2 t756 t759 t760 (!t763) l0_0 a0_1 l0_2 a0_3 a0_4 a1_0 a1_1)) else (l4_CastleGains.j0 k a2 t756 t759 t760 true l0_0 a0_1 l0_2 a0_3 a0_4 a1_0 a1_1))) = some r := by rw [if_pos rfl] at H;exact H
  replace H := obm H
  obtain ⟨t762,A180,H⟩ := H
  replace H : (if t762 = true then ((q4_Cups.f a2).bind fun t763 => (l4_CastleGains.j0 k a2 t756 t759 t760 (!t763) l0_0 a0_1 l0_2 a0_3 a0_4 a1_0 a1_1)) else (l4_CastleGains.j0 k a2 t756 t759 t760 true l0_0 a0_1 l0_2 a0_3 a0_4 a1_0 a1_1)) = some r := H
  have A18 := am A180
  clear A180
  by_cases c19 : t762 = true
  case neg =>
   replace c19 := Bool.eq_false_iff.mpr c19
   subst c19
   replace H : (l4_CastleGains.j0 k a2 t756 t759 t760 true l0_0 a0_1 l0_2 a0_3 a0_4 a1_0 a1_1) = some r := by rw [if_neg (show ¬ (false = true) by decide)] at H;exact H
   replace H' := am H
   have hnb27 := NB752_753.out
   have hnc27 := NB753_752.out
   obtain ⟨hcz28_0,hcz28_1,hcz28_2,hcz28_3,hcz28_4⟩ := cO5 BK752.out
   have hfz28_0 := blk_frozen BK752.out 0
   have hfz28_1 := blk_frozen BK752.out 1
   have hfz28_2 := blk_frozen BK752.out 2
   have hfz28_3 := blk_frozen BK752.out 3
   have hfz28_4 := blk_frozen BK752.out 4
   go_wp2_with (first | ((with_reducible refine gate_callee (f := 17) rfl ?_);refine goesL_ (some 25) rfl rfl Tryz.func17 (by kernel_rfl) rfl #[.agg #[.slice A0_0 l0_0.length c0_0,.int .i64 a0_1,.slice A0_2 l0_2.length c0_2,.int .i64 a0_3,.int .i64 a0_4]] rfl (by (try simp only [List.map_toArray,List.map_cons,List.map_nil]);first | done | rfl | (simp only [List.length_drop,List.length_take];rfl)) ?_;(with_reducible refine (q4_Basin.calls k _ _ l0_0 a0_1 _ _ l0_2 a0_3 a0_4 true _ ?side1 ?side2 ?side3 ?side4 A16.out).mono ?_);(case side1 => repeat (first | exact (kC HR0_0.out HB.out) | (with_reducible refine Kd.C_alloc ?_ _) | (with_reducible refine Kd.C_drewN ?_ _) | (with_reducible refine Kd.C_drew ?_)));(case side2 => exact HC0_0.out);(case side3 => repeat (first | exact (kC HR0_2.out HB.out) | (with_reducible refine Kd.C_alloc ?_ _) | (with_reducible refine Kd.C_drewN ?_ _) | (with_reducible refine Kd.C_drew ?_)));(case side4 => exact HC0_2.out);rintro e w29 ⟨rfl,hb⟩;refine ⟨_,rfl,?_⟩;replace HO758 := am (Kd.R_below (by (with_reducible repeat (first | apply Kd.R_alloc | apply Kd.R_drewN | apply Kd.R_drew));exact HO758.out) hb);replace BK752 := am (blk_below (g := gb752) (o := .cells #[.slice A0_0 l0_0.length c0_0,.int .i64 a0_1,.slice A0_2 l0_2.length c0_2,.int .i64 a0_3,.int .i64 a0_4] 27 (0,0)) (by (with_reducible repeat (first | refine blk_drewN ?_ _ | refine blk_drew ?_ | refine blk_alloc ?_ _));exact BK752.out) hb);replace BK753 := am (blk_below (g := gb753) (o := .cells #[.int .i64 a1_0,.int .i64 a1_1] 58 (0,0)) (by (with_reducible repeat (first | refine blk_drewN ?_ _ | refine blk_drew ?_ | refine blk_alloc ?_ _));exact BK753.out) hb);replace HB := am (below_step (by repeat (first | (with_reducible first | exact HB.out | refine below_set ?_ (Aside0.out (by assumption)) | apply below_alloc | apply pw_below_drewN) | exact HB.out)) hb);(try clear hb);(try clear hb2);(try clear hk);(try clear hi);obtain ⟨hcz30_0,hcz30_1,hcz30_2,hcz30_3,hcz30_4⟩ := cO5 BK752.out;have hfz30_0 := blk_frozen BK752.out 0;have hfz30_1 := blk_frozen BK752.out 1;have hfz30_2 := blk_frozen BK752.out 2;have hfz30_3 := blk_frozen BK752.out 3;have hfz30_4 := blk_frozen BK752.out 4;obtain ⟨hcz31_0,hcz31_1⟩ := cO2 BK753.out;have hfz31_0 := blk_frozen BK753.out 0;have hfz31_1 := blk_frozen BK753.out 1) | (go_at_call 34;(with_reducible refine (q4_Change.calls _ _ l0_0 a0_1 _ _ l0_2 a0_3 a0_4 a1_0 a1_1 false _ ?side1 ?side2 ?side3 ?side4 A18.out).mono ?_);(case side1 => repeat (first | exact (kC HR0_0.out HB.out) | (with_reducible refine Kd.C_alloc ?_ _) | (with_reducible refine Kd.C_drewN ?_ _) | (with_reducible refine Kd.C_drew ?_)));(case side2 => exact HC0_0.out);(case side3 => repeat (first | exact (kC HR0_2.out HB.out) | (with_reducible refine Kd.C_alloc ?_ _) | (with_reducible refine Kd.C_drewN ?_ _) | (with_reducible refine Kd.C_drew ?_)));(case side4 => exact HC0_2.out);rintro e w32 ⟨rfl,hb⟩;replace HO758 := am (Kd.R_below (by (with_reducible repeat (first | apply Kd.R_alloc | apply Kd.R_drewN | apply Kd.R_drew));exact HO758.out) hb);replace BK752 := am (blk_below (g := gb752) (o := .cells #[.slice A0_0 l0_0.length c0_0,.int .i64 a0_1,.slice A0_2 l0_2.length c0_2,.int .i64 a0_3,.int .i64 a0_4] 27 (0,0)) (by (with_reducible repeat (first | refine blk_drewN ?_ _ | refine blk_drew ?_ | refine blk_alloc ?_ _));exact BK752.out) hb);replace BK753 := am (blk_below (g := gb753) (o := .cells #[.int .i64 a1_0,.int .i64 a1_1] 58 (0,0)) (by (with_reducible repeat (first | refine blk_drewN ?_ _ | refine blk_drew ?_ | refine blk_alloc ?_ _));exact BK753.out) hb);replace HB := am (below_step (by repeat (first | (with_reducible first | exact HB.out | refine below_set ?_ (Aside0.out (by assumption)) | apply below_alloc | apply pw_below_drewN) | exact HB.out)) hb);(try clear hb);(try clear hb2);(try clear hk);(try clear hi)))
   go_meet
   case rel => exact ⟨_,(true),(by first | rfl | (simp;done) | (simp [*];done)),H',⟨by first | omega | exact Nat.le_refl _⟩,⟨by (with_reducible repeat (first | apply Kd.R_alloc | apply Kd.R_drewN | apply Kd.R_drew));exact HO758.out⟩,⟨by (with_reducible repeat (first | refine blk_drewN ?_ _ | refine blk_drew ?_ | refine blk_alloc ?_ _));exact BK752.out⟩,⟨by (with_reducible repeat (first | refine blk_drewN ?_ _ | refine blk_drew ?_ | refine blk_alloc ?_ _));exact BK753.out⟩,⟨by repeat (first | (with_reducible first | exact HB.out | refine below_set ?_ (Aside0.out (by assumption)) | apply below_alloc | apply pw_below_drewN) | exact HB.out)⟩⟩
  subst c19
  replace H : ((q4_Cups.f a2).bind fun t763 => (l4_CastleGains.j0 k a2 t756 t759 t760 (!t763) l0_0 a0_1 l0_2 a0_3 a0_4 a1_0 a1_1)) = some r := by rw [if_pos rfl] at H;exact H
  replace H := obm H
  obtain ⟨t763,A200,H⟩ := H
  replace H : (l4_CastleGains.j0 k a2 t756 t759 t760 (!t763) l0_0 a0_1 l0_2 a0_3 a0_4 a1_0 a1_1) = some r := H
  have A20 := am A200
  clear A200
  replace H' := am H
  have hnb21 := NB752_753.out
  have hnc21 := NB753_752.out
  obtain ⟨hcz22_0,hcz22_1,hcz22_2,hcz22_3,hcz22_4⟩ := cO5 BK752.out
  have hfz22_0 := blk_frozen BK752.out 0
  have hfz22_1 := blk_frozen BK752.out 1
  have hfz22_2 := blk_frozen BK752.out 2
  have hfz22_3 := blk_frozen BK752.out 3
  have hfz22_4 := blk_frozen BK752.out 4
  go_wp2_with (first | ((with_reducible refine gate_callee (f := 17) rfl ?_);refine goesL_ (some 25) rfl rfl Tryz.func17 (by kernel_rfl) rfl #[.agg #[.slice A0_0 l0_0.length c0_0,.int .i64 a0_1,.slice A0_2 l0_2.length c0_2,.int .i64 a0_3,.int .i64 a0_4]] rfl (by (try simp only [List.map_toArray,List.map_cons,List.map_nil]);first | done | rfl | (simp only [List.length_drop,List.length_take];rfl)) ?_;(with_reducible refine (q4_Basin.calls k _ _ l0_0 a0_1 _ _ l0_2 a0_3 a0_4 true _ ?side1 ?side2 ?side3 ?side4 A16.out).mono ?_);(case side1 => repeat (first | exact (kC HR0_0.out HB.out) | (with_reducible refine Kd.C_alloc ?_ _) | (with_reducible refine Kd.C_drewN ?_ _) | (with_reducible refine Kd.C_drew ?_)));(case side2 => exact HC0_0.out);(case side3 => repeat (first | exact (kC HR0_2.out HB.out) | (with_reducible refine Kd.C_alloc ?_ _) | (with_reducible refine Kd.C_drewN ?_ _) | (with_reducible refine Kd.C_drew ?_)));(case side4 => exact HC0_2.out);rintro e w23 ⟨rfl,hb⟩;refine ⟨_,rfl,?_⟩;replace HO758 := am (Kd.R_below (by (with_reducible repeat (first | apply Kd.R_alloc | apply Kd.R_drewN | apply Kd.R_drew));exact HO758.out) hb);replace BK752 := am (blk_below (g := gb752) (o := .cells #[.slice A0_0 l0_0.length c0_0,.int .i64 a0_1,.slice A0_2 l0_2.length c0_2,.int .i64 a0_3,.int .i64 a0_4] 27 (0,0)) (by (with_reducible repeat (first | refine blk_drewN ?_ _ | refine blk_drew ?_ | refine blk_alloc ?_ _));exact BK752.out) hb);replace BK753 := am (blk_below (g := gb753) (o := .cells #[.int .i64 a1_0,.int .i64 a1_1] 58 (0,0)) (by (with_reducible repeat (first | refine blk_drewN ?_ _ | refine blk_drew ?_ | refine blk_alloc ?_ _));exact BK753.out) hb);replace HB := am (below_step (by repeat (first | (with_reducible first | exact HB.out | refine below_set ?_ (Aside0.out (by assumption)) | apply below_alloc | apply pw_below_drewN) | exact HB.out)) hb);(try clear hb);(try clear hb2);(try clear hk);(try clear hi);obtain ⟨hcz24_0,hcz24_1,hcz24_2,hcz24_3,hcz24_4⟩ := cO5 BK752.out;have hfz24_0 := blk_frozen BK752.out 0;have hfz24_1 := blk_frozen BK752.out 1;have hfz24_2 := blk_frozen BK752.out 2;have hfz24_3 := blk_frozen BK752.out 3;have hfz24_4 := blk_frozen BK752.out 4;obtain ⟨hcz25_0,hcz25_1⟩ := cO2 BK753.out;have hfz25_0 := blk_frozen BK753.out 0;have hfz25_1 := blk_frozen BK753.out 1) | (go_at_call 34;(with_reducible refine (q4_Change.calls _ _ l0_0 a0_1 _ _ l0_2 a0_3 a0_4 a1_0 a1_1 true _ ?side1 ?side2 ?side3 ?side4 A18.out).mono ?_);(case side1 => repeat (first | exact (kC HR0_0.out HB.out) | (with_reducible refine Kd.C_alloc ?_ _) | (with_reducible refine Kd.C_drewN ?_ _) | (with_reducible refine Kd.C_drew ?_)));(case side2 => exact HC0_0.out);(case side3 => repeat (first | exact (kC HR0_2.out HB.out) | (with_reducible refine Kd.C_alloc ?_ _) | (with_reducible refine Kd.C_drewN ?_ _) | (with_reducible refine Kd.C_drew ?_)));(case side4 => exact HC0_2.out);rintro e w26 ⟨rfl,hb⟩;replace HO758 := am (Kd.R_below (by (with_reducible repeat (first | apply Kd.R_alloc | apply Kd.R_drewN | apply Kd.R_drew));exact HO758.out) hb);replace BK752 := am (blk_below (g := gb752) (o := .cells #[.slice A0_0 l0_0.length c0_0,.int .i64 a0_1,.slice A0_2 l0_2.length c0_2,.int .i64 a0_3,.int .i64 a0_4] 27 (0,0)) (by (with_reducible repeat (first | refine blk_drewN ?_ _ | refine blk_drew ?_ | refine blk_alloc ?_ _));exact BK752.out) hb);replace BK753 := am (blk_below (g := gb753) (o := .cells #[.int .i64 a1_0,.int .i64 a1_1] 58 (0,0)) (by (with_reducible repeat (first | refine blk_drewN ?_ _ | refine blk_drew ?_ | refine blk_alloc ?_ _));exact BK753.out) hb);replace HB := am (below_step (by repeat (first | (with_reducible first | exact HB.out | refine below_set ?_ (Aside0.out (by assumption)) | apply below_alloc | apply pw_below_drewN) | exact HB.out)) hb);(try clear hb);(try clear hb2);(try clear hk);(try clear hi)) | (go_at_call 18;(with_reducible refine (q4_Cups.calls a2 t763 _ A20.out).mono ?_);rintro e w' ⟨rfl,⟨nd,rfl⟩⟩))
  go_meet
  case rel => exact ⟨_,(!t763),(by first | rfl | (simp;done) | (simp [*];done)),H',⟨by first | omega | exact Nat.le_refl _⟩,⟨by (with_reducible repeat (first | apply Kd.R_alloc | apply Kd.R_drewN | apply Kd.R_drew));exact HO758.out⟩,⟨by (with_reducible repeat (first | refine blk_drewN ?_ _ | refine blk_drew ?_ | refine blk_alloc ?_ _));exact BK752.out⟩,⟨by (with_reducible repeat (first | refine blk_drewN ?_ _ | refine blk_drew ?_ | refine blk_alloc ?_ _));exact BK753.out⟩,⟨by repeat (first | (with_reducible first | exact HB.out | refine below_set ?_ (Aside0.out (by assumption)) | apply below_alloc | apply pw_below_drewN) | exact HB.out)⟩⟩
 case rest =>
  clear HC7
  try clear c1
  try clear c2
  try clear p2
  try clear c3
  try clear c5
  try clear c9
  try clear c10
  try clear c14
  try clear c17
  try clear c19
  try clear c21
  try clear c27
  try clear c33
  try clear hcz11_0
  try clear hcz11_1
  try clear hcz11_2
  try clear hcz11_3
  try clear hcz11_4
  try clear hcz13_0
  try clear hcz13_1
  try clear hcz13_2
  try clear hcz13_3
  try clear hcz13_4
  try clear hcz14_0
  try clear hcz14_1
  try clear hcz22_0
  try clear hcz22_1
  try clear hcz22_2
  try clear hcz22_3
  try clear hcz22_4
  try clear hcz24_0
  try clear hcz24_1
  try clear hcz24_2
  try clear hcz24_3
  try clear hcz24_4
  try clear hcz25_0
  try clear hcz25_1
  try clear hcz28_0
  try clear hcz28_1
  try clear hcz28_2
  try clear hcz28_3
  try clear hcz28_4
  try clear hcz30_0
  try clear hcz30_1
  try clear hcz30_2
  try clear hcz30_3
  try clear hcz30_4
  try clear hcz31_0
  try clear hcz31_1
  try clear hcz34_0
  try clear hcz34_1
  try clear hcz34_2
  try clear hcz34_3
  try clear hcz34_4
  try clear hfz11_0
  try clear hfz11_1
  try clear hfz11_2
  try clear hfz11_3
  try clear hfz11_4
  try clear hfz13_0
  try clear hfz13_1
  try clear hfz13_2
  try clear hfz13_3
  try clear hfz13_4
  try clear hfz14_0
  try clear hfz14_1
  try clear hfz22_0
  try clear hfz22_1
  try clear hfz22_2
  try clear hfz22_3
  try clear hfz22_4
  try clear hfz24_0
  try clear hfz24_1
  try clear hfz24_2
  try clear hfz24_3
  try clear hfz24_4
  try clear hfz25_0
  try clear hfz25_1
  try clear hfz28_0
  try clear hfz28_1
  try clear hfz28_2
  try clear hfz28_3
  try clear hfz28_4
  try clear hfz30_0
  try clear hfz30_1
  try clear hfz30_2
  try clear hfz30_3
  try clear hfz30_4
  try clear hfz31_0
  try clear hfz31_1
  try clear hfz34_0
  try clear hfz34_1
  try clear hfz34_2
  try clear hfz34_3
  try clear hfz34_4
  obtain ⟨kq,x37_6,rfl,HA,HJ6,HO_7,BK752,BK753,HB⟩ := hcut
  cases kq with
  | zero => exact absurd HA.out (by simp [l4_CastleGains.j0])
  | succ kj6 =>
   have H := HA.out
   clear HA
   simp only [l4_CastleGains.j0] at H
   by_cases c36 : x37_6 = true
   · subst c36
     replace H : (if t760 = 2 then (if (t756.length : Int) = 0 then (if t759 = 0 then ((l4_known.f).bind fun t764 => (some t764)) else (none)) else (none)) else (none)) = some r := by rw [if_pos rfl] at H;exact H
     by_cases c37 : t760 = 2
     case neg =>
      rw [if_neg c37] at H
      exact absurd H (by simp)
     rw [if_pos c37] at H
     have c37b0 : (t760 == 2) = true := beq_iff_eq.mpr c37
     have c37b1 : (t760 != 2) = false := bne_eq_false_iff_eq.mpr c37
     clear c37
     by_cases c38 : (t756.length : Int) = 0
     case neg =>
      rw [if_neg c38] at H
      exact absurd H (by simp)
     rw [if_pos c38] at H
     have c38b0 : ((t756.length : Int) == 0) = true := beq_iff_eq.mpr c38
     have c38b1 : ((t756.length : Int) != 0) = false := bne_eq_false_iff_eq.mpr c38
     clear c38
     by_cases c39 : t759 = 0
     case neg =>
      rw [if_neg c39] at H
      exact absurd H (by simp)
     rw [if_pos c39] at H
     have c39b0 : (t759 == 0) = true := beq_iff_eq.mpr c39
     have c39b1 : (t759 != 0) = false := bne_eq_false_iff_eq.mpr c39
     clear c39
     replace H := obm H
     obtain ⟨t764,A400,H⟩ := H
     replace H : (some t764) = some r := H
     have A40 := am A400
     clear A400
     obtain rfl := Option.some.inj H
     obtain ⟨Ao41,co41,eo41⟩ := Kd.R_slice HO_7.out
     subst eo41
     go_wp2_with (first | (go_at_call 15;(with_reducible refine (l4_known.calls  t764 _ A40.out).mono ?_);rintro e w42 ⟨rfl,hb⟩;replace HO_7 := am (Kd.R_below (by (with_reducible repeat (first | apply Kd.R_alloc | apply Kd.R_drewN | apply Kd.R_drew));exact HO_7.out) hb);replace BK752 := am (blk_below (g := gb752) (o := .cells #[.slice A0_0 l0_0.length c0_0,.int .i64 a0_1,.slice A0_2 l0_2.length c0_2,.int .i64 a0_3,.int .i64 a0_4] 27 (0,0)) (by (with_reducible repeat (first | refine blk_drewN ?_ _ | refine blk_drew ?_ | refine blk_alloc ?_ _));exact BK752.out) hb);replace BK753 := am (blk_below (g := gb753) (o := .cells #[.int .i64 a1_0,.int .i64 a1_1] 58 (0,0)) (by (with_reducible repeat (first | refine blk_drewN ?_ _ | refine blk_drew ?_ | refine blk_alloc ?_ _));exact BK753.out) hb);replace HB := am (below_step (by repeat (first | (with_reducible first | exact HB.out | refine below_set ?_ (Aside0.out (by assumption)) | apply below_alloc | apply pw_below_drewN) | exact HB.out)) hb);(try clear hb);(try clear hb2);(try clear hk);(try clear hi)))
     go_ret
     exact ⟨by first | rfl | (simp [*] <;> rfl),by repeat (first | (with_reducible first | exact HB.out | refine below_set ?_ (Aside0.out (by assumption)) | apply below_alloc | apply pw_below_drewN) | exact HB.out)⟩
   · replace c36 := Bool.eq_false_iff.mpr c36
     subst c36
     replace H : ((q4_Gains.f kj6 l0_0 a0_1 l0_2 a0_3 a0_4 a1_0 a1_1 a2).bind fun bt765 => (if t760 = 0 then ((q4_Same.f kj6 t756 bt765.1).bind fun t769 => (if t769 = true then (if t759 = bt765.2 then ((l4_known.f).bind fun t770 => (some t770)) else (none)) else (none))) else (none))) = some r := by rw [if_neg (show ¬ (false = true) by decide)] at H;exact H
     replace H := obm H
     obtain ⟨⟨t765,t768⟩,A430,H⟩ := H
     replace H : (if t760 = 0 then ((q4_Same.f kj6 t756 t765).bind fun t769 => (if t769 = true then (if t759 = t768 then ((l4_known.f).bind fun t770 => (some t770)) else (none)) else (none))) else (none)) = some r := H
     have A43 := am A430
     clear A430
     by_cases c44 : t760 = 0
     case neg =>
      rw [if_neg c44] at H
      exact absurd H (by simp)
     rw [if_pos c44] at H
     have c44b0 : (t760 == 0) = true := beq_iff_eq.mpr c44
     have c44b1 : (t760 != 0) = false := bne_eq_false_iff_eq.mpr c44
     clear c44
     replace H := obm H
     obtain ⟨t769,A450,H⟩ := H
     replace H : (if t769 = true then (if t759 = t768 then ((l4_known.f).bind fun t770 => (some t770)) else (none)) else (none)) = some r := H
     have A45 := am A450
     clear A450
     by_cases c46 : t769 = true
     case neg =>
      replace c46 := Bool.eq_false_iff.mpr c46
      subst c46
      replace H : (none) = some r := by rw [if_neg (show ¬ (false = true) by decide)] at H;exact H
      exact absurd H (by simp)
     subst c46
     replace H : (if t759 = t768 then ((l4_known.f).bind fun t770 => (some t770)) else (none)) = some r := by rw [if_pos rfl] at H;exact H
     by_cases c47 : t759 = t768
     case neg =>
      rw [if_neg c47] at H
      exact absurd H (by simp)
     rw [if_pos c47] at H
     have c47b0 : (t759 == t768) = true := beq_iff_eq.mpr c47
     have c47b1 : (t759 != t768) = false := bne_eq_false_iff_eq.mpr c47
     clear c47
     replace H := obm H
     obtain ⟨t770,A480,H⟩ := H
     replace H : (some t770) = some r := H
     have A48 := am A480
     clear A480
     obtain rfl := Option.some.inj H
     have hnb49 := NB752_753.out
     have hnc49 := NB753_752.out
     obtain ⟨hcz50_0,hcz50_1,hcz50_2,hcz50_3,hcz50_4⟩ := cO5 BK752.out
     have hfz50_0 := blk_frozen BK752.out 0
     have hfz50_1 := blk_frozen BK752.out 1
     have hfz50_2 := blk_frozen BK752.out 2
     have hfz50_3 := blk_frozen BK752.out 3
     have hfz50_4 := blk_frozen BK752.out 4
     obtain ⟨hcz51_0,hcz51_1⟩ := cO2 BK753.out
     have hfz51_0 := blk_frozen BK753.out 0
     have hfz51_1 := blk_frozen BK753.out 1
     go_wp2_with (first | ((with_reducible refine gate_callee (f := 35) rfl ?_);refine goesL_ (some 56) rfl rfl Tryz.func35 (by kernel_rfl) rfl #[.agg #[.slice A0_0 l0_0.length c0_0,.int .i64 a0_1,.slice A0_2 l0_2.length c0_2,.int .i64 a0_3,.int .i64 a0_4],.agg #[.int .i64 a1_0,.int .i64 a1_1],.int .i64 a2] rfl (by (try simp only [List.map_toArray,List.map_cons,List.map_nil]);first | done | rfl | (simp only [List.length_drop,List.length_take];rfl)) ?_;(with_reducible refine (q4_Gains.calls kj6 _ _ l0_0 a0_1 _ _ l0_2 a0_3 a0_4 a1_0 a1_1 a2 t765 t768 _ ?side1 ?side2 ?side3 ?side4 A43.out).mono ?_);(case side1 => repeat (first | exact (kC HR0_0.out HB.out) | (with_reducible refine Kd.C_alloc ?_ _) | (with_reducible refine Kd.C_drewN ?_ _) | (with_reducible refine Kd.C_drew ?_)));(case side2 => exact HC0_0.out);(case side3 => repeat (first | exact (kC HR0_2.out HB.out) | (with_reducible refine Kd.C_alloc ?_ _) | (with_reducible refine Kd.C_drewN ?_ _) | (with_reducible refine Kd.C_drew ?_)));(case side4 => exact HC0_2.out);rintro e w52 ⟨v766,rfl,ho0,hb⟩;refine ⟨_,rfl,?_⟩;have HO767 := am (Kd.R_lower (Kd.R_new' ho0 (Kd.R_lt (by (with_reducible repeat (first | apply Kd.R_alloc | apply Kd.R_drewN | apply Kd.R_drew));exact HO_7.out))) (below_size (by repeat (first | (with_reducible first | exact HB.out | refine below_set ?_ (Aside0.out (by assumption)) | apply below_alloc | apply pw_below_drewN) | exact HB.out))));replace HO_7 := am (Kd.R_elder' (by (with_reducible repeat (first | apply Kd.R_alloc | apply Kd.R_drewN | apply Kd.R_drew));exact HO_7.out) (Kd.R_base ho0) hb);replace BK752 := am (blk_below (g := gb752) (o := .cells #[.slice A0_0 l0_0.length c0_0,.int .i64 a0_1,.slice A0_2 l0_2.length c0_2,.int .i64 a0_3,.int .i64 a0_4] 27 (0,0)) (by (with_reducible repeat (first | refine blk_drewN ?_ _ | refine blk_drew ?_ | refine blk_alloc ?_ _));exact BK752.out) hb);replace BK753 := am (blk_below (g := gb753) (o := .cells #[.int .i64 a1_0,.int .i64 a1_1] 58 (0,0)) (by (with_reducible repeat (first | refine blk_drewN ?_ _ | refine blk_drew ?_ | refine blk_alloc ?_ _));exact BK753.out) hb);replace HB := am (below_step (by repeat (first | (with_reducible first | exact HB.out | refine below_set ?_ (Aside0.out (by assumption)) | apply below_alloc | apply pw_below_drewN) | exact HB.out)) hb);(try clear hb);(try clear hb2);(try clear hk);(try clear hi);(try clear ho0);obtain ⟨Ao53,co53,eo53⟩ := Kd.R_slice HO_7.out;subst eo53;obtain ⟨Ao54,co54,eo54⟩ := Kd.R_slice HO767.out;subst eo54) | (go_at_call 20;(with_reducible refine (q4_Same.calls kj6 _ _ t756 _ _ t765 true _ ?side1 ?side2 ?side3 ?side4 A45.out).mono ?_);(case side1 => repeat (first | exact (Kd.R_reads' HO_7.out).2.2 | (with_reducible refine Kd.C_alloc ?_ _) | (with_reducible refine Kd.C_drewN ?_ _) | (with_reducible refine Kd.C_drew ?_)));(case side2 => exact (Kd.R_reads' HO_7.out).2.1);(case side3 => repeat (first | exact (Kd.R_reads' HO767.out).2.2 | (with_reducible refine Kd.C_alloc ?_ _) | (with_reducible refine Kd.C_drewN ?_ _) | (with_reducible refine Kd.C_drew ?_)));(case side4 => exact (Kd.R_reads' HO767.out).2.1);rintro e w' ⟨rfl,⟨nd,rfl⟩⟩) | (go_at_call 15;(with_reducible refine (l4_known.calls  t770 _ A48.out).mono ?_);rintro e w55 ⟨rfl,hb⟩;replace HO_7 := am (Kd.R_below (by (with_reducible repeat (first | apply Kd.R_alloc | apply Kd.R_drewN | apply Kd.R_drew));exact HO_7.out) hb);replace HO767 := am (Kd.R_below (by (with_reducible repeat (first | apply Kd.R_alloc | apply Kd.R_drewN | apply Kd.R_drew));exact HO767.out) hb);replace BK752 := am (blk_below (g := gb752) (o := .cells #[.slice A0_0 l0_0.length c0_0,.int .i64 a0_1,.slice A0_2 l0_2.length c0_2,.int .i64 a0_3,.int .i64 a0_4] 27 (0,0)) (by (with_reducible repeat (first | refine blk_drewN ?_ _ | refine blk_drew ?_ | refine blk_alloc ?_ _));exact BK752.out) hb);replace BK753 := am (blk_below (g := gb753) (o := .cells #[.int .i64 a1_0,.int .i64 a1_1] 58 (0,0)) (by (with_reducible repeat (first | refine blk_drewN ?_ _ | refine blk_drew ?_ | refine blk_alloc ?_ _));exact BK753.out) hb);replace HB := am (below_step (by repeat (first | (with_reducible first | exact HB.out | refine below_set ?_ (Aside0.out (by assumption)) | apply below_alloc | apply pw_below_drewN) | exact HB.out)) hb);(try clear hb);(try clear hb2);(try clear hk);(try clear hi)))
     go_ret
     exact ⟨by first | rfl | (simp [*] <;> rfl),by repeat (first | (with_reducible first | exact HB.out | refine below_set ?_ (Aside0.out (by assumption)) | apply below_alloc | apply pw_below_drewN) | exact HB.out)⟩
end
def chgH (noz : List S64) (n h : Int) : List S64 := noz.set n.toNat (⟨(rd_T64 noz n).f0,h⟩ : S64)
def okC (noz : List S64) (n h : Int) : Bool := decide (0 ≤ n ∧ n ≤ (noz.length : Int) - 1) && decide (0 ≤ h ∧ h ≤ 40)
theorem okC_iff {noz : List S64} {n h : Int} : okC noz n h = true ↔ (0 ≤ n ∧ n ≤ (noz.length : Int) - 1) ∧ 0 ≤ h ∧ h ≤ 40 := by
 unfold okC;simp only [Bool.and_eq_true,decide_eq_true_eq]
def diffL (x y : List Int) : List Int := List.zipWith (fun a b => a - b) x y
theorem diff_drop {X Y : List Int} {i : Int} (hl : X.length = Y.length) (h0 : 0 ≤ i) (h1 : i < X.length) : diffL (X.drop i.toNat) (Y.drop i.toNat) = (rd X i - rd Y i) :: diffL (X.drop (i.toNat + 1)) (Y.drop (i.toNat + 1)) := by
 have hi : i.toNat < X.length := by omega
 have hj : i.toNat < Y.length := by omega
 have e1 : X.drop i.toNat = rd X i :: X.drop (i.toNat + 1) := by rw [List.drop_eq_getElem_cons hi];simp [rd,hi]
 have e2 : Y.drop i.toNat = rd Y i :: Y.drop (i.toNat + 1) := by rw [List.drop_eq_getElem_cons hj];simp [rd,hj]
 rw [e1,e2];rfl
theorem rd_in {X : List Int} {i : Int} (hX : ∀ x ∈ X,0 ≤ x ∧ x ≤ 1000) (h0 : 0 ≤ i) (h1 : i < X.length) : 0 ≤ rd X i ∧ rd X i ≤ 1000 := by
 have hi : i.toNat < X.length := by omega
 have : rd X i = X[i.toNat] := by simp [rd,hi]
 rw [this];exact hX _ (List.getElem_mem _)
theorem cg_go {a b : Int} : ∀ (l w P Q : List Int) (k : Nat),l.length = w.length → P.length = Q.length → P.length + l.length ≤ 100 → (∀ x ∈ l,0 ≤ x ∧ x ≤ 1000) → (∀ x ∈ w,0 ≤ x ∧ x ≤ 1000) → l.length < k →
 ca_Gains.l0 k (Q ++ w) a (P ++ l) b ((P ++ l).length : Int) (P.length : Int) = some (P ++ diffL l w,wrap64 (b - a),0)
 | [],w,P,Q,k,h,hPQ,hl,h1,h2,hk => by
  obtain ⟨k,rfl⟩ := ksucc (by omega : 0 < k)
  simp only [ca_Gains.l0,List.append_nil]
  rw [if_neg (by omega)]
  simp [diffL]
 | x :: l,[],P,Q,k,h,hPQ,hl,h1,h2,hk => by simp at h
 | x :: l,y :: w,P,Q,k,h,hPQ,hl,h1,h2,hk => by
  obtain ⟨k,rfl⟩ := ksucc (by omega : 0 < k)
  simp only [List.length_cons] at hl hk h
  have hx := h1 x (by simp)
  have hy := h2 y (by simp)
  simp only [ca_Gains.l0]
  have e : rd (Q ++ y :: w) (P.length : Int) = y := by rw [hPQ];exact rd_app Q y w
  rw [if_pos (by rw [List.length_append,List.length_cons];omega),if_pos (by omega),if_pos (by rw [List.length_append,List.length_cons];omega),if_pos (by rw [List.length_append,List.length_cons];omega),rd_app,e,w64 (n := x - y) (by omega),w64 (n := (P.length : Int) + 1) (by omega),set_app]
  have ih := cg_go (a := a) (b := b) l w (P ++ [x - y]) (Q ++ [y]) k (by omega) (by simp [hPQ]) (by simp;omega) (fun z hz => h1 z (by simp [hz])) (fun z hz => h2 z (by simp [hz])) (by omega)
  have e2 : Q ++ y :: w = Q ++ [y] ++ w := by simp
  have e3 : ((P ++ x :: l).length : Int) = ((P ++ [x - y] ++ l).length : Int) := by simp
  rw [e2,e3,show (P.length : Int) + 1 = ((P ++ [x - y]).length : Int) by simp,ih]
  simp [diffL]
theorem rg_go (X Y : List Int) (a b : Int) (hl : X.length = Y.length) (hb : X.length ≤ 100) (hX : ∀ x ∈ X,0 ≤ x ∧ x ≤ 1000) (hY : ∀ x ∈ Y,0 ≤ x ∧ x ≤ 1000) : ∀ (d k : Nat) (i : Int) (out : List Int),0 ≤ i → i + d = X.length → d < k → out.length + d ≤ 1000 →
 q4_Gains.l0 k X a Y b out i = some (out ++ diffL (X.drop i.toNat) (Y.drop i.toNat),wrap64 (a - b))
 | 0,k,i,out,h0,h1,hk,ho => by
  obtain ⟨k,rfl⟩ := ksucc (by omega : 0 < k)
  simp only [q4_Gains.l0]
  rw [if_neg (by omega),List.drop_of_length_le (by omega)]
  simp [diffL]
 | d + 1,k,i,out,h0,h1,hk,ho => by
  obtain ⟨k,rfl⟩ := ksucc (by omega : 0 < k)
  simp only [q4_Gains.l0]
  have e1 := rd_in hX h0 (by omega)
  have e2 := rd_in hY h0 (by omega)
  rw [if_pos (by omega),if_pos h0,if_pos (by omega),if_pos (by omega),w64 (n := i + 1) (by omega),w64 (n := rd X i - rd Y i) (by omega),diff_drop hl h0 (by omega)]
  rw [rg_go X Y a b hl hb hX hY d k (i + 1) _ (by omega) (by omega) (by omega) (by simp;omega),show (i + 1).toNat = i.toNat + 1 by omega]
  simp
section
variable {rows : List S126} {draw : Int} {noz : List S64} {weir spill : Int}
theorem chgH_len (n h : Int) : (chgH noz n h).length = noz.length := by simp [chgH]
theorem chgH_ok (hB : OkB rows draw noz weir spill) {n h : Int} (hc : okC noz n h = true) : OkB rows draw (chgH noz n h) weir spill := by
 obtain ⟨h1,h2⟩ := okC_iff.1 hc
 have hb := okB_iff.2 hB
 apply okB_iff.1
 unfold okB at hb ⊢
 rw [chgH_len]
 simp only [Bool.and_eq_true] at hb ⊢
 obtain ⟨b1,b2,b3,b4,b5⟩ := hb
 refine ⟨b1,b2,b3,b4,?_⟩
 rw [List.all_eq_true] at b5 ⊢
 intro z hz
 rcases List.mem_or_eq_of_mem_set hz with hz | rfl
 · exact b5 z hz
 · have := b5 _ (getD_mem (xs := noz) z64 h1.1 (by omega))
   unfold nozOk at this ⊢
   simp only [Bool.and_eq_true,decide_eq_true_eq] at this ⊢
   exact ⟨this.1,h2⟩
theorem changed_eq {n h : Int} (hc : okC noz n h = true) (hn : noz.length ≤ 1000) : ca_changed.f rows draw noz weir spill n h = some (chgH noz n h) := by
 obtain ⟨h1,h2⟩ := okC_iff.1 hc
 unfold ca_changed.f
 rw [clone_z hn,Option.bind_some,if_pos h1.1,if_pos (by omega)]
 rfl
theorem with_eq {n h : Int} (hc : okC noz n h = true) (hn : noz.length ≤ 1000) : q4_With.f rows draw noz weir spill n h = some (chgH noz n h) := by
 obtain ⟨h1,h2⟩ := okC_iff.1 hc
 unfold q4_With.f
 rw [if_pos (by simp;omega),Option.bind_some,if_pos h1.1,if_pos (by simp;omega)]
 rfl
theorem change_eq {n h : Int} (hn : noz.length ≤ 1000) : q4_Change.f rows draw noz weir spill n h = some (okC noz n h) := by
 unfold q4_Change.f okC
 rw [w64 (by omega),r4_in,Option.bind_some]
 by_cases c : 0 ≤ n ∧ n ≤ (noz.length : Int) - 1
 · rw [decide_eq_true c,if_pos rfl,r_height];rfl
 · rw [decide_eq_false c,if_neg (by decide)];rfl
def gainL (rows : List S126) (noz : List S64) (weir spill n h cups : Int) : List Int := diffL (shareL rows (chgH noz n h) weir spill cups) (shareL rows noz weir spill cups)
def gainO (rows : List S126) (noz : List S64) (weir spill n h cups : Int) : Int := (cups - (shareL rows (chgH noz n h) weir spill cups).sum) - (cups - (shareL rows noz weir spill cups).sum)
theorem shsum (h : OkB rows draw noz weir spill) {cups : Int} (hc : 0 ≤ cups) : 0 ≤ (shareL rows noz weir spill cups).sum ∧ (shareL rows noz weir spill cups).sum ≤ 6000 := by
 have B := shareL_in h hc
 have s := sum_bd (l := shareL rows noz weir spill cups) (B := 1000) (by omega) (fun x hx => by have := B.1 x hx;omega)
 have n2 := h.n2
 have n0 := sum_nn (fun x hx => (B.1 x hx).1)
 rw [B.2] at s
 exact ⟨n0,by omega⟩
theorem gainL_len (h : OkB rows draw noz weir spill) {n hh cups : Int} (hc : okC noz n hh = true) (h0 : 0 ≤ cups) : (gainL rows noz weir spill n hh cups).length = noz.length := by
 simp [gainL,diffL,(shareL_in h h0).2,(shareL_in (chgH_ok h hc) h0).2,chgH_len]
theorem cGains_eq (h : OkB rows draw noz weir spill) {n hh cups : Int} (hc : okC noz n hh = true) (h0 : 0 ≤ cups) (h1 : cups ≤ 10000) {k : Nat} (hk : 410 ≤ k) :
 ca_Gains.f k rows draw noz weir spill n hh cups = some (gainL rows noz weir spill n hh cups,gainO rows noz weir spill n hh cups,0) := by
 obtain ⟨k,rfl⟩ := ksucc (by omega : 0 < k)
 have h' := chgH_ok h hc
 have s1 := shareL_in h h0
 have s2 := shareL_in h' h0
 have n2 := h.n2
 have u1 := shsum h h0
 have u2 := shsum h' h0
 obtain ⟨c1,c2⟩ := okC_iff.1 hc
 unfold ca_Gains.f
 rw [isBasin_eq (by have := h.r2;omega),okB_iff.2 h,Option.bind_some,if_pos rfl,w64 (by omega),c_in,decide_eq_true c1,Option.bind_some,if_pos rfl,c_height,decide_eq_true c2,Option.bind_some,if_pos rfl,c_flow,decide_eq_true ⟨h0,h1⟩,Option.bind_some]
 simp only [ca_Gains.j0,Bool.not_true]
 rw [if_neg (by decide),fill_eq h (by omega),Option.bind_some]
 simp only [shares_eq h h0 h1 (show 20 ≤ k by omega),Option.bind_some,changed_eq hc (show noz.length ≤ 1000 by omega),fill_eq h' (show 400 ≤ k by omega),shares_eq h' h0 h1 (show 20 ≤ k by omega)]
 have e := cg_go (a := cups - (shareL rows noz weir spill cups).sum) (b := cups - (shareL rows (chgH noz n hh) weir spill cups).sum) (shareL rows (chgH noz n hh) weir spill cups) (shareL rows noz weir spill cups) [] [] k (by rw [s1.2,s2.2,chgH_len]) rfl (by rw [s2.2,chgH_len];simp;omega) s2.1 s1.1 (by rw [s2.2,chgH_len];omega)
 simp only [List.nil_append,List.length_nil,Int.natCast_zero] at e
 rw [e,w64 (by omega)]
 rfl
theorem rGains_eq (h : OkB rows draw noz weir spill) {n hh cups : Int} (hc : okC noz n hh = true) (h0 : 0 ≤ cups) (h1 : cups ≤ 10000) {k : Nat} (hk : 70 ≤ k) :
 q4_Gains.f k rows draw noz weir spill n hh cups = some (gainL rows noz weir spill n hh cups,gainO rows noz weir spill n hh cups) := by
 have h' := chgH_ok h hc
 have s1 := shareL_in h h0
 have s2 := shareL_in h' h0
 have n2 := h.n2
 have u1 := shsum h h0
 have u2 := shsum h' h0
 unfold q4_Gains.f
 rw [with_eq hc (by omega),Option.bind_some,rShares_eq h' h0 h1 (by omega),Option.bind_some,rShares_eq h h0 h1 (by omega),Option.bind_some]
 simp only
 rw [rg_go _ _ _ _ (by rw [s1.2,s2.2,chgH_len]) (by rw [s2.2,chgH_len];omega) s2.1 s1.1 (shareL rows (chgH noz n hh) weir spill cups).length k 0 [] (by omega) (by omega) (by rw [s2.2,chgH_len];omega) (by rw [s2.2,chgH_len];simp;omega),w64 (by omega)]
 rfl
theorem cGains_bad (hl : rows.length ≤ 1000) (hn : noz.length ≤ 1000) {n hh cups : Int} (hb : ¬ (okB rows draw noz weir spill = true ∧ okC noz n hh = true ∧ 0 ≤ cups ∧ cups ≤ 10000)) {k : Nat} (hk : 1 ≤ k) : ca_Gains.f k rows draw noz weir spill n hh cups = some ([],0,2) := by
 obtain ⟨k,rfl⟩ := ksucc (by omega : 0 < k)
 unfold ca_Gains.f
 rw [isBasin_eq hl,Option.bind_some]
 cases c : okB rows draw noz weir spill with
 | false => rfl
 | true =>
  rw [if_pos rfl,w64 (by omega),c_in,Option.bind_some]
  by_cases c1 : 0 ≤ n ∧ n ≤ (noz.length : Int) - 1
  case neg => rw [decide_eq_false c1,if_neg (by decide)];rfl
  rw [decide_eq_true c1,if_pos rfl,c_height,Option.bind_some]
  by_cases c2 : 0 ≤ hh ∧ hh ≤ 40
  case neg => rw [decide_eq_false c2,if_neg (by decide)];rfl
  rw [decide_eq_true c2,if_pos rfl,c_flow,Option.bind_some]
  by_cases c3 : 0 ≤ cups ∧ cups ≤ 10000
  · exact absurd ⟨c,okC_iff.2 ⟨c1,c2⟩,c3⟩ hb
  · rw [decide_eq_false c3];rfl
end
theorem gains_pure (rows : List S126) (draw : Int) (noz : List S64) (weir spill n hh cups : Int) {k : Nat} (hk : 500 ≤ k) : l4_CastleGains.f k rows draw noz weir spill n hh cups = some true := by
 obtain ⟨k,rfl⟩ := ksucc (by omega : 0 < k)
 unfold l4_CastleGains.f
 rw [short_eq,Option.bind_some]
 by_cases s : rows.length ≤ 15 ∧ noz.length ≤ 8
 case neg => rw [decide_eq_false s,if_neg (by decide),known_true];rfl
 rw [decide_eq_true s,if_pos rfl]
 by_cases hb : okB rows draw noz weir spill = true ∧ okC noz n hh = true ∧ 0 ≤ cups ∧ cups ≤ 10000
 · have h := okB_iff.1 hb.1
   have hn := h.n2
   have hL := gainL_len h hb.2.1 hb.2.2.1
   rw [cGains_eq h hb.2.1 hb.2.2.1 hb.2.2.2 (by omega),Option.bind_some,refBasin_eq (by omega) (by omega) (by omega),hb.1,Option.bind_some,if_pos rfl,change_eq (by omega),hb.2.1,Option.bind_some,if_pos rfl,r_cups,decide_eq_true hb.2.2,Option.bind_some]
   simp only [l4_CastleGains.j0,Bool.not_true,Bool.false_eq_true,if_false]
   rw [rGains_eq h hb.2.1 hb.2.2.1 hb.2.2.2 (by omega),Option.bind_some]
   simp only [if_true]
   rw [same_eq (by omega) (by omega)]
   simp [known_true]
 · rw [cGains_bad (by omega) (by omega) hb (by omega),Option.bind_some,refBasin_eq (by omega) (by omega) (by omega),Option.bind_some]
   cases c : okB rows draw noz weir spill with
   | false => simp [l4_CastleGains.j0,known_true]
   | true =>
    rw [if_pos rfl,change_eq (by omega),Option.bind_some]
    cases e : okC noz n hh with
    | false => simp [l4_CastleGains.j0,known_true]
    | true =>
     rw [if_pos rfl,r_cups,Option.bind_some]
     by_cases f : 0 ≤ cups ∧ cups ≤ 10000
     · exact absurd ⟨c,e,f⟩ hb
     · rw [decide_eq_false f]
       simp [l4_CastleGains.j0,known_true]
end Go.Proofs.YticlelgmmonloaaGreatDoor.C

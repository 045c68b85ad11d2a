/- A part of the proof: the walks of the functions that it reaches. TIGHT. -/
import Derived.Test.YticlelgmmonloaaGreatDoorM19
set_option linter.unusedVariables false
set_option linter.unusedSimpArgs false
namespace Go.Proofs.YticlelgmmonloaaGreatDoor.C
open Go.RowKit Go.Proofs.YticlelgmmonloaaGreatDoorW.PrintWords Go.Proofs.YticlelgmmonloaaGreatDoorW.PrintLast Go.Proofs.YticlelgmmonloaaGreatDoorW.PrintMore
set_option linter.unusedVariables false
set_option linter.unusedSimpArgs false
set_option maxHeartbeats 16000000
set_option maxRecDepth 100000
section
attribute [local go_sem] max2_int min2_int max_two min_two
mutual
def l4_CastleSeen.j0 : Nat → Int → Bool → List (S126) → Int → List (S64) → Int → Int → Int → Int → Option (Bool)
 | 0,_,_,_,_,_,_,_,_,_ => none
 | k + 1,x2,x31,x678000,x678001,x678002,x678003,x678004,x679000,x679001 => if x31 = true then ((l4_known.f).bind fun t683 => (some t683)) else ((ca_Proves.f x678000 x678001 x678002 x678003 x678004 x679000 x679001).bind fun bt684 => ((ca_Level.f k x678000 x678001 x678002 x678003 x678004 x2 x2).bind fun bt688 => (if bt688.2.2 = 0 then (if bt688.1 = bt688.2.1 then (if bt684.2.2 = 0 then (l4_CastleSeen.j1 k x2 bt684.2.2 false x678000 x678001 x678002 x678003 x678004 x679000 x679001 bt684.1 bt684.2.1 bt688.1 bt688.2.1) else (l4_CastleSeen.j1 k x2 bt684.2.2 (bt684.2.2 != 7) x678000 x678001 x678002 x678003 x678004 x679000 x679001 bt684.1 bt684.2.1 bt688.1 bt688.2.1)) else (l4_CastleSeen.j1 k x2 bt684.2.2 true x678000 x678001 x678002 x678003 x678004 x679000 x679001 bt684.1 bt684.2.1 bt688.1 bt688.2.1)) else (l4_CastleSeen.j1 k x2 bt684.2.2 true x678000 x678001 x678002 x678003 x678004 x679000 x679001 bt684.1 bt684.2.1 bt688.1 bt688.2.1))))
def l4_CastleSeen.j1 : Nat → Int → Int → Bool → List (S126) → Int → List (S64) → Int → Int → Int → Int → Int → Int → Int → Int → Option (Bool)
 | 0,_,_,_,_,_,_,_,_,_,_,_,_,_,_ => none
 | k + 1,x2,x8,x63,x678000,x678001,x678002,x678003,x678004,x679000,x679001,x688000,x688001,x692000,x692001 => if x63 = true then (some false) else (if x692000 ≥ x679000 then (l4_CastleSeen.j2 k x2 x8 (decide (x692000 ≤ x679001)) x678000 x678001 x678002 x678003 x678004 x679000 x679001 x688000 x688001) else (l4_CastleSeen.j2 k x2 x8 false x678000 x678001 x678002 x678003 x678004 x679000 x679001 x688000 x688001))
def l4_CastleSeen.j2 : Nat → Int → Int → Bool → List (S126) → Int → List (S64) → Int → Int → Int → Int → Int → Int → Option (Bool)
 | 0,_,_,_,_,_,_,_,_,_,_,_,_ => none
 | k + 1,x2,x8,x11,x678000,x678001,x678002,x678003,x678004,x679000,x679001,x688000,x688001 => if x8 = 0 then ((q4_Flow.f x688000 x688001).bind fun t693 => (if t693 = true then (if x2 ≥ x688000 then (l4_CastleSeen.j3 k (x11 != (decide (x2 ≤ x688001))) x678000 x678001 x678002 x678003 x678004 x679000 x679001 x688000 x688001) else (l4_CastleSeen.j3 k (x11 != false) x678000 x678001 x678002 x678003 x678004 x679000 x679001 x688000 x688001)) else (l4_CastleSeen.j3 k true x678000 x678001 x678002 x678003 x678004 x679000 x679001 x688000 x688001))) else (if x11 = true then (some false) else ((l4_known.f).bind fun t692 => (some t692)))
def l4_CastleSeen.j3 : Nat → Bool → List (S126) → Int → List (S64) → Int → Int → Int → Int → Int → Int → Option (Bool)
 | 0,_,_,_,_,_,_,_,_,_,_ => none
 | k + 1,x99,x678000,x678001,x678002,x678003,x678004,x679000,x679001,x688000,x688001 => if x99 = true then (some false) else ((ca_Level.f k x678000 x678001 x678002 x678003 x678004 x688000 x688001).bind fun bt694 => (if bt694.2.2 = 0 then (if bt694.1 ≥ x679000 then (if bt694.2.1 ≤ x679001 then ((l4_known.f).bind fun t698 => (some t698)) else (some false)) else (some false)) else (some false)))
end
def l4_CastleSeen.f (k : Nat) (l0_0 : List (S126)) (a0_1 : Int) (l0_2 : List (S64)) (a0_3 : Int) (a0_4 : Int) (a1_0 : Int) (a1_1 : Int) (a2 : Int) : Option (Bool) := (l4_short.f l0_0 a0_1 l0_2 a0_3 a0_4).bind fun t679 => (if t679 = true then ((q4_Basin.f k l0_0 a0_1 l0_2 a0_3 a0_4).bind fun t680 => (if t680 = true then ((q4_Reading.f a1_0 a1_1).bind fun t681 => (if t681 = true then ((q4_Cups.f a2).bind fun t682 => (l4_CastleSeen.j0 k a2 (!t682) l0_0 a0_1 l0_2 a0_3 a0_4 a1_0 a1_1)) else (l4_CastleSeen.j0 k a2 true l0_0 a0_1 l0_2 a0_3 a0_4 a1_0 a1_1))) else (l4_CastleSeen.j0 k a2 true l0_0 a0_1 l0_2 a0_3 a0_4 a1_0 a1_1))) else (l4_CastleSeen.j0 k a2 true l0_0 a0_1 l0_2 a0_3 a0_4 a1_0 a1_1))
theorem l4_CastleSeen.calls (k : Nat) (A0_0 : Option Addr) (c0_0 : Nat) (l0_0 : List (S126)) (a0_1 : Int) (A0_2 : Option Addr) (c0_2 : Nat) (l0_2 : List (S64)) (a0_3 : Int) (a0_4 : Int) (a1_0 : Int) (a1_1 : Int) (a2 : Int) (r : Bool) (w : World) (hr0_0 : Kd.C k126 w A0_0 l0_0.length l0_0) (hc0_0 : l0_0.length ≤ c0_0) (hr0_2 : Kd.C k64 w A0_2 l0_2.length l0_2) (hc0_2 : l0_2.length ≤ c0_2) (h : l4_CastleSeen.f k l0_0 a0_1 l0_2 a0_3 a0_4 a1_0 a1_1 a2 = some r) :
 Calls Tryz.prog 8 #[.agg #[.slice A0_0 l0_0.length c0_0,.int .i64 a0_1,.slice A0_2 l0_2.length c0_2,.int .i64 a0_3,.int .i64 a0_4],.agg #[.int .i64 a1_0,.int .i64 a1_1],.int .i64 a2] w fun e w' => e = .returned (.bool r) ∧ Below w.heap.size w w' := by
 have hu27 := Tryz.underlying27
 have hu40 := Tryz.underlying40
 have HR0_0 := am hr0_0
 have HC0_0 := am hc0_0
 clear hr0_0 hc0_0
 have HR0_2 := am hr0_2
 have HC0_2 := am hc0_2
 clear hr0_2 hc0_2
 have HB := am (Below.refl w.heap.size w)
 have H : ((l4_short.f l0_0 a0_1 l0_2 a0_3 a0_4).bind fun t679 => (if t679 = true then ((q4_Basin.f k l0_0 a0_1 l0_2 a0_3 a0_4).bind fun t680 => (if t680 = true then ((q4_Reading.f a1_0 a1_1).bind fun t681 => (if t681 = true then ((q4_Cups.f a2).bind fun t682 => (l4_CastleSeen.j0 k a2 (!t682) l0_0 a0_1 l0_2 a0_3 a0_4 a1_0 a1_1)) else (l4_CastleSeen.j0 k a2 true l0_0 a0_1 l0_2 a0_3 a0_4 a1_0 a1_1))) else (l4_CastleSeen.j0 k a2 true l0_0 a0_1 l0_2 a0_3 a0_4 a1_0 a1_1))) else (l4_CastleSeen.j0 k a2 true l0_0 a0_1 l0_2 a0_3 a0_4 a1_0 a1_1))) = some r := h
 clear h
 have HC4 := am H
 clear H
 go_enter Tryz.func8,Tryz.ntmps8
 go_upto_region 1 with (first | ((with_reducible refine gate_dst (N := 3) rfl ?_);refine box_event ?hg (N := 3) ?hd (cs := #[.slice A0_0 l0_0.length c0_0,.int .i64 a0_1,.slice A0_2 l0_2.length c0_2,.int .i64 a0_3,.int .i64 a0_4]) (t := 27) ?hr ?_;(case hd => rfl);(case hg => rfl);(case hr => go_simp;try rfl);intro gb677 hg w5 hbox hb;have BK677 := am (hbox);have GW677 := am (ge_new (by repeat (first | (with_reducible first | exact HB.out | apply below_alloc | apply pw_below_drewN) | exact HB.out)) hg);have GE677 := am (ge_new (by repeat (first | (with_reducible first | exact HB.out | apply below_alloc | apply pw_below_drewN) | exact HB.out)) hg);replace HB := am (below_step (by repeat (first | (with_reducible first | exact HB.out | apply below_alloc | apply pw_below_drewN) | exact HB.out)) hb);clear hb hbox hg) | ((with_reducible refine gate_dst (N := 4) rfl ?_);refine box_event ?hg (N := 4) ?hd (cs := #[.int .i64 a1_0,.int .i64 a1_1]) (t := 40) ?hr ?_;(case hd => rfl);(case hg => rfl);(case hr => go_simp;try rfl);intro gb678 hg w6 hbox hb;have BK678 := am (hbox);have GW678 := am (ge_new (by repeat (first | (with_reducible first | exact HB.out | refine below_set ?_ GE677.out | apply below_alloc | apply pw_below_drewN) | exact HB.out)) hg);have GE678 := am (ge_new (by repeat (first | (with_reducible first | exact HB.out | refine below_set ?_ GE677.out | apply below_alloc | apply pw_below_drewN) | exact HB.out)) hg);have NB677_678 := am ((by rw [hg];exact Nat.ne_of_lt (blk_lt (g := gb677) (o := .cells #[.slice A0_0 l0_0.length c0_0,.int .i64 a0_1,.slice A0_2 l0_2.length c0_2,.int .i64 a0_3,.int .i64 a0_4] 27 (0,0)) (by (with_reducible repeat (first | refine blk_drewN ?_ _ | refine blk_drew ?_ | refine blk_alloc ?_ _));exact BK677.out)) : gb677 ≠ gb678));have NB678_677 := am ((by rw [hg];exact Nat.ne_of_gt (blk_lt (g := gb677) (o := .cells #[.slice A0_0 l0_0.length c0_0,.int .i64 a0_1,.slice A0_2 l0_2.length c0_2,.int .i64 a0_3,.int .i64 a0_4] 27 (0,0)) (by (with_reducible repeat (first | refine blk_drewN ?_ _ | refine blk_drew ?_ | refine blk_alloc ?_ _));exact BK677.out)) : gb678 ≠ gb677));replace BK677 := am (blk_below (g := gb677) (o := .cells #[.slice A0_0 l0_0.length c0_0,.int .i64 a0_1,.slice A0_2 l0_2.length c0_2,.int .i64 a0_3,.int .i64 a0_4] 27 (0,0)) (by (with_reducible repeat (first | refine blk_drewN ?_ _ | refine blk_drew ?_ | refine blk_alloc ?_ _));exact BK677.out) hb);replace HB := am (below_step (by repeat (first | (with_reducible first | exact HB.out | refine below_set ?_ GE677.out | apply below_alloc | apply pw_below_drewN) | exact HB.out)) hb);clear hb hbox hg))
 (try simp only [Act.put,List.setIfInBounds_toArray,List.set_cons_zero,List.set_cons_succ])
 go_cut [31] (fun v31 wc => ∃ (kq : Nat) (x31_3 : Bool),v31 = .bool x31_3 ∧ Aside0 (l4_CastleSeen.j0 kq a2 x31_3 l0_0 a0_1 l0_2 a0_3 a0_4 a1_0 a1_1 = some r) ∧ Aside0 (kq ≤ k) ∧ Aside0 (wc.heap[gb677]? = some (.cells #[(.slice A0_0 l0_0.length c0_0),.int .i64 a0_1,(.slice A0_2 l0_2.length c0_2),.int .i64 a0_3,.int .i64 a0_4] 27 (0,0))) ∧ Aside0 (wc.heap[gb678]? = some (.cells #[.int .i64 a1_0,.int .i64 a1_1] 40 (0,0))) ∧ Aside0 (Below w.heap.size w wc))
 case first =>
  have H := HC4.out
  clear HC4
  replace H := obm H
  obtain ⟨t679,A70,H⟩ := H
  replace H : (if t679 = true then ((q4_Basin.f k l0_0 a0_1 l0_2 a0_3 a0_4).bind fun t680 => (if t680 = true then ((q4_Reading.f a1_0 a1_1).bind fun t681 => (if t681 = true then ((q4_Cups.f a2).bind fun t682 => (l4_CastleSeen.j0 k a2 (!t682) l0_0 a0_1 l0_2 a0_3 a0_4 a1_0 a1_1)) else (l4_CastleSeen.j0 k a2 true l0_0 a0_1 l0_2 a0_3 a0_4 a1_0 a1_1))) else (l4_CastleSeen.j0 k a2 true l0_0 a0_1 l0_2 a0_3 a0_4 a1_0 a1_1))) else (l4_CastleSeen.j0 k a2 true l0_0 a0_1 l0_2 a0_3 a0_4 a1_0 a1_1)) = some r := H
  have A7 := am A70
  clear A70
  by_cases c8 : t679 = true
  case neg =>
   replace c8 := Bool.eq_false_iff.mpr c8
   subst c8
   replace H : (l4_CastleSeen.j0 k a2 true l0_0 a0_1 l0_2 a0_3 a0_4 a1_0 a1_1) = some r := by rw [if_neg (show ¬ (false = true) by decide)] at H;exact H
   replace H' := am H
   have hnb33 := NB677_678.out
   have hnc33 := NB678_677.out
   obtain ⟨hcz34_0,hcz34_1,hcz34_2,hcz34_3,hcz34_4⟩ := cO5 BK677.out
   have hfz34_0 := blk_frozen BK677.out 0
   have hfz34_1 := blk_frozen BK677.out 1
   have hfz34_2 := blk_frozen BK677.out 2
   have hfz34_3 := blk_frozen BK677.out 3
   have hfz34_4 := blk_frozen BK677.out 4
   go_wp2_with (first | ((with_reducible refine gate_callee (f := 14) rfl ?_);refine goesL_ (some 15) rfl rfl Tryz.func14 (by kernel_rfl) rfl #[.agg #[.slice A0_0 l0_0.length c0_0,.int .i64 a0_1,.slice A0_2 l0_2.length c0_2,.int .i64 a0_3,.int .i64 a0_4]] rfl (by (try simp only [List.map_toArray,List.map_cons,List.map_nil]);first | done | rfl | (simp only [List.length_drop,List.length_take];rfl)) ?_;(with_reducible refine (l4_short.calls _ _ l0_0 a0_1 _ _ l0_2 a0_3 a0_4 false _ ?side1 ?side2 ?side3 ?side4 A7.out).mono ?_);(case side1 => repeat (first | exact (kC HR0_0.out HB.out) | (with_reducible refine Kd.C_alloc ?_ _) | (with_reducible refine Kd.C_drewN ?_ _) | (with_reducible refine Kd.C_drew ?_)));(case side2 => exact HC0_0.out);(case side3 => repeat (first | exact (kC HR0_2.out HB.out) | (with_reducible refine Kd.C_alloc ?_ _) | (with_reducible refine Kd.C_drewN ?_ _) | (with_reducible refine Kd.C_drew ?_)));(case side4 => exact HC0_2.out);rintro e w35 ⟨rfl,hb⟩;refine ⟨_,rfl,?_⟩;replace BK677 := am (blk_below (g := gb677) (o := .cells #[.slice A0_0 l0_0.length c0_0,.int .i64 a0_1,.slice A0_2 l0_2.length c0_2,.int .i64 a0_3,.int .i64 a0_4] 27 (0,0)) (by (with_reducible repeat (first | refine blk_drewN ?_ _ | refine blk_drew ?_ | refine blk_alloc ?_ _));exact BK677.out) hb);replace BK678 := am (blk_below (g := gb678) (o := .cells #[.int .i64 a1_0,.int .i64 a1_1] 40 (0,0)) (by (with_reducible repeat (first | refine blk_drewN ?_ _ | refine blk_drew ?_ | refine blk_alloc ?_ _));exact BK678.out) hb);replace HB := am (below_step (by repeat (first | (with_reducible first | exact HB.out | refine below_set ?_ (Aside0.out (by assumption)) | apply below_alloc | apply pw_below_drewN) | exact HB.out)) hb);(try clear hb);(try clear hb2);(try clear hk);(try clear hi)))
   go_meet
   case rel => exact ⟨_,(true),(by first | rfl | (simp;done) | (simp [*];done)),H',⟨by first | omega | exact Nat.le_refl _⟩,⟨by (with_reducible repeat (first | refine blk_drewN ?_ _ | refine blk_drew ?_ | refine blk_alloc ?_ _));exact BK677.out⟩,⟨by (with_reducible repeat (first | refine blk_drewN ?_ _ | refine blk_drew ?_ | refine blk_alloc ?_ _));exact BK678.out⟩,⟨by repeat (first | (with_reducible first | exact HB.out | refine below_set ?_ (Aside0.out (by assumption)) | apply below_alloc | apply pw_below_drewN) | exact HB.out)⟩⟩
  subst c8
  replace H : ((q4_Basin.f k l0_0 a0_1 l0_2 a0_3 a0_4).bind fun t680 => (if t680 = true then ((q4_Reading.f a1_0 a1_1).bind fun t681 => (if t681 = true then ((q4_Cups.f a2).bind fun t682 => (l4_CastleSeen.j0 k a2 (!t682) l0_0 a0_1 l0_2 a0_3 a0_4 a1_0 a1_1)) else (l4_CastleSeen.j0 k a2 true l0_0 a0_1 l0_2 a0_3 a0_4 a1_0 a1_1))) else (l4_CastleSeen.j0 k a2 true l0_0 a0_1 l0_2 a0_3 a0_4 a1_0 a1_1))) = some r := by rw [if_pos rfl] at H;exact H
  replace H := obm H
  obtain ⟨t680,A90,H⟩ := H
  replace H : (if t680 = true then ((q4_Reading.f a1_0 a1_1).bind fun t681 => (if t681 = true then ((q4_Cups.f a2).bind fun t682 => (l4_CastleSeen.j0 k a2 (!t682) l0_0 a0_1 l0_2 a0_3 a0_4 a1_0 a1_1)) else (l4_CastleSeen.j0 k a2 true l0_0 a0_1 l0_2 a0_3 a0_4 a1_0 a1_1))) else (l4_CastleSeen.j0 k a2 true l0_0 a0_1 l0_2 a0_3 a0_4 a1_0 a1_1)) = some r := H
  have A9 := am A90
  clear A90
  by_cases c10 : t680 = true
  case neg =>
   replace c10 := Bool.eq_false_iff.mpr c10
   subst c10
   replace H : (l4_CastleSeen.j0 k a2 true l0_0 a0_1 l0_2 a0_3 a0_4 a1_0 a1_1) = some r := by rw [if_neg (show ¬ (false = true) by decide)] at H;exact H
   replace H' := am H
   have hnb28 := NB677_678.out
   have hnc28 := NB678_677.out
   obtain ⟨hcz29_0,hcz29_1,hcz29_2,hcz29_3,hcz29_4⟩ := cO5 BK677.out
   have hfz29_0 := blk_frozen BK677.out 0
   have hfz29_1 := blk_frozen BK677.out 1
   have hfz29_2 := blk_frozen BK677.out 2
   have hfz29_3 := blk_frozen BK677.out 3
   have hfz29_4 := blk_frozen BK677.out 4
   go_wp2_with (first | ((with_reducible refine gate_callee (f := 14) rfl ?_);refine goesL_ (some 15) rfl rfl Tryz.func14 (by kernel_rfl) rfl #[.agg #[.slice A0_0 l0_0.length c0_0,.int .i64 a0_1,.slice A0_2 l0_2.length c0_2,.int .i64 a0_3,.int .i64 a0_4]] rfl (by (try simp only [List.map_toArray,List.map_cons,List.map_nil]);first | done | rfl | (simp only [List.length_drop,List.length_take];rfl)) ?_;(with_reducible refine (l4_short.calls _ _ l0_0 a0_1 _ _ l0_2 a0_3 a0_4 true _ ?side1 ?side2 ?side3 ?side4 A7.out).mono ?_);(case side1 => repeat (first | exact (kC HR0_0.out HB.out) | (with_reducible refine Kd.C_alloc ?_ _) | (with_reducible refine Kd.C_drewN ?_ _) | (with_reducible refine Kd.C_drew ?_)));(case side2 => exact HC0_0.out);(case side3 => repeat (first | exact (kC HR0_2.out HB.out) | (with_reducible refine Kd.C_alloc ?_ _) | (with_reducible refine Kd.C_drewN ?_ _) | (with_reducible refine Kd.C_drew ?_)));(case side4 => exact HC0_2.out);rintro e w30 ⟨rfl,hb⟩;refine ⟨_,rfl,?_⟩;replace BK677 := am (blk_below (g := gb677) (o := .cells #[.slice A0_0 l0_0.length c0_0,.int .i64 a0_1,.slice A0_2 l0_2.length c0_2,.int .i64 a0_3,.int .i64 a0_4] 27 (0,0)) (by (with_reducible repeat (first | refine blk_drewN ?_ _ | refine blk_drew ?_ | refine blk_alloc ?_ _));exact BK677.out) hb);replace BK678 := am (blk_below (g := gb678) (o := .cells #[.int .i64 a1_0,.int .i64 a1_1] 40 (0,0)) (by (with_reducible repeat (first | refine blk_drewN ?_ _ | refine blk_drew ?_ | refine blk_alloc ?_ _));exact BK678.out) hb);replace HB := am (below_step (by repeat (first | (with_reducible first | exact HB.out | refine below_set ?_ (Aside0.out (by assumption)) | apply below_alloc | apply pw_below_drewN) | exact HB.out)) hb);(try clear hb);(try clear hb2);(try clear hk);(try clear hi);obtain ⟨hcz31_0,hcz31_1,hcz31_2,hcz31_3,hcz31_4⟩ := cO5 BK677.out;have hfz31_0 := blk_frozen BK677.out 0;have hfz31_1 := blk_frozen BK677.out 1;have hfz31_2 := blk_frozen BK677.out 2;have hfz31_3 := blk_frozen BK677.out 3;have hfz31_4 := blk_frozen BK677.out 4) | (go_at_call 17;(with_reducible refine (q4_Basin.calls k _ _ l0_0 a0_1 _ _ l0_2 a0_3 a0_4 false _ ?side1 ?side2 ?side3 ?side4 A9.out).mono ?_);(case side1 => repeat (first | exact (kC HR0_0.out HB.out) | (with_reducible refine Kd.C_alloc ?_ _) | (with_reducible refine Kd.C_drewN ?_ _) | (with_reducible refine Kd.C_drew ?_)));(case side2 => exact HC0_0.out);(case side3 => repeat (first | exact (kC HR0_2.out HB.out) | (with_reducible refine Kd.C_alloc ?_ _) | (with_reducible refine Kd.C_drewN ?_ _) | (with_reducible refine Kd.C_drew ?_)));(case side4 => exact HC0_2.out);rintro e w32 ⟨rfl,hb⟩;replace BK677 := am (blk_below (g := gb677) (o := .cells #[.slice A0_0 l0_0.length c0_0,.int .i64 a0_1,.slice A0_2 l0_2.length c0_2,.int .i64 a0_3,.int .i64 a0_4] 27 (0,0)) (by (with_reducible repeat (first | refine blk_drewN ?_ _ | refine blk_drew ?_ | refine blk_alloc ?_ _));exact BK677.out) hb);replace BK678 := am (blk_below (g := gb678) (o := .cells #[.int .i64 a1_0,.int .i64 a1_1] 40 (0,0)) (by (with_reducible repeat (first | refine blk_drewN ?_ _ | refine blk_drew ?_ | refine blk_alloc ?_ _));exact BK678.out) hb);replace HB := am (below_step (by repeat (first | (with_reducible first | exact HB.out | refine below_set ?_ (Aside0.out (by assumption)) | apply below_alloc | apply pw_below_drewN) | exact HB.out)) hb);(try clear hb);(try clear hb2);(try clear hk);(try clear hi)))
   go_meet
   case rel => exact ⟨_,(true),(by first | rfl | (simp;done) | (simp [*];done)),H',⟨by first | omega | exact Nat.le_refl _⟩,⟨by (with_reducible repeat (first | refine blk_drewN ?_ _ | refine blk_drew ?_ | refine blk_alloc ?_ _));exact BK677.out⟩,⟨by (with_reducible repeat (first | refine blk_drewN ?_ _ | refine blk_drew ?_ | refine blk_alloc ?_ _));exact BK678.out⟩,⟨by repeat (first | (with_reducible first | exact HB.out | refine below_set ?_ (Aside0.out (by assumption)) | apply below_alloc | apply pw_below_drewN) | exact HB.out)⟩⟩
  subst c10
  replace H : ((q4_Reading.f a1_0 a1_1).bind fun t681 => (if t681 = true then ((q4_Cups.f a2).bind fun t682 => (l4_CastleSeen.j0 k a2 (!t682) l0_0 a0_1 l0_2 a0_3 a0_4 a1_0 a1_1)) else (l4_CastleSeen.j0 k a2 true l0_0 a0_1 l0_2 a0_3 a0_4 a1_0 a1_1))) = some r := by rw [if_pos rfl] at H;exact H
  replace H := obm H
  obtain ⟨t681,A110,H⟩ := H
  replace H : (if t681 = true then ((q4_Cups.f a2).bind fun t682 => (l4_CastleSeen.j0 k a2 (!t682) l0_0 a0_1 l0_2 a0_3 a0_4 a1_0 a1_1)) else (l4_CastleSeen.j0 k a2 true l0_0 a0_1 l0_2 a0_3 a0_4 a1_0 a1_1)) = some r := H
  have A11 := am A110
  clear A110
  by_cases c12 : t681 = true
  case neg =>
   replace c12 := Bool.eq_false_iff.mpr c12
   subst c12
   replace H : (l4_CastleSeen.j0 k a2 true l0_0 a0_1 l0_2 a0_3 a0_4 a1_0 a1_1) = some r := by rw [if_neg (show ¬ (false = true) by decide)] at H;exact H
   replace H' := am H
   have hnb21 := NB677_678.out
   have hnc21 := NB678_677.out
   obtain ⟨hcz22_0,hcz22_1,hcz22_2,hcz22_3,hcz22_4⟩ := cO5 BK677.out
   have hfz22_0 := blk_frozen BK677.out 0
   have hfz22_1 := blk_frozen BK677.out 1
   have hfz22_2 := blk_frozen BK677.out 2
   have hfz22_3 := blk_frozen BK677.out 3
   have hfz22_4 := blk_frozen BK677.out 4
   go_wp2_with (first | ((with_reducible refine gate_callee (f := 14) rfl ?_);refine goesL_ (some 15) rfl rfl Tryz.func14 (by kernel_rfl) rfl #[.agg #[.slice A0_0 l0_0.length c0_0,.int .i64 a0_1,.slice A0_2 l0_2.length c0_2,.int .i64 a0_3,.int .i64 a0_4]] rfl (by (try simp only [List.map_toArray,List.map_cons,List.map_nil]);first | done | rfl | (simp only [List.length_drop,List.length_take];rfl)) ?_;(with_reducible refine (l4_short.calls _ _ l0_0 a0_1 _ _ l0_2 a0_3 a0_4 true _ ?side1 ?side2 ?side3 ?side4 A7.out).mono ?_);(case side1 => repeat (first | exact (kC HR0_0.out HB.out) | (with_reducible refine Kd.C_alloc ?_ _) | (with_reducible refine Kd.C_drewN ?_ _) | (with_reducible refine Kd.C_drew ?_)));(case side2 => exact HC0_0.out);(case side3 => repeat (first | exact (kC HR0_2.out HB.out) | (with_reducible refine Kd.C_alloc ?_ _) | (with_reducible refine Kd.C_drewN ?_ _) | (with_reducible refine Kd.C_drew ?_)));(case side4 => exact HC0_2.out);rintro e w23 ⟨rfl,hb⟩;refine ⟨_,rfl,?_⟩;replace BK677 := am (blk_below (g := gb677) (o := .cells #[.slice A0_0 l0_0.length c0_0,.int .i64 a0_1,.slice A0_2 l0_2.length c0_2,.int .i64 a0_3,.int .i64 a0_4] 27 (0,0)) (by (with_reducible repeat (first | refine blk_drewN ?_ _ | refine blk_drew ?_ | refine blk_alloc ?_ _));exact BK677.out) hb);replace BK678 := am (blk_below (g := gb678) (o := .cells #[.int .i64 a1_0,.int .i64 a1_1] 40 (0,0)) (by (with_reducible repeat (first | refine blk_drewN ?_ _ | refine blk_drew ?_ | refine blk_alloc ?_ _));exact BK678.out) hb);replace HB := am (below_step (by repeat (first | (with_reducible first | exact HB.out | refine below_set ?_ (Aside0.out (by assumption)) | apply below_alloc | apply pw_below_drewN) | exact HB.out)) hb);(try clear hb);(try clear hb2);(try clear hk);(try clear hi);obtain ⟨hcz24_0,hcz24_1,hcz24_2,hcz24_3,hcz24_4⟩ := cO5 BK677.out;have hfz24_0 := blk_frozen BK677.out 0;have hfz24_1 := blk_frozen BK677.out 1;have hfz24_2 := blk_frozen BK677.out 2;have hfz24_3 := blk_frozen BK677.out 3;have hfz24_4 := blk_frozen BK677.out 4) | (go_at_call 17;(with_reducible refine (q4_Basin.calls k _ _ l0_0 a0_1 _ _ l0_2 a0_3 a0_4 true _ ?side1 ?side2 ?side3 ?side4 A9.out).mono ?_);(case side1 => repeat (first | exact (kC HR0_0.out HB.out) | (with_reducible refine Kd.C_alloc ?_ _) | (with_reducible refine Kd.C_drewN ?_ _) | (with_reducible refine Kd.C_drew ?_)));(case side2 => exact HC0_0.out);(case side3 => repeat (first | exact (kC HR0_2.out HB.out) | (with_reducible refine Kd.C_alloc ?_ _) | (with_reducible refine Kd.C_drewN ?_ _) | (with_reducible refine Kd.C_drew ?_)));(case side4 => exact HC0_2.out);rintro e w25 ⟨rfl,hb⟩;replace BK677 := am (blk_below (g := gb677) (o := .cells #[.slice A0_0 l0_0.length c0_0,.int .i64 a0_1,.slice A0_2 l0_2.length c0_2,.int .i64 a0_3,.int .i64 a0_4] 27 (0,0)) (by (with_reducible repeat (first | refine blk_drewN ?_ _ | refine blk_drew ?_ | refine blk_alloc ?_ _));exact BK677.out) hb);replace BK678 := am (blk_below (g := gb678) (o := .cells #[.int .i64 a1_0,.int .i64 a1_1] 40 (0,0)) (by (with_reducible repeat (first | refine blk_drewN ?_ _ | refine blk_drew ?_ | refine blk_alloc ?_ _));exact BK678.out) hb);replace HB := am (below_step (by repeat (first | (with_reducible first | exact HB.out | refine below_set ?_ (Aside0.out (by assumption)) | apply below_alloc | apply pw_below_drewN) | exact HB.out)) hb);(try clear hb);(try clear hb2);(try clear hk);(try clear hi);obtain ⟨hcz26_0,hcz26_1⟩ := cO2 BK678.out;have hfz26_0 := blk_frozen BK678.out 0;have hfz26_1 := blk_frozen BK678.out 1) | (go_at_call 31;(with_reducible refine (q4_Reading.calls a1_0 a1_1 false _ A11.out).mono ?_);rintro e w27 ⟨rfl,hb⟩;replace BK677 := am (blk_below (g := gb677) (o := .cells #[.slice A0_0 l0_0.length c0_0,.int .i64 a0_1,.slice A0_2 l0_2.length c0_2,.int .i64 a0_3,.int .i64 a0_4] 27 (0,0)) (by (with_reducible repeat (first | refine blk_drewN ?_ _ | refine blk_drew ?_ | refine blk_alloc ?_ _));exact BK677.out) hb);replace BK678 := am (blk_below (g := gb678) (o := .cells #[.int .i64 a1_0,.int .i64 a1_1] 40 (0,0)) (by (with_reducible repeat (first | refine blk_drewN ?_ _ | refine blk_drew ?_ | refine blk_alloc ?_ _));exact BK678.out) hb);replace HB := am (below_step (by repeat (first | (with_reducible first | exact HB.out | refine below_set ?_ (Aside0.out (by assumption)) | apply below_alloc | apply pw_below_drewN) | exact HB.out)) hb);(try clear hb);(try clear hb2);(try clear hk);(try clear hi)))
   go_meet
   case rel => exact ⟨_,(true),(by first | rfl | (simp;done) | (simp [*];done)),H',⟨by first | omega | exact Nat.le_refl _⟩,⟨by (with_reducible repeat (first | refine blk_drewN ?_ _ | refine blk_drew ?_ | refine blk_alloc ?_ _));exact BK677.out⟩,⟨by (with_reducible repeat (first | refine blk_drewN ?_ _ | refine blk_drew ?_ | refine blk_alloc ?_ _));exact BK678.out⟩,⟨by repeat (first | (with_reducible first | exact HB.out | refine below_set ?_ (Aside0.out (by assumption)) | apply below_alloc | apply pw_below_drewN) | exact HB.out)⟩⟩
  subst c12
  replace H : ((q4_Cups.f a2).bind fun t682 => (l4_CastleSeen.j0 k a2 (!t682) l0_0 a0_1 l0_2 a0_3 a0_4 a1_0 a1_1)) = some r := by rw [if_pos rfl] at H;exact H
  replace H := obm H
  obtain ⟨t682,A130,H⟩ := H
  replace H : (l4_CastleSeen.j0 k a2 (!t682) l0_0 a0_1 l0_2 a0_3 a0_4 a1_0 a1_1) = some r := H
  have A13 := am A130
  clear A130
  replace H' := am H
  have hnb14 := NB677_678.out
  have hnc14 := NB678_677.out
  obtain ⟨hcz15_0,hcz15_1,hcz15_2,hcz15_3,hcz15_4⟩ := cO5 BK677.out
  have hfz15_0 := blk_frozen BK677.out 0
  have hfz15_1 := blk_frozen BK677.out 1
  have hfz15_2 := blk_frozen BK677.out 2
  have hfz15_3 := blk_frozen BK677.out 3
  have hfz15_4 := blk_frozen BK677.out 4
  go_wp2_with (first | ((with_reducible refine gate_callee (f := 14) rfl ?_);refine goesL_ (some 15) rfl rfl Tryz.func14 (by kernel_rfl) rfl #[.agg #[.slice A0_0 l0_0.length c0_0,.int .i64 a0_1,.slice A0_2 l0_2.length c0_2,.int .i64 a0_3,.int .i64 a0_4]] rfl (by (try simp only [List.map_toArray,List.map_cons,List.map_nil]);first | done | rfl | (simp only [List.length_drop,List.length_take];rfl)) ?_;(with_reducible refine (l4_short.calls _ _ l0_0 a0_1 _ _ l0_2 a0_3 a0_4 true _ ?side1 ?side2 ?side3 ?side4 A7.out).mono ?_);(case side1 => repeat (first | exact (kC HR0_0.out HB.out) | (with_reducible refine Kd.C_alloc ?_ _) | (with_reducible refine Kd.C_drewN ?_ _) | (with_reducible refine Kd.C_drew ?_)));(case side2 => exact HC0_0.out);(case side3 => repeat (first | exact (kC HR0_2.out HB.out) | (with_reducible refine Kd.C_alloc ?_ _) | (with_reducible refine Kd.C_drewN ?_ _) | (with_reducible refine Kd.C_drew ?_)));(case side4 => exact HC0_2.out);rintro e w16 ⟨rfl,hb⟩;refine ⟨_,rfl,?_⟩;replace BK677 := am (blk_below (g := gb677) (o := .cells #[.slice A0_0 l0_0.length c0_0,.int .i64 a0_1,.slice A0_2 l0_2.length c0_2,.int .i64 a0_3,.int .i64 a0_4] 27 (0,0)) (by (with_reducible repeat (first | refine blk_drewN ?_ _ | refine blk_drew ?_ | refine blk_alloc ?_ _));exact BK677.out) hb);replace BK678 := am (blk_below (g := gb678) (o := .cells #[.int .i64 a1_0,.int .i64 a1_1] 40 (0,0)) (by (with_reducible repeat (first | refine blk_drewN ?_ _ | refine blk_drew ?_ | refine blk_alloc ?_ _));exact BK678.out) hb);replace HB := am (below_step (by repeat (first | (with_reducible first | exact HB.out | refine below_set ?_ (Aside0.out (by assumption)) | apply below_alloc | apply pw_below_drewN) | exact HB.out)) hb);(try clear hb);(try clear hb2);(try clear hk);(try clear hi);obtain ⟨hcz17_0,hcz17_1,hcz17_2,hcz17_3,hcz17_4⟩ := cO5 BK677.out;have hfz17_0 := blk_frozen BK677.out 0;have hfz17_1 := blk_frozen BK677.out 1;have hfz17_2 := blk_frozen BK677.out 2;have hfz17_3 := blk_frozen BK677.out 3;have hfz17_4 := blk_frozen BK677.out 4) | (go_at_call 17;(with_reducible refine (q4_Basin.calls k _ _ l0_0 a0_1 _ _ l0_2 a0_3 a0_4 true _ ?side1 ?side2 ?side3 ?side4 A9.out).mono ?_);(case side1 => repeat (first | exact (kC HR0_0.out HB.out) | (with_reducible refine Kd.C_alloc ?_ _) | (with_reducible refine Kd.C_drewN ?_ _) | (with_reducible refine Kd.C_drew ?_)));(case side2 => exact HC0_0.out);(case side3 => repeat (first | exact (kC HR0_2.out HB.out) | (with_reducible refine Kd.C_alloc ?_ _) | (with_reducible refine Kd.C_drewN ?_ _) | (with_reducible refine Kd.C_drew ?_)));(case side4 => exact HC0_2.out);rintro e w18 ⟨rfl,hb⟩;replace BK677 := am (blk_below (g := gb677) (o := .cells #[.slice A0_0 l0_0.length c0_0,.int .i64 a0_1,.slice A0_2 l0_2.length c0_2,.int .i64 a0_3,.int .i64 a0_4] 27 (0,0)) (by (with_reducible repeat (first | refine blk_drewN ?_ _ | refine blk_drew ?_ | refine blk_alloc ?_ _));exact BK677.out) hb);replace BK678 := am (blk_below (g := gb678) (o := .cells #[.int .i64 a1_0,.int .i64 a1_1] 40 (0,0)) (by (with_reducible repeat (first | refine blk_drewN ?_ _ | refine blk_drew ?_ | refine blk_alloc ?_ _));exact BK678.out) hb);replace HB := am (below_step (by repeat (first | (with_reducible first | exact HB.out | refine below_set ?_ (Aside0.out (by assumption)) | apply below_alloc | apply pw_below_drewN) | exact HB.out)) hb);(try clear hb);(try clear hb2);(try clear hk);(try clear hi);obtain ⟨hcz19_0,hcz19_1⟩ := cO2 BK678.out;have hfz19_0 := blk_frozen BK678.out 0;have hfz19_1 := blk_frozen BK678.out 1) | (go_at_call 31;(with_reducible refine (q4_Reading.calls a1_0 a1_1 true _ A11.out).mono ?_);rintro e w20 ⟨rfl,hb⟩;replace BK677 := am (blk_below (g := gb677) (o := .cells #[.slice A0_0 l0_0.length c0_0,.int .i64 a0_1,.slice A0_2 l0_2.length c0_2,.int .i64 a0_3,.int .i64 a0_4] 27 (0,0)) (by (with_reducible repeat (first | refine blk_drewN ?_ _ | refine blk_drew ?_ | refine blk_alloc ?_ _));exact BK677.out) hb);replace BK678 := am (blk_below (g := gb678) (o := .cells #[.int .i64 a1_0,.int .i64 a1_1] 40 (0,0)) (by (with_reducible repeat (first | refine blk_drewN ?_ _ | refine blk_drew ?_ | refine blk_alloc ?_ _));exact BK678.out) hb);replace HB := am (below_step (by repeat (first | (with_reducible first | exact HB.out | refine below_set ?_ (Aside0.out (by assumption)) | apply below_alloc | apply pw_below_drewN) | exact HB.out)) hb);(try clear hb);(try clear hb2);(try clear hk);(try clear hi)) | (go_at_call 18;(with_reducible refine (q4_Cups.calls a2 t682 _ A13.out).mono ?_);rintro e w' ⟨rfl,⟨nd,rfl⟩⟩))
  go_meet
  case rel => exact ⟨_,(!t682),(by first | rfl | (simp;done) | (simp [*];done)),H',⟨by first | omega | exact Nat.le_refl _⟩,⟨by (with_reducible repeat (first | refine blk_drewN ?_ _ | refine blk_drew ?_ | refine blk_alloc ?_ _));exact BK677.out⟩,⟨by (with_reducible repeat (first | refine blk_drewN ?_ _ | refine blk_drew ?_ | refine blk_alloc ?_ _));exact BK678.out⟩,⟨by repeat (first | (with_reducible first | exact HB.out | refine below_set ?_ (Aside0.out (by assumption)) | apply below_alloc | apply pw_below_drewN) | exact HB.out)⟩⟩
 case rest =>
  clear HC4
  try clear c1
  try clear c2
  try clear p2
  try clear c3
  try clear c8
  try clear c10
  try clear c12
  try clear c14
  try clear c21
  try clear c28
  try clear c33
  try clear hcz15_0
  try clear hcz15_1
  try clear hcz15_2
  try clear hcz15_3
  try clear hcz15_4
  try clear hcz17_0
  try clear hcz17_1
  try clear hcz17_2
  try clear hcz17_3
  try clear hcz17_4
  try clear hcz19_0
  try clear hcz19_1
  try clear hcz22_0
  try clear hcz22_1
  try clear hcz22_2
  try clear hcz22_3
  try clear hcz22_4
  try clear hcz24_0
  try clear hcz24_1
  try clear hcz24_2
  try clear hcz24_3
  try clear hcz24_4
  try clear hcz26_0
  try clear hcz26_1
  try clear hcz29_0
  try clear hcz29_1
  try clear hcz29_2
  try clear hcz29_3
  try clear hcz29_4
  try clear hcz31_0
  try clear hcz31_1
  try clear hcz31_2
  try clear hcz31_3
  try clear hcz31_4
  try clear hcz34_0
  try clear hcz34_1
  try clear hcz34_2
  try clear hcz34_3
  try clear hcz34_4
  try clear hfz15_0
  try clear hfz15_1
  try clear hfz15_2
  try clear hfz15_3
  try clear hfz15_4
  try clear hfz17_0
  try clear hfz17_1
  try clear hfz17_2
  try clear hfz17_3
  try clear hfz17_4
  try clear hfz19_0
  try clear hfz19_1
  try clear hfz22_0
  try clear hfz22_1
  try clear hfz22_2
  try clear hfz22_3
  try clear hfz22_4
  try clear hfz24_0
  try clear hfz24_1
  try clear hfz24_2
  try clear hfz24_3
  try clear hfz24_4
  try clear hfz26_0
  try clear hfz26_1
  try clear hfz29_0
  try clear hfz29_1
  try clear hfz29_2
  try clear hfz29_3
  try clear hfz29_4
  try clear hfz31_0
  try clear hfz31_1
  try clear hfz31_2
  try clear hfz31_3
  try clear hfz31_4
  try clear hfz34_0
  try clear hfz34_1
  try clear hfz34_2
  try clear hfz34_3
  try clear hfz34_4
  obtain ⟨kq,x31_3,rfl,HA,HJ3,BK677,BK678,HB⟩ := hcut
  cases kq with
  | zero => exact absurd HA.out (by simp [l4_CastleSeen.j0])
  | succ kj3 =>
   have H := HA.out
   clear HA
   simp only [l4_CastleSeen.j0] at H
   by_cases c36 : x31_3 = true
   · subst c36
     replace H : ((l4_known.f).bind fun t683 => (some t683)) = some r := by rw [if_pos rfl] at H;exact H
     replace H := obm H
     obtain ⟨t683,A370,H⟩ := H
     replace H : (some t683) = some r := H
     have A37 := am A370
     clear A370
     obtain rfl := Option.some.inj H
     go_wp2_with (first | ((with_reducible refine gate_callee (f := 15) rfl ?_);refine goesL_ (some 32) rfl rfl Tryz.func15 (by kernel_rfl) rfl #[] rfl (by (try simp only [List.map_toArray,List.map_cons,List.map_nil]);first | done | rfl | (simp only [List.length_drop,List.length_take];rfl)) ?_;(with_reducible refine (l4_known.calls  t683 _ A37.out).mono ?_);rintro e w38 ⟨rfl,hb⟩;refine ⟨_,rfl,?_⟩;replace BK677 := am (blk_below (g := gb677) (o := .cells #[.slice A0_0 l0_0.length c0_0,.int .i64 a0_1,.slice A0_2 l0_2.length c0_2,.int .i64 a0_3,.int .i64 a0_4] 27 (0,0)) (by (with_reducible repeat (first | refine blk_drewN ?_ _ | refine blk_drew ?_ | refine blk_alloc ?_ _));exact BK677.out) hb);replace BK678 := am (blk_below (g := gb678) (o := .cells #[.int .i64 a1_0,.int .i64 a1_1] 40 (0,0)) (by (with_reducible repeat (first | refine blk_drewN ?_ _ | refine blk_drew ?_ | refine blk_alloc ?_ _));exact BK678.out) hb);replace HB := am (below_step (by repeat (first | (with_reducible first | exact HB.out | refine below_set ?_ (Aside0.out (by assumption)) | apply below_alloc | apply pw_below_drewN) | exact HB.out)) hb);(try clear hb);(try clear hb2);(try clear hk);(try clear hi)))
     go_ret
     exact ⟨by first | rfl | (simp [*] <;> rfl),by repeat (first | (with_reducible first | exact HB.out | refine below_set ?_ (Aside0.out (by assumption)) | apply below_alloc | apply pw_below_drewN) | exact HB.out)⟩
   · replace c36 := Bool.eq_false_iff.mpr c36
     subst c36
     replace H : ((ca_Proves.f l0_0 a0_1 l0_2 a0_3 a0_4 a1_0 a1_1).bind fun bt684 => ((ca_Level.f kj3 l0_0 a0_1 l0_2 a0_3 a0_4 a2 a2).bind fun bt688 => (if bt688.2.2 = 0 then (if bt688.1 = bt688.2.1 then (if bt684.2.2 = 0 then (l4_CastleSeen.j1 kj3 a2 bt684.2.2 false l0_0 a0_1 l0_2 a0_3 a0_4 a1_0 a1_1 bt684.1 bt684.2.1 bt688.1 bt688.2.1) else (l4_CastleSeen.j1 kj3 a2 bt684.2.2 (bt684.2.2 != 7) l0_0 a0_1 l0_2 a0_3 a0_4 a1_0 a1_1 bt684.1 bt684.2.1 bt688.1 bt688.2.1)) else (l4_CastleSeen.j1 kj3 a2 bt684.2.2 true l0_0 a0_1 l0_2 a0_3 a0_4 a1_0 a1_1 bt684.1 bt684.2.1 bt688.1 bt688.2.1)) else (l4_CastleSeen.j1 kj3 a2 bt684.2.2 true l0_0 a0_1 l0_2 a0_3 a0_4 a1_0 a1_1 bt684.1 bt684.2.1 bt688.1 bt688.2.1)))) = some r := by rw [if_neg (show ¬ (false = true) by decide)] at H;exact H
     replace H := obm H
     obtain ⟨⟨t684,t685,t686⟩,A390,H⟩ := H
     replace H : ((ca_Level.f kj3 l0_0 a0_1 l0_2 a0_3 a0_4 a2 a2).bind fun bt688 => (if bt688.2.2 = 0 then (if bt688.1 = bt688.2.1 then (if t686 = 0 then (l4_CastleSeen.j1 kj3 a2 t686 false l0_0 a0_1 l0_2 a0_3 a0_4 a1_0 a1_1 t684 t685 bt688.1 bt688.2.1) else (l4_CastleSeen.j1 kj3 a2 t686 (t686 != 7) l0_0 a0_1 l0_2 a0_3 a0_4 a1_0 a1_1 t684 t685 bt688.1 bt688.2.1)) else (l4_CastleSeen.j1 kj3 a2 t686 true l0_0 a0_1 l0_2 a0_3 a0_4 a1_0 a1_1 t684 t685 bt688.1 bt688.2.1)) else (l4_CastleSeen.j1 kj3 a2 t686 true l0_0 a0_1 l0_2 a0_3 a0_4 a1_0 a1_1 t684 t685 bt688.1 bt688.2.1))) = some r := H
     have A39 := am A390
     clear A390
     replace H := obm H
     obtain ⟨⟨t688,t689,t690⟩,A400,H⟩ := H
     replace H : (if t690 = 0 then (if t688 = t689 then (if t686 = 0 then (l4_CastleSeen.j1 kj3 a2 t686 false l0_0 a0_1 l0_2 a0_3 a0_4 a1_0 a1_1 t684 t685 t688 t689) else (l4_CastleSeen.j1 kj3 a2 t686 (t686 != 7) l0_0 a0_1 l0_2 a0_3 a0_4 a1_0 a1_1 t684 t685 t688 t689)) else (l4_CastleSeen.j1 kj3 a2 t686 true l0_0 a0_1 l0_2 a0_3 a0_4 a1_0 a1_1 t684 t685 t688 t689)) else (l4_CastleSeen.j1 kj3 a2 t686 true l0_0 a0_1 l0_2 a0_3 a0_4 a1_0 a1_1 t684 t685 t688 t689)) = some r := H
     have A40 := am A400
     clear A400
     have HC41 := am H
     clear H
     have hnb42 := NB677_678.out
     have hnc42 := NB678_677.out
     obtain ⟨hcz43_0,hcz43_1,hcz43_2,hcz43_3,hcz43_4⟩ := cO5 BK677.out
     have hfz43_0 := blk_frozen BK677.out 0
     have hfz43_1 := blk_frozen BK677.out 1
     have hfz43_2 := blk_frozen BK677.out 2
     have hfz43_3 := blk_frozen BK677.out 3
     have hfz43_4 := blk_frozen BK677.out 4
     obtain ⟨hcz44_0,hcz44_1⟩ := cO2 BK678.out
     have hfz44_0 := blk_frozen BK678.out 0
     have hfz44_1 := blk_frozen BK678.out 1
     go_upto_region 5 with (first | ((with_reducible refine gate_callee (f := 30) rfl ?_);refine goesL_ (some 36) rfl rfl Tryz.func30 (by kernel_rfl) rfl #[.agg #[.slice A0_0 l0_0.length c0_0,.int .i64 a0_1,.slice A0_2 l0_2.length c0_2,.int .i64 a0_3,.int .i64 a0_4],.agg #[.int .i64 a1_0,.int .i64 a1_1]] rfl (by (try simp only [List.map_toArray,List.map_cons,List.map_nil]);first | done | rfl | (simp only [List.length_drop,List.length_take];rfl)) ?_;(with_reducible refine (ca_Proves.calls _ _ l0_0 a0_1 _ _ l0_2 a0_3 a0_4 a1_0 a1_1 t684 t685 t686 _ ?side1 ?side2 ?side3 ?side4 A39.out).mono ?_);(case side1 => repeat (first | exact (kC HR0_0.out HB.out) | (with_reducible refine Kd.C_alloc ?_ _) | (with_reducible refine Kd.C_drewN ?_ _) | (with_reducible refine Kd.C_drew ?_)));(case side2 => exact HC0_0.out);(case side3 => repeat (first | exact (kC HR0_2.out HB.out) | (with_reducible refine Kd.C_alloc ?_ _) | (with_reducible refine Kd.C_drewN ?_ _) | (with_reducible refine Kd.C_drew ?_)));(case side4 => exact HC0_2.out);rintro e w45 ⟨rfl,hb⟩;refine ⟨_,rfl,?_⟩;replace BK677 := am (blk_below (g := gb677) (o := .cells #[.slice A0_0 l0_0.length c0_0,.int .i64 a0_1,.slice A0_2 l0_2.length c0_2,.int .i64 a0_3,.int .i64 a0_4] 27 (0,0)) (by (with_reducible repeat (first | refine blk_drewN ?_ _ | refine blk_drew ?_ | refine blk_alloc ?_ _));exact BK677.out) hb);replace BK678 := am (blk_below (g := gb678) (o := .cells #[.int .i64 a1_0,.int .i64 a1_1] 40 (0,0)) (by (with_reducible repeat (first | refine blk_drewN ?_ _ | refine blk_drew ?_ | refine blk_alloc ?_ _));exact BK678.out) hb);replace HB := am (below_step (by repeat (first | (with_reducible first | exact HB.out | refine below_set ?_ (Aside0.out (by assumption)) | apply below_alloc | apply pw_below_drewN) | exact HB.out)) hb);(try clear hb);(try clear hb2);(try clear hk);(try clear hi)) | ((with_reducible refine gate_dst (N := 7) rfl ?_);refine box_event ?hg (N := 7) ?hd (cs := #[.int .i64 0,.int .i64 0]) (t := 40) ?hr ?_;(case hd => rfl);(case hg => rfl);(case hr => go_simp;try rfl);intro gb687 hg w46 hbox hb;have BK687 := am (hbox);have GW687 := am (ge_new (by repeat (first | (with_reducible first | exact HB.out | refine below_set ?_ (Aside0.out (by assumption)) | apply below_alloc | apply pw_below_drewN) | exact HB.out)) hg);have GE687 := am (ge_new (by repeat (first | (with_reducible first | exact HB.out | refine below_set ?_ (Aside0.out (by assumption)) | apply below_alloc | apply pw_below_drewN) | exact HB.out)) hg);have NB677_687 := am ((by rw [hg];exact Nat.ne_of_lt (blk_lt (g := gb677) (o := .cells #[.slice A0_0 l0_0.length c0_0,.int .i64 a0_1,.slice A0_2 l0_2.length c0_2,.int .i64 a0_3,.int .i64 a0_4] 27 (0,0)) (by (with_reducible repeat (first | refine blk_drewN ?_ _ | refine blk_drew ?_ | refine blk_alloc ?_ _));exact BK677.out)) : gb677 ≠ gb687));have NB687_677 := am ((by rw [hg];exact Nat.ne_of_gt (blk_lt (g := gb677) (o := .cells #[.slice A0_0 l0_0.length c0_0,.int .i64 a0_1,.slice A0_2 l0_2.length c0_2,.int .i64 a0_3,.int .i64 a0_4] 27 (0,0)) (by (with_reducible repeat (first | refine blk_drewN ?_ _ | refine blk_drew ?_ | refine blk_alloc ?_ _));exact BK677.out)) : gb687 ≠ gb677));have NB678_687 := am ((by rw [hg];exact Nat.ne_of_lt (blk_lt (g := gb678) (o := .cells #[.int .i64 a1_0,.int .i64 a1_1] 40 (0,0)) (by (with_reducible repeat (first | refine blk_drewN ?_ _ | refine blk_drew ?_ | refine blk_alloc ?_ _));exact BK678.out)) : gb678 ≠ gb687));have NB687_678 := am ((by rw [hg];exact Nat.ne_of_gt (blk_lt (g := gb678) (o := .cells #[.int .i64 a1_0,.int .i64 a1_1] 40 (0,0)) (by (with_reducible repeat (first | refine blk_drewN ?_ _ | refine blk_drew ?_ | refine blk_alloc ?_ _));exact BK678.out)) : gb687 ≠ gb678));replace BK677 := am (blk_below (g := gb677) (o := .cells #[.slice A0_0 l0_0.length c0_0,.int .i64 a0_1,.slice A0_2 l0_2.length c0_2,.int .i64 a0_3,.int .i64 a0_4] 27 (0,0)) (by (with_reducible repeat (first | refine blk_drewN ?_ _ | refine blk_drew ?_ | refine blk_alloc ?_ _));exact BK677.out) hb);replace BK678 := am (blk_below (g := gb678) (o := .cells #[.int .i64 a1_0,.int .i64 a1_1] 40 (0,0)) (by (with_reducible repeat (first | refine blk_drewN ?_ _ | refine blk_drew ?_ | refine blk_alloc ?_ _));exact BK678.out) hb);replace HB := am (below_step (by repeat (first | (with_reducible first | exact HB.out | refine below_set ?_ (Aside0.out (by assumption)) | apply below_alloc | apply pw_below_drewN) | exact HB.out)) hb);clear hb hbox hg;have hnb47 := NB687_677.out;have hnc47 := NB677_687.out;have hnb48 := NB687_678.out;have hnc48 := NB678_687.out;obtain ⟨hcz49_0,hcz49_1⟩ := cO2 BK687.out;have hfz49_0 := blk_frozen BK687.out 0;have hfz49_1 := blk_frozen BK687.out 1;obtain ⟨hcz50_0,hcz50_1,hcz50_2,hcz50_3,hcz50_4⟩ := cO5 BK677.out;have hfz50_0 := blk_frozen BK677.out 0;have hfz50_1 := blk_frozen BK677.out 1;have hfz50_2 := blk_frozen BK677.out 2;have hfz50_3 := blk_frozen BK677.out 3;have hfz50_4 := blk_frozen BK677.out 4) | ((with_reducible refine gate_callee (f := 22) rfl ?_);refine goesL_ (some 44) rfl rfl Tryz.func22 (by kernel_rfl) rfl #[.agg #[.slice A0_0 l0_0.length c0_0,.int .i64 a0_1,.slice A0_2 l0_2.length c0_2,.int .i64 a0_3,.int .i64 a0_4],.agg #[.int .i64 a2,.int .i64 a2]] rfl (by (try simp only [List.map_toArray,List.map_cons,List.map_nil]);first | done | rfl | (simp only [List.length_drop,List.length_take];rfl)) ?_;(with_reducible refine (ca_Level.calls kj3 _ _ l0_0 a0_1 _ _ l0_2 a0_3 a0_4 a2 a2 t688 t689 t690 _ ?side1 ?side2 ?side3 ?side4 A40.out).mono ?_);(case side1 => exact kC HR0_0.out (by repeat (first | (with_reducible first | exact HB.out | refine below_set ?_ (Aside0.out (by assumption)) | apply below_alloc | apply pw_below_drewN) | exact HB.out)));(case side2 => exact HC0_0.out);(case side3 => exact kC HR0_2.out (by repeat (first | (with_reducible first | exact HB.out | refine below_set ?_ (Aside0.out (by assumption)) | apply below_alloc | apply pw_below_drewN) | exact HB.out)));(case side4 => exact HC0_2.out);rintro e w51 ⟨rfl,hb⟩;refine ⟨_,rfl,?_⟩;replace BK677 := am (blk_below (g := gb677) (o := .cells #[.slice A0_0 l0_0.length c0_0,.int .i64 a0_1,.slice A0_2 l0_2.length c0_2,.int .i64 a0_3,.int .i64 a0_4] 27 (0,0)) (by (with_reducible repeat (first | refine blk_drewN ?_ _ | refine blk_drew ?_ | refine blk_alloc ?_ _));refine blk_far ?_ NB677_687.out _;(with_reducible repeat (first | refine blk_drewN ?_ _ | refine blk_drew ?_ | refine blk_alloc ?_ _));refine blk_far ?_ NB677_687.out _;(with_reducible repeat (first | refine blk_drewN ?_ _ | refine blk_drew ?_ | refine blk_alloc ?_ _));exact BK677.out) hb);replace BK678 := am (blk_below (g := gb678) (o := .cells #[.int .i64 a1_0,.int .i64 a1_1] 40 (0,0)) (by (with_reducible repeat (first | refine blk_drewN ?_ _ | refine blk_drew ?_ | refine blk_alloc ?_ _));refine blk_far ?_ NB678_687.out _;(with_reducible repeat (first | refine blk_drewN ?_ _ | refine blk_drew ?_ | refine blk_alloc ?_ _));refine blk_far ?_ NB678_687.out _;(with_reducible repeat (first | refine blk_drewN ?_ _ | refine blk_drew ?_ | refine blk_alloc ?_ _));exact BK678.out) hb);replace BK687 := am (blk_below (g := gb687) (o := .cells #[.int .i64 t684,.int .i64 t685] 40 (0,0)) (by (with_reducible repeat (first | refine blk_drewN ?_ _ | refine blk_drew ?_ | refine blk_alloc ?_ _));refine blk_put (cs := #[.int .i64 t684,.int .i64 0]) ?_ 1 _ rfl;(with_reducible repeat (first | refine blk_drewN ?_ _ | refine blk_drew ?_ | refine blk_alloc ?_ _));refine blk_put (cs := #[.int .i64 0,.int .i64 0]) ?_ 0 _ rfl;(with_reducible repeat (first | refine blk_drewN ?_ _ | refine blk_drew ?_ | refine blk_alloc ?_ _));exact BK687.out) hb);replace HB := am (below_step (by repeat (first | (with_reducible first | exact HB.out | refine below_set ?_ (Aside0.out (by assumption)) | apply below_alloc | apply pw_below_drewN) | exact HB.out)) hb);(try clear hb);(try clear hb2);(try clear hk);(try clear hi)) | ((with_reducible refine gate_dst (N := 9) rfl ?_);refine box_event ?hg (N := 9) ?hd (cs := #[.int .i64 0,.int .i64 0]) (t := 40) ?hr ?_;(case hd => rfl);(case hg => rfl);(case hr => go_simp;try rfl);intro gb691 hg w52 hbox hb;have BK691 := am (hbox);have GW691 := am (ge_new (by repeat (first | (with_reducible first | exact HB.out | refine below_set ?_ (Aside0.out (by assumption)) | apply below_alloc | apply pw_below_drewN) | exact HB.out)) hg);have GE691 := am (ge_new (by repeat (first | (with_reducible first | exact HB.out | refine below_set ?_ (Aside0.out (by assumption)) | apply below_alloc | apply pw_below_drewN) | exact HB.out)) hg);have NB677_691 := am ((by rw [hg];exact Nat.ne_of_lt (blk_lt (g := gb677) (o := .cells #[.slice A0_0 l0_0.length c0_0,.int .i64 a0_1,.slice A0_2 l0_2.length c0_2,.int .i64 a0_3,.int .i64 a0_4] 27 (0,0)) (by (with_reducible repeat (first | refine blk_drewN ?_ _ | refine blk_drew ?_ | refine blk_alloc ?_ _));exact BK677.out)) : gb677 ≠ gb691));have NB691_677 := am ((by rw [hg];exact Nat.ne_of_gt (blk_lt (g := gb677) (o := .cells #[.slice A0_0 l0_0.length c0_0,.int .i64 a0_1,.slice A0_2 l0_2.length c0_2,.int .i64 a0_3,.int .i64 a0_4] 27 (0,0)) (by (with_reducible repeat (first | refine blk_drewN ?_ _ | refine blk_drew ?_ | refine blk_alloc ?_ _));exact BK677.out)) : gb691 ≠ gb677));have NB678_691 := am ((by rw [hg];exact Nat.ne_of_lt (blk_lt (g := gb678) (o := .cells #[.int .i64 a1_0,.int .i64 a1_1] 40 (0,0)) (by (with_reducible repeat (first | refine blk_drewN ?_ _ | refine blk_drew ?_ | refine blk_alloc ?_ _));exact BK678.out)) : gb678 ≠ gb691));have NB691_678 := am ((by rw [hg];exact Nat.ne_of_gt (blk_lt (g := gb678) (o := .cells #[.int .i64 a1_0,.int .i64 a1_1] 40 (0,0)) (by (with_reducible repeat (first | refine blk_drewN ?_ _ | refine blk_drew ?_ | refine blk_alloc ?_ _));exact BK678.out)) : gb691 ≠ gb678));have NB687_691 := am ((by rw [hg];exact Nat.ne_of_lt (blk_lt (g := gb687) (o := .cells #[.int .i64 t684,.int .i64 t685] 40 (0,0)) (by (with_reducible repeat (first | refine blk_drewN ?_ _ | refine blk_drew ?_ | refine blk_alloc ?_ _));exact BK687.out)) : gb687 ≠ gb691));have NB691_687 := am ((by rw [hg];exact Nat.ne_of_gt (blk_lt (g := gb687) (o := .cells #[.int .i64 t684,.int .i64 t685] 40 (0,0)) (by (with_reducible repeat (first | refine blk_drewN ?_ _ | refine blk_drew ?_ | refine blk_alloc ?_ _));exact BK687.out)) : gb691 ≠ gb687));replace BK677 := am (blk_below (g := gb677) (o := .cells #[.slice A0_0 l0_0.length c0_0,.int .i64 a0_1,.slice A0_2 l0_2.length c0_2,.int .i64 a0_3,.int .i64 a0_4] 27 (0,0)) (by (with_reducible repeat (first | refine blk_drewN ?_ _ | refine blk_drew ?_ | refine blk_alloc ?_ _));exact BK677.out) hb);replace BK678 := am (blk_below (g := gb678) (o := .cells #[.int .i64 a1_0,.int .i64 a1_1] 40 (0,0)) (by (with_reducible repeat (first | refine blk_drewN ?_ _ | refine blk_drew ?_ | refine blk_alloc ?_ _));exact BK678.out) hb);replace BK687 := am (blk_below (g := gb687) (o := .cells #[.int .i64 t684,.int .i64 t685] 40 (0,0)) (by (with_reducible repeat (first | refine blk_drewN ?_ _ | refine blk_drew ?_ | refine blk_alloc ?_ _));exact BK687.out) hb);replace HB := am (below_step (by repeat (first | (with_reducible first | exact HB.out | refine below_set ?_ (Aside0.out (by assumption)) | apply below_alloc | apply pw_below_drewN) | exact HB.out)) hb);clear hb hbox hg;have hnb53 := NB691_677.out;have hnc53 := NB677_691.out;have hnb54 := NB691_678.out;have hnc54 := NB678_691.out;have hnb55 := NB691_687.out;have hnc55 := NB687_691.out;obtain ⟨hcz56_0,hcz56_1⟩ := cO2 BK691.out;have hfz56_0 := blk_frozen BK691.out 0;have hfz56_1 := blk_frozen BK691.out 1))
     (try simp only [Act.put,List.setIfInBounds_toArray,List.set_cons_zero,List.set_cons_succ])
     go_cut [63] (fun v63 wc => ∃ (kq : Nat) (x63_40 : Bool),v63 = .bool x63_40 ∧ Aside0 (l4_CastleSeen.j1 kq a2 t686 x63_40 l0_0 a0_1 l0_2 a0_3 a0_4 a1_0 a1_1 t684 t685 t688 t689 = some r) ∧ Aside0 (kq ≤ kj3) ∧ Aside0 (wc.heap[gb677]? = some (.cells #[(.slice A0_0 l0_0.length c0_0),.int .i64 a0_1,(.slice A0_2 l0_2.length c0_2),.int .i64 a0_3,.int .i64 a0_4] 27 (0,0))) ∧ Aside0 (wc.heap[gb678]? = some (.cells #[.int .i64 a1_0,.int .i64 a1_1] 40 (0,0))) ∧ Aside0 (wc.heap[gb687]? = some (.cells #[.int .i64 t684,.int .i64 t685] 40 (0,0))) ∧ Aside0 (wc.heap[gb691]? = some (.cells #[.int .i64 t688,.int .i64 t689] 40 (0,0))) ∧ Aside0 (Below w.heap.size w wc))
     case first =>
      have H := HC41.out
      clear HC41
      by_cases c57 : t690 = 0
      case neg =>
       rw [if_neg c57] at H
       have c57b0 : (t690 == 0) = false := beq_eq_false_iff_ne.mpr c57
       have c57b1 : (t690 != 0) = true := bne_iff_ne.mpr c57
       (first | rw [c57b0] | (simp only [i64_w,i32_w];rw [c57b0]) | skip)
       replace H' := am H
       go_wp2
       go_meet
       case rel => exact ⟨_,(true),(by first | rfl | (simp;done) | (simp [*];done)),H',⟨by have := HJ3.out;first | omega | exact Nat.le_refl _⟩,⟨by (with_reducible repeat (first | refine blk_drewN ?_ _ | refine blk_drew ?_ | refine blk_alloc ?_ _));refine blk_far ?_ NB677_691.out _;(with_reducible repeat (first | refine blk_drewN ?_ _ | refine blk_drew ?_ | refine blk_alloc ?_ _));refine blk_far ?_ NB677_691.out _;(with_reducible repeat (first | refine blk_drewN ?_ _ | refine blk_drew ?_ | refine blk_alloc ?_ _));exact BK677.out⟩,⟨by (with_reducible repeat (first | refine blk_drewN ?_ _ | refine blk_drew ?_ | refine blk_alloc ?_ _));refine blk_far ?_ NB678_691.out _;(with_reducible repeat (first | refine blk_drewN ?_ _ | refine blk_drew ?_ | refine blk_alloc ?_ _));refine blk_far ?_ NB678_691.out _;(with_reducible repeat (first | refine blk_drewN ?_ _ | refine blk_drew ?_ | refine blk_alloc ?_ _));exact BK678.out⟩,⟨by (with_reducible repeat (first | refine blk_drewN ?_ _ | refine blk_drew ?_ | refine blk_alloc ?_ _));refine blk_far ?_ NB687_691.out _;(with_reducible repeat (first | refine blk_drewN ?_ _ | refine blk_drew ?_ | refine blk_alloc ?_ _));refine blk_far ?_ NB687_691.out _;(with_reducible repeat (first | refine blk_drewN ?_ _ | refine blk_drew ?_ | refine blk_alloc ?_ _));exact BK687.out⟩,⟨by (with_reducible repeat (first | refine blk_drewN ?_ _ | refine blk_drew ?_ | refine blk_alloc ?_ _));refine blk_put (cs := #[.int .i64 t688,.int .i64 0]) ?_ 1 _ rfl;(with_reducible repeat (first | refine blk_drewN ?_ _ | refine blk_drew ?_ | refine blk_alloc ?_ _));refine blk_put (cs := #[.int .i64 0,.int .i64 0]) ?_ 0 _ rfl;(with_reducible repeat (first | refine blk_drewN ?_ _ | refine blk_drew ?_ | refine blk_alloc ?_ _));exact BK691.out⟩,⟨by repeat (first | (with_reducible first | exact HB.out | refine below_set ?_ (Aside0.out (by assumption)) | apply below_alloc | apply pw_below_drewN) | exact HB.out)⟩⟩
      rw [if_pos c57] at H
      have c57b0 : (t690 == 0) = true := beq_iff_eq.mpr c57
      have c57b1 : (t690 != 0) = false := bne_eq_false_iff_eq.mpr c57
      clear c57
      (first | rw [c57b0] | (simp only [i64_w,i32_w];rw [c57b0]) | skip)
      by_cases c58 : t688 = t689
      case neg =>
       rw [if_neg c58] at H
       have c58b0 : (t688 == t689) = false := beq_eq_false_iff_ne.mpr c58
       have c58b1 : (t688 != t689) = true := bne_iff_ne.mpr c58
       replace H' := am H
       have hnb68 := NB691_677.out
       have hnc68 := NB677_691.out
       have hnb69 := NB691_678.out
       have hnc69 := NB678_691.out
       have hnb70 := NB691_687.out
       have hnc70 := NB687_691.out
       obtain ⟨hcz71_0,hcz71_1⟩ := cO2 BK691.out
       have hfz71_0 := blk_frozen BK691.out 0
       have hfz71_1 := blk_frozen BK691.out 1
       go_wp2
       go_meet
       case rel => exact ⟨_,(true),(by first | rfl | (simp;done) | (simp [*];done)),H',⟨by have := HJ3.out;first | omega | exact Nat.le_refl _⟩,⟨by (with_reducible repeat (first | refine blk_drewN ?_ _ | refine blk_drew ?_ | refine blk_alloc ?_ _));refine blk_far ?_ NB677_691.out _;(with_reducible repeat (first | refine blk_drewN ?_ _ | refine blk_drew ?_ | refine blk_alloc ?_ _));refine blk_far ?_ NB677_691.out _;(with_reducible repeat (first | refine blk_drewN ?_ _ | refine blk_drew ?_ | refine blk_alloc ?_ _));exact BK677.out⟩,⟨by (with_reducible repeat (first | refine blk_drewN ?_ _ | refine blk_drew ?_ | refine blk_alloc ?_ _));refine blk_far ?_ NB678_691.out _;(with_reducible repeat (first | refine blk_drewN ?_ _ | refine blk_drew ?_ | refine blk_alloc ?_ _));refine blk_far ?_ NB678_691.out _;(with_reducible repeat (first | refine blk_drewN ?_ _ | refine blk_drew ?_ | refine blk_alloc ?_ _));exact BK678.out⟩,⟨by (with_reducible repeat (first | refine blk_drewN ?_ _ | refine blk_drew ?_ | refine blk_alloc ?_ _));refine blk_far ?_ NB687_691.out _;(with_reducible repeat (first | refine blk_drewN ?_ _ | refine blk_drew ?_ | refine blk_alloc ?_ _));refine blk_far ?_ NB687_691.out _;(with_reducible repeat (first | refine blk_drewN ?_ _ | refine blk_drew ?_ | refine blk_alloc ?_ _));exact BK687.out⟩,⟨by (with_reducible repeat (first | refine blk_drewN ?_ _ | refine blk_drew ?_ | refine blk_alloc ?_ _));refine blk_put (cs := #[.int .i64 t688,.int .i64 0]) ?_ 1 _ rfl;(with_reducible repeat (first | refine blk_drewN ?_ _ | refine blk_drew ?_ | refine blk_alloc ?_ _));refine blk_put (cs := #[.int .i64 0,.int .i64 0]) ?_ 0 _ rfl;(with_reducible repeat (first | refine blk_drewN ?_ _ | refine blk_drew ?_ | refine blk_alloc ?_ _));exact BK691.out⟩,⟨by repeat (first | (with_reducible first | exact HB.out | refine below_set ?_ (Aside0.out (by assumption)) | apply below_alloc | apply pw_below_drewN) | exact HB.out)⟩⟩
      rw [if_pos c58] at H
      have c58b0 : (t688 == t689) = true := beq_iff_eq.mpr c58
      have c58b1 : (t688 != t689) = false := bne_eq_false_iff_eq.mpr c58
      clear c58
      by_cases c59 : t686 = 0
      case neg =>
       rw [if_neg c59] at H
       have c59b0 : (t686 == 0) = false := beq_eq_false_iff_ne.mpr c59
       have c59b1 : (t686 != 0) = true := bne_iff_ne.mpr c59
       replace H' := am H
       have hnb64 := NB691_677.out
       have hnc64 := NB677_691.out
       have hnb65 := NB691_678.out
       have hnc65 := NB678_691.out
       have hnb66 := NB691_687.out
       have hnc66 := NB687_691.out
       obtain ⟨hcz67_0,hcz67_1⟩ := cO2 BK691.out
       have hfz67_0 := blk_frozen BK691.out 0
       have hfz67_1 := blk_frozen BK691.out 1
       go_wp2
       go_meet
       case rel => exact ⟨_,((t686 != 7)),(by first | rfl | (simp;done) | (simp [*];done)),H',⟨by have := HJ3.out;first | omega | exact Nat.le_refl _⟩,⟨by (with_reducible repeat (first | refine blk_drewN ?_ _ | refine blk_drew ?_ | refine blk_alloc ?_ _));refine blk_far ?_ NB677_691.out _;(with_reducible repeat (first | refine blk_drewN ?_ _ | refine blk_drew ?_ | refine blk_alloc ?_ _));refine blk_far ?_ NB677_691.out _;(with_reducible repeat (first | refine blk_drewN ?_ _ | refine blk_drew ?_ | refine blk_alloc ?_ _));exact BK677.out⟩,⟨by (with_reducible repeat (first | refine blk_drewN ?_ _ | refine blk_drew ?_ | refine blk_alloc ?_ _));refine blk_far ?_ NB678_691.out _;(with_reducible repeat (first | refine blk_drewN ?_ _ | refine blk_drew ?_ | refine blk_alloc ?_ _));refine blk_far ?_ NB678_691.out _;(with_reducible repeat (first | refine blk_drewN ?_ _ | refine blk_drew ?_ | refine blk_alloc ?_ _));exact BK678.out⟩,⟨by (with_reducible repeat (first | refine blk_drewN ?_ _ | refine blk_drew ?_ | refine blk_alloc ?_ _));refine blk_far ?_ NB687_691.out _;(with_reducible repeat (first | refine blk_drewN ?_ _ | refine blk_drew ?_ | refine blk_alloc ?_ _));refine blk_far ?_ NB687_691.out _;(with_reducible repeat (first | refine blk_drewN ?_ _ | refine blk_drew ?_ | refine blk_alloc ?_ _));exact BK687.out⟩,⟨by (with_reducible repeat (first | refine blk_drewN ?_ _ | refine blk_drew ?_ | refine blk_alloc ?_ _));refine blk_put (cs := #[.int .i64 t688,.int .i64 0]) ?_ 1 _ rfl;(with_reducible repeat (first | refine blk_drewN ?_ _ | refine blk_drew ?_ | refine blk_alloc ?_ _));refine blk_put (cs := #[.int .i64 0,.int .i64 0]) ?_ 0 _ rfl;(with_reducible repeat (first | refine blk_drewN ?_ _ | refine blk_drew ?_ | refine blk_alloc ?_ _));exact BK691.out⟩,⟨by repeat (first | (with_reducible first | exact HB.out | refine below_set ?_ (Aside0.out (by assumption)) | apply below_alloc | apply pw_below_drewN) | exact HB.out)⟩⟩
      rw [if_pos c59] at H
      have c59b0 : (t686 == 0) = true := beq_iff_eq.mpr c59
      have c59b1 : (t686 != 0) = false := bne_eq_false_iff_eq.mpr c59
      clear c59
      replace H' := am H
      have hnb60 := NB691_677.out
      have hnc60 := NB677_691.out
      have hnb61 := NB691_678.out
      have hnc61 := NB678_691.out
      have hnb62 := NB691_687.out
      have hnc62 := NB687_691.out
      obtain ⟨hcz63_0,hcz63_1⟩ := cO2 BK691.out
      have hfz63_0 := blk_frozen BK691.out 0
      have hfz63_1 := blk_frozen BK691.out 1
      go_wp2
      go_meet
      case rel => exact ⟨_,(false),(by first | rfl | (simp;done) | (simp [*];done)),H',⟨by have := HJ3.out;first | omega | exact Nat.le_refl _⟩,⟨by (with_reducible repeat (first | refine blk_drewN ?_ _ | refine blk_drew ?_ | refine blk_alloc ?_ _));refine blk_far ?_ NB677_691.out _;(with_reducible repeat (first | refine blk_drewN ?_ _ | refine blk_drew ?_ | refine blk_alloc ?_ _));refine blk_far ?_ NB677_691.out _;(with_reducible repeat (first | refine blk_drewN ?_ _ | refine blk_drew ?_ | refine blk_alloc ?_ _));exact BK677.out⟩,⟨by (with_reducible repeat (first | refine blk_drewN ?_ _ | refine blk_drew ?_ | refine blk_alloc ?_ _));refine blk_far ?_ NB678_691.out _;(with_reducible repeat (first | refine blk_drewN ?_ _ | refine blk_drew ?_ | refine blk_alloc ?_ _));refine blk_far ?_ NB678_691.out _;(with_reducible repeat (first | refine blk_drewN ?_ _ | refine blk_drew ?_ | refine blk_alloc ?_ _));exact BK678.out⟩,⟨by (with_reducible repeat (first | refine blk_drewN ?_ _ | refine blk_drew ?_ | refine blk_alloc ?_ _));refine blk_far ?_ NB687_691.out _;(with_reducible repeat (first | refine blk_drewN ?_ _ | refine blk_drew ?_ | refine blk_alloc ?_ _));refine blk_far ?_ NB687_691.out _;(with_reducible repeat (first | refine blk_drewN ?_ _ | refine blk_drew ?_ | refine blk_alloc ?_ _));exact BK687.out⟩,⟨by (with_reducible repeat (first | refine blk_drewN ?_ _ | refine blk_drew ?_ | refine blk_alloc ?_ _));refine blk_put (cs := #[.int .i64 t688,.int .i64 0]) ?_ 1 _ rfl;(with_reducible repeat (first | refine blk_drewN ?_ _ | refine blk_drew ?_ | refine blk_alloc ?_ _));refine blk_put (cs := #[.int .i64 0,.int .i64 0]) ?_ 0 _ rfl;(with_reducible repeat (first | refine blk_drewN ?_ _ | refine blk_drew ?_ | refine blk_alloc ?_ _));exact BK691.out⟩,⟨by repeat (first | (with_reducible first | exact HB.out | refine below_set ?_ (Aside0.out (by assumption)) | apply below_alloc | apply pw_below_drewN) | exact HB.out)⟩⟩
     case rest =>
      clear HC41
      try clear c1
      try clear c2
      try clear p2
      try clear c3
      try clear c4
      try clear c5
      try clear c6
      try clear c7
      try clear c8
      try clear c10
      try clear c12
      try clear c14
      try clear c15
      try clear c21
      try clear c22
      try clear c28
      try clear c30
      try clear c33
      try clear c36
      try clear c42
      try clear c47
      try clear c48
      try clear c53
      try clear c54
      try clear c55
      try clear c57
      try clear c57b0
      try clear c57b1
      try clear c58
      try clear c58b0
      try clear c58b1
      try clear c59
      try clear c59b0
      try clear c59b1
      try clear c60
      try clear c61
      try clear c62
      try clear c64
      try clear c65
      try clear c66
      try clear c68
      try clear c69
      try clear c70
      try clear hcz15_0
      try clear hcz15_1
      try clear hcz15_2
      try clear hcz15_3
      try clear hcz15_4
      try clear hcz17_0
      try clear hcz17_1
      try clear hcz17_2
      try clear hcz17_3
      try clear hcz17_4
      try clear hcz19_0
      try clear hcz19_1
      try clear hcz22_0
      try clear hcz22_1
      try clear hcz22_2
      try clear hcz22_3
      try clear hcz22_4
      try clear hcz24_0
      try clear hcz24_1
      try clear hcz24_2
      try clear hcz24_3
      try clear hcz24_4
      try clear hcz26_0
      try clear hcz26_1
      try clear hcz29_0
      try clear hcz29_1
      try clear hcz29_2
      try clear hcz29_3
      try clear hcz29_4
      try clear hcz31_0
      try clear hcz31_1
      try clear hcz31_2
      try clear hcz31_3
      try clear hcz31_4
      try clear hcz34_0
      try clear hcz34_1
      try clear hcz34_2
      try clear hcz34_3
      try clear hcz34_4
      try clear hcz43_0
      try clear hcz43_1
      try clear hcz43_2
      try clear hcz43_3
      try clear hcz43_4
      try clear hcz44_0
      try clear hcz44_1
      try clear hcz49_0
      try clear hcz49_1
      try clear hcz50_0
      try clear hcz50_1
      try clear hcz50_2
      try clear hcz50_3
      try clear hcz50_4
      try clear hcz56_0
      try clear hcz56_1
      try clear hcz63_0
      try clear hcz63_1
      try clear hcz67_0
      try clear hcz67_1
      try clear hcz71_0
      try clear hcz71_1
      try clear hfz15_0
      try clear hfz15_1
      try clear hfz15_2
      try clear hfz15_3
      try clear hfz15_4
      try clear hfz17_0
      try clear hfz17_1
      try clear hfz17_2
      try clear hfz17_3
      try clear hfz17_4
      try clear hfz19_0
      try clear hfz19_1
      try clear hfz22_0
      try clear hfz22_1
      try clear hfz22_2
      try clear hfz22_3
      try clear hfz22_4
      try clear hfz24_0
      try clear hfz24_1
      try clear hfz24_2
      try clear hfz24_3
      try clear hfz24_4
      try clear hfz26_0
      try clear hfz26_1
      try clear hfz29_0
      try clear hfz29_1
      try clear hfz29_2
      try clear hfz29_3
      try clear hfz29_4
      try clear hfz31_0
      try clear hfz31_1
      try clear hfz31_2
      try clear hfz31_3
      try clear hfz31_4
      try clear hfz34_0
      try clear hfz34_1
      try clear hfz34_2
      try clear hfz34_3
      try clear hfz34_4
      try clear hfz43_0
      try clear hfz43_1
      try clear hfz43_2
      try clear hfz43_3
      try clear hfz43_4
      try clear hfz44_0
      try clear hfz44_1
      try clear hfz49_0
      try clear hfz49_1
      try clear hfz50_0
      try clear hfz50_1
      try clear hfz50_2
      try clear hfz50_3
      try clear hfz50_4
      try clear hfz56_0
      try clear hfz56_1
      try clear hfz63_0
      try clear hfz63_1
      try clear hfz67_0
      try clear hfz67_1
      try clear hfz71_0
      try clear hfz71_1
      try clear p2
      obtain ⟨kq,x63_40,rfl,HA,HJ40,BK677,BK678,BK687,BK691,HB⟩ := hcut
      cases kq with
      | zero => exact absurd HA.out (by simp [l4_CastleSeen.j1])
      | succ kj40 =>
       have H := HA.out
       clear HA
       simp only [l4_CastleSeen.j1] at H
       by_cases c72 : x63_40 = true
       · subst c72
         replace H : (some false) = some r := by rw [if_pos rfl] at H;exact H
         obtain rfl := Option.some.inj H
         go_wp2
         go_ret
         exact ⟨by first | rfl | (simp [*] <;> rfl),by repeat (first | (with_reducible first | exact HB.out | refine below_set ?_ (Aside0.out (by assumption)) | apply below_alloc | apply pw_below_drewN) | exact HB.out)⟩
       · replace c72 := Bool.eq_false_iff.mpr c72
         subst c72
         replace H : (if t688 ≥ a1_0 then (l4_CastleSeen.j2 kj40 a2 t686 (decide (t688 ≤ a1_1)) l0_0 a0_1 l0_2 a0_3 a0_4 a1_0 a1_1 t684 t685) else (l4_CastleSeen.j2 kj40 a2 t686 false l0_0 a0_1 l0_2 a0_3 a0_4 a1_0 a1_1 t684 t685)) = some r := by rw [if_neg (show ¬ (false = true) by decide)] at H;exact H
         have HC73 := am H
         clear H
         go_upto_region 7 with (fail)
         go_cut [11] (fun v11 wc => ∃ (kq : Nat) (x11_72 : Bool),v11 = .bool x11_72 ∧ Aside0 (l4_CastleSeen.j2 kq a2 t686 x11_72 l0_0 a0_1 l0_2 a0_3 a0_4 a1_0 a1_1 t684 t685 = some r) ∧ Aside0 (kq ≤ kj40) ∧ Aside0 (wc.heap[gb677]? = some (.cells #[(.slice A0_0 l0_0.length c0_0),.int .i64 a0_1,(.slice A0_2 l0_2.length c0_2),.int .i64 a0_3,.int .i64 a0_4] 27 (0,0))) ∧ Aside0 (wc.heap[gb678]? = some (.cells #[.int .i64 a1_0,.int .i64 a1_1] 40 (0,0))) ∧ Aside0 (wc.heap[gb687]? = some (.cells #[.int .i64 t684,.int .i64 t685] 40 (0,0))) ∧ Aside0 (wc.heap[gb691]? = some (.cells #[.int .i64 t688,.int .i64 t689] 40 (0,0))) ∧ Aside0 (Below w.heap.size w wc))
         case first =>
          have H := HC73.out
          clear HC73
          by_cases c74 : t688 ≥ a1_0
          · rw [if_pos c74] at H
            have c74b0 : decide (a1_0 ≤ t688) = true := decide_eq_true c74
            clear c74
            (first | rw [c74b0] | (simp only [i64_w,i32_w];rw [c74b0]) | skip)
            replace H' := am H
            have hnb75 := NB691_677.out
            have hnc75 := NB677_691.out
            have hnb76 := NB691_678.out
            have hnc76 := NB678_691.out
            have hnb77 := NB691_687.out
            have hnc77 := NB687_691.out
            obtain ⟨hcz78_0,hcz78_1⟩ := cO2 BK691.out
            have hfz78_0 := blk_frozen BK691.out 0
            have hfz78_1 := blk_frozen BK691.out 1
            have hnb79 := NB678_677.out
            have hnc79 := NB677_678.out
            have hnb80 := NB678_687.out
            have hnc80 := NB687_678.out
            obtain ⟨hcz81_0,hcz81_1⟩ := cO2 BK678.out
            have hfz81_0 := blk_frozen BK678.out 0
            have hfz81_1 := blk_frozen BK678.out 1
            go_wp2
            go_meet
            case rel => exact ⟨_,(decide (t688 ≤ a1_1)),(by first | rfl | (simp;done) | (simp [*];done)),H',⟨by have := HJ3.out;have := HJ40.out;first | omega | exact Nat.le_refl _⟩,⟨by (with_reducible repeat (first | refine blk_drewN ?_ _ | refine blk_drew ?_ | refine blk_alloc ?_ _));exact BK677.out⟩,⟨by (with_reducible repeat (first | refine blk_drewN ?_ _ | refine blk_drew ?_ | refine blk_alloc ?_ _));exact BK678.out⟩,⟨by (with_reducible repeat (first | refine blk_drewN ?_ _ | refine blk_drew ?_ | refine blk_alloc ?_ _));exact BK687.out⟩,⟨by (with_reducible repeat (first | refine blk_drewN ?_ _ | refine blk_drew ?_ | refine blk_alloc ?_ _));exact BK691.out⟩,⟨by repeat (first | (with_reducible first | exact HB.out | refine below_set ?_ (Aside0.out (by assumption)) | apply below_alloc | apply pw_below_drewN) | exact HB.out)⟩⟩
          · rw [if_neg c74] at H
            have c74b0 : decide (a1_0 ≤ t688) = false := decide_eq_false c74
            clear c74
            (first | rw [c74b0] | (simp only [i64_w,i32_w];rw [c74b0]) | skip)
            replace H' := am H
            have hnb82 := NB691_677.out
            have hnc82 := NB677_691.out
            have hnb83 := NB691_678.out
            have hnc83 := NB678_691.out
            have hnb84 := NB691_687.out
            have hnc84 := NB687_691.out
            obtain ⟨hcz85_0,hcz85_1⟩ := cO2 BK691.out
            have hfz85_0 := blk_frozen BK691.out 0
            have hfz85_1 := blk_frozen BK691.out 1
            have hnb86 := NB678_677.out
            have hnc86 := NB677_678.out
            have hnb87 := NB678_687.out
            have hnc87 := NB687_678.out
            obtain ⟨hcz88_0,hcz88_1⟩ := cO2 BK678.out
            have hfz88_0 := blk_frozen BK678.out 0
            have hfz88_1 := blk_frozen BK678.out 1
            go_wp2
            go_meet
            case rel => exact ⟨_,(false),(by first | rfl | (simp;done) | (simp [*];done)),H',⟨by have := HJ3.out;have := HJ40.out;first | omega | exact Nat.le_refl _⟩,⟨by (with_reducible repeat (first | refine blk_drewN ?_ _ | refine blk_drew ?_ | refine blk_alloc ?_ _));exact BK677.out⟩,⟨by (with_reducible repeat (first | refine blk_drewN ?_ _ | refine blk_drew ?_ | refine blk_alloc ?_ _));exact BK678.out⟩,⟨by (with_reducible repeat (first | refine blk_drewN ?_ _ | refine blk_drew ?_ | refine blk_alloc ?_ _));exact BK687.out⟩,⟨by (with_reducible repeat (first | refine blk_drewN ?_ _ | refine blk_drew ?_ | refine blk_alloc ?_ _));exact BK691.out⟩,⟨by repeat (first | (with_reducible first | exact HB.out | refine below_set ?_ (Aside0.out (by assumption)) | apply below_alloc | apply pw_below_drewN) | exact HB.out)⟩⟩
         case rest =>
          clear HC73
          try clear c1
          try clear c2
          try clear p2
          try clear c3
          try clear c4
          try clear c5
          try clear c6
          try clear c7
          try clear c8
          try clear c10
          try clear c12
          try clear c14
          try clear c15
          try clear c21
          try clear c22
          try clear c28
          try clear c30
          try clear c33
          try clear c36
          try clear c42
          try clear c47
          try clear c48
          try clear c53
          try clear c54
          try clear c55
          try clear c57
          try clear c57b0
          try clear c57b1
          try clear c58
          try clear c58b0
          try clear c58b1
          try clear c59
          try clear c59b0
          try clear c59b1
          try clear c60
          try clear c61
          try clear c62
          try clear c64
          try clear c65
          try clear c66
          try clear c68
          try clear c69
          try clear c70
          try clear c72
          try clear c74
          try clear c74b0
          try clear c75
          try clear c76
          try clear c77
          try clear c79
          try clear c80
          try clear c82
          try clear c83
          try clear c84
          try clear c86
          try clear c87
          try clear hcz15_0
          try clear hcz15_1
          try clear hcz15_2
          try clear hcz15_3
          try clear hcz15_4
          try clear hcz17_0
          try clear hcz17_1
          try clear hcz17_2
          try clear hcz17_3
          try clear hcz17_4
          try clear hcz19_0
          try clear hcz19_1
          try clear hcz22_0
          try clear hcz22_1
          try clear hcz22_2
          try clear hcz22_3
          try clear hcz22_4
          try clear hcz24_0
          try clear hcz24_1
          try clear hcz24_2
          try clear hcz24_3
          try clear hcz24_4
          try clear hcz26_0
          try clear hcz26_1
          try clear hcz29_0
          try clear hcz29_1
          try clear hcz29_2
          try clear hcz29_3
          try clear hcz29_4
          try clear hcz31_0
          try clear hcz31_1
          try clear hcz31_2
          try clear hcz31_3
          try clear hcz31_4
          try clear hcz34_0
          try clear hcz34_1
          try clear hcz34_2
          try clear hcz34_3
          try clear hcz34_4
          try clear hcz43_0
          try clear hcz43_1
          try clear hcz43_2
          try clear hcz43_3
          try clear hcz43_4
          try clear hcz44_0
          try clear hcz44_1
          try clear hcz49_0
          try clear hcz49_1
          try clear hcz50_0
          try clear hcz50_1
          try clear hcz50_2
          try clear hcz50_3
          try clear hcz50_4
          try clear hcz56_0
          try clear hcz56_1
          try clear hcz63_0
          try clear hcz63_1
          try clear hcz67_0
          try clear hcz67_1
          try clear hcz71_0
          try clear hcz71_1
          try clear hcz78_0
          try clear hcz78_1
          try clear hcz81_0
          try clear hcz81_1
          try clear hcz85_0
          try clear hcz85_1
          try clear hcz88_0
          try clear hcz88_1
          try clear hfz15_0
          try clear hfz15_1
          try clear hfz15_2
          try clear hfz15_3
          try clear hfz15_4
          try clear hfz17_0
          try clear hfz17_1
          try clear hfz17_2
          try clear hfz17_3
          try clear hfz17_4
          try clear hfz19_0
          try clear hfz19_1
          try clear hfz22_0
          try clear hfz22_1
          try clear hfz22_2
          try clear hfz22_3
          try clear hfz22_4
          try clear hfz24_0
          try clear hfz24_1
          try clear hfz24_2
          try clear hfz24_3
          try clear hfz24_4
          try clear hfz26_0
          try clear hfz26_1
          try clear hfz29_0
          try clear hfz29_1
          try clear hfz29_2
          try clear hfz29_3
          try clear hfz29_4
          try clear hfz31_0
          try clear hfz31_1
          try clear hfz31_2
          try clear hfz31_3
          try clear hfz31_4
          try clear hfz34_0
          try clear hfz34_1
          try clear hfz34_2
          try clear hfz34_3
          try clear hfz34_4
          try clear hfz43_0
          try clear hfz43_1
          try clear hfz43_2
          try clear hfz43_3
          try clear hfz43_4
          try clear hfz44_0
          try clear hfz44_1
          try clear hfz49_0
          try clear hfz49_1
          try clear hfz50_0
          try clear hfz50_1
          try clear hfz50_2
          try clear hfz50_3
          try clear hfz50_4
          try clear hfz56_0
          try clear hfz56_1
          try clear hfz63_0
          try clear hfz63_1
          try clear hfz67_0
          try clear hfz67_1
          try clear hfz71_0
          try clear hfz71_1
          try clear hfz78_0
          try clear hfz78_1
          try clear hfz81_0
          try clear hfz81_1
          try clear hfz85_0
          try clear hfz85_1
          try clear hfz88_0
          try clear hfz88_1
          try clear p2
          obtain ⟨kq,x11_72,rfl,HA,HJ72,BK677,BK678,BK687,BK691,HB⟩ := hcut
          cases kq with
          | zero => exact absurd HA.out (by simp [l4_CastleSeen.j2])
          | succ kj72 =>
           have H := HA.out
           clear HA
           simp only [l4_CastleSeen.j2] at H
           by_cases c89 : t686 = 0
           case neg =>
            rw [if_neg c89] at H
            have c89b0 : (t686 == 0) = false := beq_eq_false_iff_ne.mpr c89
            have c89b1 : (t686 != 0) = true := bne_iff_ne.mpr c89
            by_cases c180 : x11_72 = true
            · subst c180
              replace H : (some false) = some r := by rw [if_pos rfl] at H;exact H
              obtain rfl := Option.some.inj H
              go_wp2
              go_ret
              exact ⟨by first | rfl | (simp [*] <;> rfl),by repeat (first | (with_reducible first | exact HB.out | refine below_set ?_ (Aside0.out (by assumption)) | apply below_alloc | apply pw_below_drewN) | exact HB.out)⟩
            · replace c180 := Bool.eq_false_iff.mpr c180
              subst c180
              replace H : ((l4_known.f).bind fun t692 => (some t692)) = some r := by rw [if_neg (show ¬ (false = true) by decide)] at H;exact H
              replace H := obm H
              obtain ⟨t692,A1810,H⟩ := H
              replace H : (some t692) = some r := H
              have A181 := am A1810
              clear A1810
              obtain rfl := Option.some.inj H
              go_wp2_with (first | (go_at_call 15;(with_reducible refine (l4_known.calls  t692 _ A181.out).mono ?_);rintro e w182 ⟨rfl,hb⟩;replace BK677 := am (blk_below (g := gb677) (o := .cells #[.slice A0_0 l0_0.length c0_0,.int .i64 a0_1,.slice A0_2 l0_2.length c0_2,.int .i64 a0_3,.int .i64 a0_4] 27 (0,0)) (by (with_reducible repeat (first | refine blk_drewN ?_ _ | refine blk_drew ?_ | refine blk_alloc ?_ _));exact BK677.out) hb);replace BK678 := am (blk_below (g := gb678) (o := .cells #[.int .i64 a1_0,.int .i64 a1_1] 40 (0,0)) (by (with_reducible repeat (first | refine blk_drewN ?_ _ | refine blk_drew ?_ | refine blk_alloc ?_ _));exact BK678.out) hb);replace BK687 := am (blk_below (g := gb687) (o := .cells #[.int .i64 t684,.int .i64 t685] 40 (0,0)) (by (with_reducible repeat (first | refine blk_drewN ?_ _ | refine blk_drew ?_ | refine blk_alloc ?_ _));exact BK687.out) hb);replace BK691 := am (blk_below (g := gb691) (o := .cells #[.int .i64 t688,.int .i64 t689] 40 (0,0)) (by (with_reducible repeat (first | refine blk_drewN ?_ _ | refine blk_drew ?_ | refine blk_alloc ?_ _));exact BK691.out) hb);replace HB := am (below_step (by repeat (first | (with_reducible first | exact HB.out | refine below_set ?_ (Aside0.out (by assumption)) | apply below_alloc | apply pw_below_drewN) | exact HB.out)) hb);(try clear hb);(try clear hb2);(try clear hk);(try clear hi)))
              go_ret
              exact ⟨by first | rfl | (simp [*] <;> rfl),by repeat (first | (with_reducible first | exact HB.out | refine below_set ?_ (Aside0.out (by assumption)) | apply below_alloc | apply pw_below_drewN) | exact HB.out)⟩
           rw [if_pos c89] at H
           have c89b0 : (t686 == 0) = true := beq_iff_eq.mpr c89
           have c89b1 : (t686 != 0) = false := bne_eq_false_iff_eq.mpr c89
           clear c89
           have HC90 := am H
           clear H
           go_upto_region 10 with (fail)
           go_cut [99] (fun v99 wc => ∃ (kq : Nat) (x99_89 : Bool),v99 = .bool x99_89 ∧ Aside0 (l4_CastleSeen.j3 kq x99_89 l0_0 a0_1 l0_2 a0_3 a0_4 a1_0 a1_1 t684 t685 = some r) ∧ Aside0 (kq ≤ kj72) ∧ Aside0 (wc.heap[gb677]? = some (.cells #[(.slice A0_0 l0_0.length c0_0),.int .i64 a0_1,(.slice A0_2 l0_2.length c0_2),.int .i64 a0_3,.int .i64 a0_4] 27 (0,0))) ∧ Aside0 (wc.heap[gb678]? = some (.cells #[.int .i64 a1_0,.int .i64 a1_1] 40 (0,0))) ∧ Aside0 (wc.heap[gb687]? = some (.cells #[.int .i64 t684,.int .i64 t685] 40 (0,0))) ∧ Aside0 (wc.heap[gb691]? = some (.cells #[.int .i64 t688,.int .i64 t689] 40 (0,0))) ∧ Aside0 (Below w.heap.size w wc))
           case first =>
            have H := HC90.out
            clear HC90
            replace H := obm H
            obtain ⟨t693,A910,H⟩ := H
            replace H : (if t693 = true then (if a2 ≥ t684 then (l4_CastleSeen.j3 kj72 (x11_72 != (decide (a2 ≤ t685))) l0_0 a0_1 l0_2 a0_3 a0_4 a1_0 a1_1 t684 t685) else (l4_CastleSeen.j3 kj72 (x11_72 != false) l0_0 a0_1 l0_2 a0_3 a0_4 a1_0 a1_1 t684 t685)) else (l4_CastleSeen.j3 kj72 true l0_0 a0_1 l0_2 a0_3 a0_4 a1_0 a1_1 t684 t685)) = some r := H
            have A91 := am A910
            clear A910
            by_cases c92 : t693 = true
            case neg =>
             replace c92 := Bool.eq_false_iff.mpr c92
             subst c92
             replace H : (l4_CastleSeen.j3 kj72 true l0_0 a0_1 l0_2 a0_3 a0_4 a1_0 a1_1 t684 t685) = some r := by rw [if_neg (show ¬ (false = true) by decide)] at H;exact H
             replace H' := am H
             have hnb106 := NB687_677.out
             have hnc106 := NB677_687.out
             have hnb107 := NB687_678.out
             have hnc107 := NB678_687.out
             have hnb108 := NB687_691.out
             have hnc108 := NB691_687.out
             obtain ⟨hcz109_0,hcz109_1⟩ := cO2 BK687.out
             have hfz109_0 := blk_frozen BK687.out 0
             have hfz109_1 := blk_frozen BK687.out 1
             go_wp2_with (first | ((with_reducible refine gate_callee (f := 26) rfl ?_);refine goesL_ (some 84) rfl rfl Tryz.func26 (by kernel_rfl) rfl #[.agg #[.int .i64 t684,.int .i64 t685]] rfl (by (try simp only [List.map_toArray,List.map_cons,List.map_nil]);first | done | rfl | (simp only [List.length_drop,List.length_take];rfl)) ?_;(with_reducible refine (q4_Flow.calls t684 t685 false _ A91.out).mono ?_);rintro e w110 ⟨rfl,hb⟩;refine ⟨_,rfl,?_⟩;replace BK677 := am (blk_below (g := gb677) (o := .cells #[.slice A0_0 l0_0.length c0_0,.int .i64 a0_1,.slice A0_2 l0_2.length c0_2,.int .i64 a0_3,.int .i64 a0_4] 27 (0,0)) (by (with_reducible repeat (first | refine blk_drewN ?_ _ | refine blk_drew ?_ | refine blk_alloc ?_ _));exact BK677.out) hb);replace BK678 := am (blk_below (g := gb678) (o := .cells #[.int .i64 a1_0,.int .i64 a1_1] 40 (0,0)) (by (with_reducible repeat (first | refine blk_drewN ?_ _ | refine blk_drew ?_ | refine blk_alloc ?_ _));exact BK678.out) hb);replace BK687 := am (blk_below (g := gb687) (o := .cells #[.int .i64 t684,.int .i64 t685] 40 (0,0)) (by (with_reducible repeat (first | refine blk_drewN ?_ _ | refine blk_drew ?_ | refine blk_alloc ?_ _));exact BK687.out) hb);replace BK691 := am (blk_below (g := gb691) (o := .cells #[.int .i64 t688,.int .i64 t689] 40 (0,0)) (by (with_reducible repeat (first | refine blk_drewN ?_ _ | refine blk_drew ?_ | refine blk_alloc ?_ _));exact BK691.out) hb);replace HB := am (below_step (by repeat (first | (with_reducible first | exact HB.out | refine below_set ?_ (Aside0.out (by assumption)) | apply below_alloc | apply pw_below_drewN) | exact HB.out)) hb);(try clear hb);(try clear hb2);(try clear hk);(try clear hi)))
             go_meet
             case rel => exact ⟨_,(true),(by first | rfl | (simp;done) | (simp [*];done)),H',⟨by have := HJ3.out;have := HJ40.out;have := HJ72.out;first | omega | exact Nat.le_refl _⟩,⟨by (with_reducible repeat (first | refine blk_drewN ?_ _ | refine blk_drew ?_ | refine blk_alloc ?_ _));exact BK677.out⟩,⟨by (with_reducible repeat (first | refine blk_drewN ?_ _ | refine blk_drew ?_ | refine blk_alloc ?_ _));exact BK678.out⟩,⟨by (with_reducible repeat (first | refine blk_drewN ?_ _ | refine blk_drew ?_ | refine blk_alloc ?_ _));exact BK687.out⟩,⟨by (with_reducible repeat (first | refine blk_drewN ?_ _ | refine blk_drew ?_ | refine blk_alloc ?_ _));exact BK691.out⟩,⟨by repeat (first | (with_reducible first | exact HB.out | refine below_set ?_ (Aside0.out (by assumption)) | apply below_alloc | apply pw_below_drewN) | exact HB.out)⟩⟩
            subst c92
            replace H : (if a2 ≥ t684 then (l4_CastleSeen.j3 kj72 (x11_72 != (decide (a2 ≤ t685))) l0_0 a0_1 l0_2 a0_3 a0_4 a1_0 a1_1 t684 t685) else (l4_CastleSeen.j3 kj72 (x11_72 != false) l0_0 a0_1 l0_2 a0_3 a0_4 a1_0 a1_1 t684 t685)) = some r := by rw [if_pos rfl] at H;exact H
            by_cases c93 : a2 ≥ t684
            · rw [if_pos c93] at H
              have c93b0 : decide (t684 ≤ a2) = true := decide_eq_true c93
              clear c93
              (first | rw [c93b0] | (simp only [i64_w,i32_w];rw [c93b0]) | skip)
              replace H' := am H
              have hnb94 := NB687_677.out
              have hnc94 := NB677_687.out
              have hnb95 := NB687_678.out
              have hnc95 := NB678_687.out
              have hnb96 := NB687_691.out
              have hnc96 := NB691_687.out
              obtain ⟨hcz97_0,hcz97_1⟩ := cO2 BK687.out
              have hfz97_0 := blk_frozen BK687.out 0
              have hfz97_1 := blk_frozen BK687.out 1
              go_wp2_with (first | ((with_reducible refine gate_callee (f := 26) rfl ?_);refine goesL_ (some 84) rfl rfl Tryz.func26 (by kernel_rfl) rfl #[.agg #[.int .i64 t684,.int .i64 t685]] rfl (by (try simp only [List.map_toArray,List.map_cons,List.map_nil]);first | done | rfl | (simp only [List.length_drop,List.length_take];rfl)) ?_;(with_reducible refine (q4_Flow.calls t684 t685 true _ A91.out).mono ?_);rintro e w98 ⟨rfl,hb⟩;refine ⟨_,rfl,?_⟩;replace BK677 := am (blk_below (g := gb677) (o := .cells #[.slice A0_0 l0_0.length c0_0,.int .i64 a0_1,.slice A0_2 l0_2.length c0_2,.int .i64 a0_3,.int .i64 a0_4] 27 (0,0)) (by (with_reducible repeat (first | refine blk_drewN ?_ _ | refine blk_drew ?_ | refine blk_alloc ?_ _));exact BK677.out) hb);replace BK678 := am (blk_below (g := gb678) (o := .cells #[.int .i64 a1_0,.int .i64 a1_1] 40 (0,0)) (by (with_reducible repeat (first | refine blk_drewN ?_ _ | refine blk_drew ?_ | refine blk_alloc ?_ _));exact BK678.out) hb);replace BK687 := am (blk_below (g := gb687) (o := .cells #[.int .i64 t684,.int .i64 t685] 40 (0,0)) (by (with_reducible repeat (first | refine blk_drewN ?_ _ | refine blk_drew ?_ | refine blk_alloc ?_ _));exact BK687.out) hb);replace BK691 := am (blk_below (g := gb691) (o := .cells #[.int .i64 t688,.int .i64 t689] 40 (0,0)) (by (with_reducible repeat (first | refine blk_drewN ?_ _ | refine blk_drew ?_ | refine blk_alloc ?_ _));exact BK691.out) hb);replace HB := am (below_step (by repeat (first | (with_reducible first | exact HB.out | refine below_set ?_ (Aside0.out (by assumption)) | apply below_alloc | apply pw_below_drewN) | exact HB.out)) hb);(try clear hb);(try clear hb2);(try clear hk);(try clear hi);obtain ⟨hcz99_0,hcz99_1⟩ := cO2 BK687.out;have hfz99_0 := blk_frozen BK687.out 0;have hfz99_1 := blk_frozen BK687.out 1))
              go_meet
              case rel => exact ⟨_,((x11_72 != (decide (a2 ≤ t685)))),(by first | rfl | (simp;done) | (simp [*];done)),H',⟨by have := HJ3.out;have := HJ40.out;have := HJ72.out;first | omega | exact Nat.le_refl _⟩,⟨by (with_reducible repeat (first | refine blk_drewN ?_ _ | refine blk_drew ?_ | refine blk_alloc ?_ _));exact BK677.out⟩,⟨by (with_reducible repeat (first | refine blk_drewN ?_ _ | refine blk_drew ?_ | refine blk_alloc ?_ _));exact BK678.out⟩,⟨by (with_reducible repeat (first | refine blk_drewN ?_ _ | refine blk_drew ?_ | refine blk_alloc ?_ _));exact BK687.out⟩,⟨by (with_reducible repeat (first | refine blk_drewN ?_ _ | refine blk_drew ?_ | refine blk_alloc ?_ _));exact BK691.out⟩,⟨by repeat (first | (with_reducible first | exact HB.out | refine below_set ?_ (Aside0.out (by assumption)) | apply below_alloc | apply pw_below_drewN) | exact HB.out)⟩⟩
            · rw [if_neg c93] at H
              have c93b0 : decide (t684 ≤ a2) = false := decide_eq_false c93
              clear c93
              (first | rw [c93b0] | (simp only [i64_w,i32_w];rw [c93b0]) | skip)
              replace H' := am H
              have hnb100 := NB687_677.out
              have hnc100 := NB677_687.out
              have hnb101 := NB687_678.out
              have hnc101 := NB678_687.out
              have hnb102 := NB687_691.out
              have hnc102 := NB691_687.out
              obtain ⟨hcz103_0,hcz103_1⟩ := cO2 BK687.out
              have hfz103_0 := blk_frozen BK687.out 0
              have hfz103_1 := blk_frozen BK687.out 1
              go_wp2_with (first | ((with_reducible refine gate_callee (f := 26) rfl ?_);refine goesL_ (some 84) rfl rfl Tryz.func26 (by kernel_rfl) rfl #[.agg #[.int .i64 t684,.int .i64 t685]] rfl (by (try simp only [List.map_toArray,List.map_cons,List.map_nil]);first | done | rfl | (simp only [List.length_drop,List.length_take];rfl)) ?_;(with_reducible refine (q4_Flow.calls t684 t685 true _ A91.out).mono ?_);rintro e w104 ⟨rfl,hb⟩;refine ⟨_,rfl,?_⟩;replace BK677 := am (blk_below (g := gb677) (o := .cells #[.slice A0_0 l0_0.length c0_0,.int .i64 a0_1,.slice A0_2 l0_2.length c0_2,.int .i64 a0_3,.int .i64 a0_4] 27 (0,0)) (by (with_reducible repeat (first | refine blk_drewN ?_ _ | refine blk_drew ?_ | refine blk_alloc ?_ _));exact BK677.out) hb);replace BK678 := am (blk_below (g := gb678) (o := .cells #[.int .i64 a1_0,.int .i64 a1_1] 40 (0,0)) (by (with_reducible repeat (first | refine blk_drewN ?_ _ | refine blk_drew ?_ | refine blk_alloc ?_ _));exact BK678.out) hb);replace BK687 := am (blk_below (g := gb687) (o := .cells #[.int .i64 t684,.int .i64 t685] 40 (0,0)) (by (with_reducible repeat (first | refine blk_drewN ?_ _ | refine blk_drew ?_ | refine blk_alloc ?_ _));exact BK687.out) hb);replace BK691 := am (blk_below (g := gb691) (o := .cells #[.int .i64 t688,.int .i64 t689] 40 (0,0)) (by (with_reducible repeat (first | refine blk_drewN ?_ _ | refine blk_drew ?_ | refine blk_alloc ?_ _));exact BK691.out) hb);replace HB := am (below_step (by repeat (first | (with_reducible first | exact HB.out | refine below_set ?_ (Aside0.out (by assumption)) | apply below_alloc | apply pw_below_drewN) | exact HB.out)) hb);(try clear hb);(try clear hb2);(try clear hk);(try clear hi);obtain ⟨hcz105_0,hcz105_1⟩ := cO2 BK687.out;have hfz105_0 := blk_frozen BK687.out 0;have hfz105_1 := blk_frozen BK687.out 1))
              go_meet
              case rel => exact ⟨_,((x11_72 != false)),(by first | rfl | (simp;done) | (simp [*];done)),H',⟨by have := HJ3.out;have := HJ40.out;have := HJ72.out;first | omega | exact Nat.le_refl _⟩,⟨by (with_reducible repeat (first | refine blk_drewN ?_ _ | refine blk_drew ?_ | refine blk_alloc ?_ _));exact BK677.out⟩,⟨by (with_reducible repeat (first | refine blk_drewN ?_ _ | refine blk_drew ?_ | refine blk_alloc ?_ _));exact BK678.out⟩,⟨by (with_reducible repeat (first | refine blk_drewN ?_ _ | refine blk_drew ?_ | refine blk_alloc ?_ _));exact BK687.out⟩,⟨by (with_reducible repeat (first | refine blk_drewN ?_ _ | refine blk_drew ?_ | refine blk_alloc ?_ _));exact BK691.out⟩,⟨by repeat (first | (with_reducible first | exact HB.out | refine below_set ?_ (Aside0.out (by assumption)) | apply below_alloc | apply pw_below_drewN) | exact HB.out)⟩⟩
           case rest =>
            clear HC90
            try clear c1
            try clear c2
            try clear p2
            try clear c3
            try clear c4
            try clear c5
            try clear c6
            try clear c7
            try clear c8
            try clear c9
            try clear c10
            try clear c12
            try clear c14
            try clear c15
            try clear c21
            try clear c22
            try clear c26
            try clear c28
            try clear c30
            try clear c33
            try clear c36
            try clear c42
            try clear c47
            try clear c48
            try clear c53
            try clear c54
            try clear c55
            try clear c57
            try clear c57b0
            try clear c57b1
            try clear c58
            try clear c58b0
            try clear c58b1
            try clear c59
            try clear c59b0
            try clear c59b1
            try clear c60
            try clear c61
            try clear c62
            try clear c64
            try clear c65
            try clear c66
            try clear c68
            try clear c69
            try clear c70
            try clear c72
            try clear c74
            try clear c74b0
            try clear c75
            try clear c76
            try clear c77
            try clear c79
            try clear c80
            try clear c82
            try clear c83
            try clear c84
            try clear c86
            try clear c87
            try clear c89
            try clear c89b0
            try clear c89b1
            try clear c92
            try clear c93
            try clear c93b0
            try clear c94
            try clear c95
            try clear c96
            try clear c100
            try clear c101
            try clear c102
            try clear c106
            try clear c107
            try clear c108
            try clear hcz103_0
            try clear hcz103_1
            try clear hcz105_0
            try clear hcz105_1
            try clear hcz109_0
            try clear hcz109_1
            try clear hcz15_0
            try clear hcz15_1
            try clear hcz15_2
            try clear hcz15_3
            try clear hcz15_4
            try clear hcz17_0
            try clear hcz17_1
            try clear hcz17_2
            try clear hcz17_3
            try clear hcz17_4
            try clear hcz19_0
            try clear hcz19_1
            try clear hcz22_0
            try clear hcz22_1
            try clear hcz22_2
            try clear hcz22_3
            try clear hcz22_4
            try clear hcz24_0
            try clear hcz24_1
            try clear hcz24_2
            try clear hcz24_3
            try clear hcz24_4
            try clear hcz26_0
            try clear hcz26_1
            try clear hcz29_0
            try clear hcz29_1
            try clear hcz29_2
            try clear hcz29_3
            try clear hcz29_4
            try clear hcz31_0
            try clear hcz31_1
            try clear hcz31_2
            try clear hcz31_3
            try clear hcz31_4
            try clear hcz34_0
            try clear hcz34_1
            try clear hcz34_2
            try clear hcz34_3
            try clear hcz34_4
            try clear hcz43_0
            try clear hcz43_1
            try clear hcz43_2
            try clear hcz43_3
            try clear hcz43_4
            try clear hcz44_0
            try clear hcz44_1
            try clear hcz49_0
            try clear hcz49_1
            try clear hcz50_0
            try clear hcz50_1
            try clear hcz50_2
            try clear hcz50_3
            try clear hcz50_4
            try clear hcz56_0
            try clear hcz56_1
            try clear hcz63_0
            try clear hcz63_1
            try clear hcz67_0
            try clear hcz67_1
            try clear hcz71_0
            try clear hcz71_1
            try clear hcz78_0
            try clear hcz78_1
            try clear hcz81_0
            try clear hcz81_1
            try clear hcz85_0
            try clear hcz85_1
            try clear hcz88_0
            try clear hcz88_1
            try clear hcz97_0
            try clear hcz97_1
            try clear hcz99_0
            try clear hcz99_1
            try clear hfz103_0
            try clear hfz103_1
            try clear hfz105_0
            try clear hfz105_1
            try clear hfz109_0
            try clear hfz109_1
            try clear hfz15_0
            try clear hfz15_1
            try clear hfz15_2
            try clear hfz15_3
            try clear hfz15_4
            try clear hfz17_0
            try clear hfz17_1
            try clear hfz17_2
            try clear hfz17_3
            try clear hfz17_4
            try clear hfz19_0
            try clear hfz19_1
            try clear hfz22_0
            try clear hfz22_1
            try clear hfz22_2
            try clear hfz22_3
            try clear hfz22_4
            try clear hfz24_0
            try clear hfz24_1
            try clear hfz24_2
            try clear hfz24_3
            try clear hfz24_4
            try clear hfz26_0
            try clear hfz26_1
            try clear hfz29_0
            try clear hfz29_1
            try clear hfz29_2
            try clear hfz29_3
            try clear hfz29_4
            try clear hfz31_0
            try clear hfz31_1
            try clear hfz31_2
            try clear hfz31_3
            try clear hfz31_4
            try clear hfz34_0
            try clear hfz34_1
            try clear hfz34_2
            try clear hfz34_3
            try clear hfz34_4
            try clear hfz43_0
            try clear hfz43_1
            try clear hfz43_2
            try clear hfz43_3
            try clear hfz43_4
            try clear hfz44_0
            try clear hfz44_1
            try clear hfz49_0
            try clear hfz49_1
            try clear hfz50_0
            try clear hfz50_1
            try clear hfz50_2
            try clear hfz50_3
            try clear hfz50_4
            try clear hfz56_0
            try clear hfz56_1
            try clear hfz63_0
            try clear hfz63_1
            try clear hfz67_0
            try clear hfz67_1
            try clear hfz71_0
            try clear hfz71_1
            try clear hfz78_0
            try clear hfz78_1
            try clear hfz81_0
            try clear hfz81_1
            try clear hfz85_0
            try clear hfz85_1
            try clear hfz88_0
            try clear hfz88_1
            try clear hfz97_0
            try clear hfz97_1
            try clear hfz99_0
            try clear hfz99_1
            try clear p2
            obtain ⟨kq,x99_89,rfl,HA,HJ89,BK677,BK678,BK687,BK691,HB⟩ := hcut
            cases kq with
            | zero => exact absurd HA.out (by simp [l4_CastleSeen.j3])
            | succ kj89 =>
             have H := HA.out
             clear HA
             simp only [l4_CastleSeen.j3] at H
             by_cases c111 : x99_89 = true
             · subst c111
               replace H : (some false) = some r := by rw [if_pos rfl] at H;exact H
               obtain rfl := Option.some.inj H
               go_wp2
               go_ret
               exact ⟨by first | rfl | (simp [*] <;> rfl),by repeat (first | (with_reducible first | exact HB.out | refine below_set ?_ (Aside0.out (by assumption)) | apply below_alloc | apply pw_below_drewN) | exact HB.out)⟩
             · replace c111 := Bool.eq_false_iff.mpr c111
               subst c111
               replace H : ((ca_Level.f kj89 l0_0 a0_1 l0_2 a0_3 a0_4 t684 t685).bind fun bt694 => (if bt694.2.2 = 0 then (if bt694.1 ≥ a1_0 then (if bt694.2.1 ≤ a1_1 then ((l4_known.f).bind fun t698 => (some t698)) else (some false)) else (some false)) else (some false))) = some r := by rw [if_neg (show ¬ (false = true) by decide)] at H;exact H
               replace H := obm H
               obtain ⟨⟨t694,t695,t696⟩,A1120,H⟩ := H
               replace H : (if t696 = 0 then (if t694 ≥ a1_0 then (if t695 ≤ a1_1 then ((l4_known.f).bind fun t698 => (some t698)) else (some false)) else (some false)) else (some false)) = some r := H
               have A112 := am A1120
               clear A1120
               by_cases c113 : t696 = 0
               case neg =>
                rw [if_neg c113] at H
                have c113b0 : (t696 == 0) = false := beq_eq_false_iff_ne.mpr c113
                have c113b1 : (t696 != 0) = true := bne_iff_ne.mpr c113
                obtain rfl := Option.some.inj H
                have hnb166 := NB677_678.out
                have hnc166 := NB678_677.out
                have hnb167 := NB677_687.out
                have hnc167 := NB687_677.out
                have hnb168 := NB677_691.out
                have hnc168 := NB691_677.out
                obtain ⟨hcz169_0,hcz169_1,hcz169_2,hcz169_3,hcz169_4⟩ := cO5 BK677.out
                have hfz169_0 := blk_frozen BK677.out 0
                have hfz169_1 := blk_frozen BK677.out 1
                have hfz169_2 := blk_frozen BK677.out 2
                have hfz169_3 := blk_frozen BK677.out 3
                have hfz169_4 := blk_frozen BK677.out 4
                have hnb170 := NB687_678.out
                have hnc170 := NB678_687.out
                have hnb171 := NB687_691.out
                have hnc171 := NB691_687.out
                obtain ⟨hcz172_0,hcz172_1⟩ := cO2 BK687.out
                have hfz172_0 := blk_frozen BK687.out 0
                have hfz172_1 := blk_frozen BK687.out 1
                go_wp2_with (first | ((with_reducible refine gate_callee (f := 22) rfl ?_);refine goesL_ (some 103) rfl rfl Tryz.func22 (by kernel_rfl) rfl #[.agg #[.slice A0_0 l0_0.length c0_0,.int .i64 a0_1,.slice A0_2 l0_2.length c0_2,.int .i64 a0_3,.int .i64 a0_4],.agg #[.int .i64 t684,.int .i64 t685]] rfl (by (try simp only [List.map_toArray,List.map_cons,List.map_nil]);first | done | rfl | (simp only [List.length_drop,List.length_take];rfl)) ?_;(with_reducible refine (ca_Level.calls kj89 _ _ l0_0 a0_1 _ _ l0_2 a0_3 a0_4 t684 t685 t694 t695 t696 _ ?side1 ?side2 ?side3 ?side4 A112.out).mono ?_);(case side1 => repeat (first | exact (kC HR0_0.out HB.out) | (with_reducible refine Kd.C_alloc ?_ _) | (with_reducible refine Kd.C_drewN ?_ _) | (with_reducible refine Kd.C_drew ?_)));(case side2 => exact HC0_0.out);(case side3 => repeat (first | exact (kC HR0_2.out HB.out) | (with_reducible refine Kd.C_alloc ?_ _) | (with_reducible refine Kd.C_drewN ?_ _) | (with_reducible refine Kd.C_drew ?_)));(case side4 => exact HC0_2.out);rintro e w173 ⟨rfl,hb⟩;refine ⟨_,rfl,?_⟩;replace BK677 := am (blk_below (g := gb677) (o := .cells #[.slice A0_0 l0_0.length c0_0,.int .i64 a0_1,.slice A0_2 l0_2.length c0_2,.int .i64 a0_3,.int .i64 a0_4] 27 (0,0)) (by (with_reducible repeat (first | refine blk_drewN ?_ _ | refine blk_drew ?_ | refine blk_alloc ?_ _));exact BK677.out) hb);replace BK678 := am (blk_below (g := gb678) (o := .cells #[.int .i64 a1_0,.int .i64 a1_1] 40 (0,0)) (by (with_reducible repeat (first | refine blk_drewN ?_ _ | refine blk_drew ?_ | refine blk_alloc ?_ _));exact BK678.out) hb);replace BK687 := am (blk_below (g := gb687) (o := .cells #[.int .i64 t684,.int .i64 t685] 40 (0,0)) (by (with_reducible repeat (first | refine blk_drewN ?_ _ | refine blk_drew ?_ | refine blk_alloc ?_ _));exact BK687.out) hb);replace BK691 := am (blk_below (g := gb691) (o := .cells #[.int .i64 t688,.int .i64 t689] 40 (0,0)) (by (with_reducible repeat (first | refine blk_drewN ?_ _ | refine blk_drew ?_ | refine blk_alloc ?_ _));exact BK691.out) hb);replace HB := am (below_step (by repeat (first | (with_reducible first | exact HB.out | refine below_set ?_ (Aside0.out (by assumption)) | apply below_alloc | apply pw_below_drewN) | exact HB.out)) hb);(try clear hb);(try clear hb2);(try clear hk);(try clear hi)) | ((with_reducible refine gate_dst (N := 12) rfl ?_);refine box_event ?hg (N := 12) ?hd (cs := #[.int .i64 0,.int .i64 0]) (t := 40) ?hr ?_;(case hd => rfl);(case hg => rfl);(case hr => go_simp;try rfl);intro gb697 hg w174 hbox hb;have BK697 := am (hbox);have GW697 := am (ge_new (by repeat (first | (with_reducible first | exact HB.out | refine below_set ?_ (Aside0.out (by assumption)) | apply below_alloc | apply pw_below_drewN) | exact HB.out)) hg);have GE697 := am (ge_new (by repeat (first | (with_reducible first | exact HB.out | refine below_set ?_ (Aside0.out (by assumption)) | apply below_alloc | apply pw_below_drewN) | exact HB.out)) hg);have NB677_697 := am ((by rw [hg];exact Nat.ne_of_lt (blk_lt (g := gb677) (o := .cells #[.slice A0_0 l0_0.length c0_0,.int .i64 a0_1,.slice A0_2 l0_2.length c0_2,.int .i64 a0_3,.int .i64 a0_4] 27 (0,0)) (by (with_reducible repeat (first | refine blk_drewN ?_ _ | refine blk_drew ?_ | refine blk_alloc ?_ _));exact BK677.out)) : gb677 ≠ gb697));have NB697_677 := am ((by rw [hg];exact Nat.ne_of_gt (blk_lt (g := gb677) (o := .cells #[.slice A0_0 l0_0.length c0_0,.int .i64 a0_1,.slice A0_2 l0_2.length c0_2,.int .i64 a0_3,.int .i64 a0_4] 27 (0,0)) (by (with_reducible repeat (first | refine blk_drewN ?_ _ | refine blk_drew ?_ | refine blk_alloc ?_ _));exact BK677.out)) : gb697 ≠ gb677));have NB678_697 := am ((by rw [hg];exact Nat.ne_of_lt (blk_lt (g := gb678) (o := .cells #[.int .i64 a1_0,.int .i64 a1_1] 40 (0,0)) (by (with_reducible repeat (first | refine blk_drewN ?_ _ | refine blk_drew ?_ | refine blk_alloc ?_ _));exact BK678.out)) : gb678 ≠ gb697));have NB697_678 := am ((by rw [hg];exact Nat.ne_of_gt (blk_lt (g := gb678) (o := .cells #[.int .i64 a1_0,.int .i64 a1_1] 40 (0,0)) (by (with_reducible repeat (first | refine blk_drewN ?_ _ | refine blk_drew ?_ | refine blk_alloc ?_ _));exact BK678.out)) : gb697 ≠ gb678));have NB687_697 := am ((by rw [hg];exact Nat.ne_of_lt (blk_lt (g := gb687) (o := .cells #[.int .i64 t684,.int .i64 t685] 40 (0,0)) (by (with_reducible repeat (first | refine blk_drewN ?_ _ | refine blk_drew ?_ | refine blk_alloc ?_ _));exact BK687.out)) : gb687 ≠ gb697));have NB697_687 := am ((by rw [hg];exact Nat.ne_of_gt (blk_lt (g := gb687) (o := .cells #[.int .i64 t684,.int .i64 t685] 40 (0,0)) (by (with_reducible repeat (first | refine blk_drewN ?_ _ | refine blk_drew ?_ | refine blk_alloc ?_ _));exact BK687.out)) : gb697 ≠ gb687));have NB691_697 := am ((by rw [hg];exact Nat.ne_of_lt (blk_lt (g := gb691) (o := .cells #[.int .i64 t688,.int .i64 t689] 40 (0,0)) (by (with_reducible repeat (first | refine blk_drewN ?_ _ | refine blk_drew ?_ | refine blk_alloc ?_ _));exact BK691.out)) : gb691 ≠ gb697));have NB697_691 := am ((by rw [hg];exact Nat.ne_of_gt (blk_lt (g := gb691) (o := .cells #[.int .i64 t688,.int .i64 t689] 40 (0,0)) (by (with_reducible repeat (first | refine blk_drewN ?_ _ | refine blk_drew ?_ | refine blk_alloc ?_ _));exact BK691.out)) : gb697 ≠ gb691));replace BK677 := am (blk_below (g := gb677) (o := .cells #[.slice A0_0 l0_0.length c0_0,.int .i64 a0_1,.slice A0_2 l0_2.length c0_2,.int .i64 a0_3,.int .i64 a0_4] 27 (0,0)) (by (with_reducible repeat (first | refine blk_drewN ?_ _ | refine blk_drew ?_ | refine blk_alloc ?_ _));exact BK677.out) hb);replace BK678 := am (blk_below (g := gb678) (o := .cells #[.int .i64 a1_0,.int .i64 a1_1] 40 (0,0)) (by (with_reducible repeat (first | refine blk_drewN ?_ _ | refine blk_drew ?_ | refine blk_alloc ?_ _));exact BK678.out) hb);replace BK687 := am (blk_below (g := gb687) (o := .cells #[.int .i64 t684,.int .i64 t685] 40 (0,0)) (by (with_reducible repeat (first | refine blk_drewN ?_ _ | refine blk_drew ?_ | refine blk_alloc ?_ _));exact BK687.out) hb);replace BK691 := am (blk_below (g := gb691) (o := .cells #[.int .i64 t688,.int .i64 t689] 40 (0,0)) (by (with_reducible repeat (first | refine blk_drewN ?_ _ | refine blk_drew ?_ | refine blk_alloc ?_ _));exact BK691.out) hb);replace HB := am (below_step (by repeat (first | (with_reducible first | exact HB.out | refine below_set ?_ (Aside0.out (by assumption)) | apply below_alloc | apply pw_below_drewN) | exact HB.out)) hb);clear hb hbox hg;have hnb175 := NB697_677.out;have hnc175 := NB677_697.out;have hnb176 := NB697_678.out;have hnc176 := NB678_697.out;have hnb177 := NB697_687.out;have hnc177 := NB687_697.out;have hnb178 := NB697_691.out;have hnc178 := NB691_697.out;obtain ⟨hcz179_0,hcz179_1⟩ := cO2 BK697.out;have hfz179_0 := blk_frozen BK697.out 0;have hfz179_1 := blk_frozen BK697.out 1))
                go_ret
                exact ⟨by first | rfl | (simp [*] <;> rfl),by repeat (first | (with_reducible first | exact HB.out | refine below_set ?_ (Aside0.out (by assumption)) | apply below_alloc | apply pw_below_drewN) | exact HB.out)⟩
               rw [if_pos c113] at H
               have c113b0 : (t696 == 0) = true := beq_iff_eq.mpr c113
               have c113b1 : (t696 != 0) = false := bne_eq_false_iff_eq.mpr c113
               clear c113
               by_cases c114 : t694 ≥ a1_0
               case neg =>
                rw [if_neg c114] at H
                have c114b0 : decide (a1_0 ≤ t694) = false := decide_eq_false c114
                clear c114
                obtain rfl := Option.some.inj H
                have hnb150 := NB677_678.out
                have hnc150 := NB678_677.out
                have hnb151 := NB677_687.out
                have hnc151 := NB687_677.out
                have hnb152 := NB677_691.out
                have hnc152 := NB691_677.out
                obtain ⟨hcz153_0,hcz153_1,hcz153_2,hcz153_3,hcz153_4⟩ := cO5 BK677.out
                have hfz153_0 := blk_frozen BK677.out 0
                have hfz153_1 := blk_frozen BK677.out 1
                have hfz153_2 := blk_frozen BK677.out 2
                have hfz153_3 := blk_frozen BK677.out 3
                have hfz153_4 := blk_frozen BK677.out 4
                have hnb154 := NB687_678.out
                have hnc154 := NB678_687.out
                have hnb155 := NB687_691.out
                have hnc155 := NB691_687.out
                obtain ⟨hcz156_0,hcz156_1⟩ := cO2 BK687.out
                have hfz156_0 := blk_frozen BK687.out 0
                have hfz156_1 := blk_frozen BK687.out 1
                go_wp2_with (first | ((with_reducible refine gate_callee (f := 22) rfl ?_);refine goesL_ (some 103) rfl rfl Tryz.func22 (by kernel_rfl) rfl #[.agg #[.slice A0_0 l0_0.length c0_0,.int .i64 a0_1,.slice A0_2 l0_2.length c0_2,.int .i64 a0_3,.int .i64 a0_4],.agg #[.int .i64 t684,.int .i64 t685]] rfl (by (try simp only [List.map_toArray,List.map_cons,List.map_nil]);first | done | rfl | (simp only [List.length_drop,List.length_take];rfl)) ?_;(with_reducible refine (ca_Level.calls kj89 _ _ l0_0 a0_1 _ _ l0_2 a0_3 a0_4 t684 t685 t694 t695 t696 _ ?side1 ?side2 ?side3 ?side4 A112.out).mono ?_);(case side1 => repeat (first | exact (kC HR0_0.out HB.out) | (with_reducible refine Kd.C_alloc ?_ _) | (with_reducible refine Kd.C_drewN ?_ _) | (with_reducible refine Kd.C_drew ?_)));(case side2 => exact HC0_0.out);(case side3 => repeat (first | exact (kC HR0_2.out HB.out) | (with_reducible refine Kd.C_alloc ?_ _) | (with_reducible refine Kd.C_drewN ?_ _) | (with_reducible refine Kd.C_drew ?_)));(case side4 => exact HC0_2.out);rintro e w157 ⟨rfl,hb⟩;refine ⟨_,rfl,?_⟩;replace BK677 := am (blk_below (g := gb677) (o := .cells #[.slice A0_0 l0_0.length c0_0,.int .i64 a0_1,.slice A0_2 l0_2.length c0_2,.int .i64 a0_3,.int .i64 a0_4] 27 (0,0)) (by (with_reducible repeat (first | refine blk_drewN ?_ _ | refine blk_drew ?_ | refine blk_alloc ?_ _));exact BK677.out) hb);replace BK678 := am (blk_below (g := gb678) (o := .cells #[.int .i64 a1_0,.int .i64 a1_1] 40 (0,0)) (by (with_reducible repeat (first | refine blk_drewN ?_ _ | refine blk_drew ?_ | refine blk_alloc ?_ _));exact BK678.out) hb);replace BK687 := am (blk_below (g := gb687) (o := .cells #[.int .i64 t684,.int .i64 t685] 40 (0,0)) (by (with_reducible repeat (first | refine blk_drewN ?_ _ | refine blk_drew ?_ | refine blk_alloc ?_ _));exact BK687.out) hb);replace BK691 := am (blk_below (g := gb691) (o := .cells #[.int .i64 t688,.int .i64 t689] 40 (0,0)) (by (with_reducible repeat (first | refine blk_drewN ?_ _ | refine blk_drew ?_ | refine blk_alloc ?_ _));exact BK691.out) hb);replace HB := am (below_step (by repeat (first | (with_reducible first | exact HB.out | refine below_set ?_ (Aside0.out (by assumption)) | apply below_alloc | apply pw_below_drewN) | exact HB.out)) hb);(try clear hb);(try clear hb2);(try clear hk);(try clear hi)) | ((with_reducible refine gate_dst (N := 12) rfl ?_);refine box_event ?hg (N := 12) ?hd (cs := #[.int .i64 0,.int .i64 0]) (t := 40) ?hr ?_;(case hd => rfl);(case hg => rfl);(case hr => go_simp;try rfl);intro gb697 hg w158 hbox hb;have BK697 := am (hbox);have GW697 := am (ge_new (by repeat (first | (with_reducible first | exact HB.out | refine below_set ?_ (Aside0.out (by assumption)) | apply below_alloc | apply pw_below_drewN) | exact HB.out)) hg);have GE697 := am (ge_new (by repeat (first | (with_reducible first | exact HB.out | refine below_set ?_ (Aside0.out (by assumption)) | apply below_alloc | apply pw_below_drewN) | exact HB.out)) hg);have NB677_697 := am ((by rw [hg];exact Nat.ne_of_lt (blk_lt (g := gb677) (o := .cells #[.slice A0_0 l0_0.length c0_0,.int .i64 a0_1,.slice A0_2 l0_2.length c0_2,.int .i64 a0_3,.int .i64 a0_4] 27 (0,0)) (by (with_reducible repeat (first | refine blk_drewN ?_ _ | refine blk_drew ?_ | refine blk_alloc ?_ _));exact BK677.out)) : gb677 ≠ gb697));have NB697_677 := am ((by rw [hg];exact Nat.ne_of_gt (blk_lt (g := gb677) (o := .cells #[.slice A0_0 l0_0.length c0_0,.int .i64 a0_1,.slice A0_2 l0_2.length c0_2,.int .i64 a0_3,.int .i64 a0_4] 27 (0,0)) (by (with_reducible repeat (first | refine blk_drewN ?_ _ | refine blk_drew ?_ | refine blk_alloc ?_ _));exact BK677.out)) : gb697 ≠ gb677));have NB678_697 := am ((by rw [hg];exact Nat.ne_of_lt (blk_lt (g := gb678) (o := .cells #[.int .i64 a1_0,.int .i64 a1_1] 40 (0,0)) (by (with_reducible repeat (first | refine blk_drewN ?_ _ | refine blk_drew ?_ | refine blk_alloc ?_ _));exact BK678.out)) : gb678 ≠ gb697));have NB697_678 := am ((by rw [hg];exact Nat.ne_of_gt (blk_lt (g := gb678) (o := .cells #[.int .i64 a1_0,.int .i64 a1_1] 40 (0,0)) (by (with_reducible repeat (first | refine blk_drewN ?_ _ | refine blk_drew ?_ | refine blk_alloc ?_ _));exact BK678.out)) : gb697 ≠ gb678));have NB687_697 := am ((by rw [hg];exact Nat.ne_of_lt (blk_lt (g := gb687) (o := .cells #[.int .i64 t684,.int .i64 t685] 40 (0,0)) (by (with_reducible repeat (first | refine blk_drewN ?_ _ | refine blk_drew ?_ | refine blk_alloc ?_ _));exact BK687.out)) : gb687 ≠ gb697));have NB697_687 := am ((by rw [hg];exact Nat.ne_of_gt (blk_lt (g := gb687) (o := .cells #[.int .i64 t684,.int .i64 t685] 40 (0,0)) (by (with_reducible repeat (first | refine blk_drewN ?_ _ | refine blk_drew ?_ | refine blk_alloc ?_ _));exact BK687.out)) : gb697 ≠ gb687));have NB691_697 := am ((by rw [hg];exact Nat.ne_of_lt (blk_lt (g := gb691) (o := .cells #[.int .i64 t688,.int .i64 t689] 40 (0,0)) (by (with_reducible repeat (first | refine blk_drewN ?_ _ | refine blk_drew ?_ | refine blk_alloc ?_ _));exact BK691.out)) : gb691 ≠ gb697));have NB697_691 := am ((by rw [hg];exact Nat.ne_of_gt (blk_lt (g := gb691) (o := .cells #[.int .i64 t688,.int .i64 t689] 40 (0,0)) (by (with_reducible repeat (first | refine blk_drewN ?_ _ | refine blk_drew ?_ | refine blk_alloc ?_ _));exact BK691.out)) : gb697 ≠ gb691));replace BK677 := am (blk_below (g := gb677) (o := .cells #[.slice A0_0 l0_0.length c0_0,.int .i64 a0_1,.slice A0_2 l0_2.length c0_2,.int .i64 a0_3,.int .i64 a0_4] 27 (0,0)) (by (with_reducible repeat (first | refine blk_drewN ?_ _ | refine blk_drew ?_ | refine blk_alloc ?_ _));exact BK677.out) hb);replace BK678 := am (blk_below (g := gb678) (o := .cells #[.int .i64 a1_0,.int .i64 a1_1] 40 (0,0)) (by (with_reducible repeat (first | refine blk_drewN ?_ _ | refine blk_drew ?_ | refine blk_alloc ?_ _));exact BK678.out) hb);replace BK687 := am (blk_below (g := gb687) (o := .cells #[.int .i64 t684,.int .i64 t685] 40 (0,0)) (by (with_reducible repeat (first | refine blk_drewN ?_ _ | refine blk_drew ?_ | refine blk_alloc ?_ _));exact BK687.out) hb);replace BK691 := am (blk_below (g := gb691) (o := .cells #[.int .i64 t688,.int .i64 t689] 40 (0,0)) (by (with_reducible repeat (first | refine blk_drewN ?_ _ | refine blk_drew ?_ | refine blk_alloc ?_ _));exact BK691.out) hb);replace HB := am (below_step (by repeat (first | (with_reducible first | exact HB.out | refine below_set ?_ (Aside0.out (by assumption)) | apply below_alloc | apply pw_below_drewN) | exact HB.out)) hb);clear hb hbox hg;have hnb159 := NB697_677.out;have hnc159 := NB677_697.out;have hnb160 := NB697_678.out;have hnc160 := NB678_697.out;have hnb161 := NB697_687.out;have hnc161 := NB687_697.out;have hnb162 := NB697_691.out;have hnc162 := NB691_697.out;obtain ⟨hcz163_0,hcz163_1⟩ := cO2 BK697.out;have hfz163_0 := blk_frozen BK697.out 0;have hfz163_1 := blk_frozen BK697.out 1;have hnb164 := NB678_691.out;have hnc164 := NB691_678.out;obtain ⟨hcz165_0,hcz165_1⟩ := cO2 BK678.out;have hfz165_0 := blk_frozen BK678.out 0;have hfz165_1 := blk_frozen BK678.out 1))
                go_ret
                exact ⟨by first | rfl | (simp [*] <;> rfl),by repeat (first | (with_reducible first | exact HB.out | refine below_set ?_ (Aside0.out (by assumption)) | apply below_alloc | apply pw_below_drewN) | exact HB.out)⟩
               rw [if_pos c114] at H
               have c114b0 : decide (a1_0 ≤ t694) = true := decide_eq_true c114
               clear c114
               by_cases c115 : t695 ≤ a1_1
               case neg =>
                rw [if_neg c115] at H
                have c115b0 : decide (t695 ≤ a1_1) = false := decide_eq_false c115
                clear c115
                obtain rfl := Option.some.inj H
                have hnb134 := NB677_678.out
                have hnc134 := NB678_677.out
                have hnb135 := NB677_687.out
                have hnc135 := NB687_677.out
                have hnb136 := NB677_691.out
                have hnc136 := NB691_677.out
                obtain ⟨hcz137_0,hcz137_1,hcz137_2,hcz137_3,hcz137_4⟩ := cO5 BK677.out
                have hfz137_0 := blk_frozen BK677.out 0
                have hfz137_1 := blk_frozen BK677.out 1
                have hfz137_2 := blk_frozen BK677.out 2
                have hfz137_3 := blk_frozen BK677.out 3
                have hfz137_4 := blk_frozen BK677.out 4
                have hnb138 := NB687_678.out
                have hnc138 := NB678_687.out
                have hnb139 := NB687_691.out
                have hnc139 := NB691_687.out
                obtain ⟨hcz140_0,hcz140_1⟩ := cO2 BK687.out
                have hfz140_0 := blk_frozen BK687.out 0
                have hfz140_1 := blk_frozen BK687.out 1
                go_wp2_with (first | ((with_reducible refine gate_callee (f := 22) rfl ?_);refine goesL_ (some 103) rfl rfl Tryz.func22 (by kernel_rfl) rfl #[.agg #[.slice A0_0 l0_0.length c0_0,.int .i64 a0_1,.slice A0_2 l0_2.length c0_2,.int .i64 a0_3,.int .i64 a0_4],.agg #[.int .i64 t684,.int .i64 t685]] rfl (by (try simp only [List.map_toArray,List.map_cons,List.map_nil]);first | done | rfl | (simp only [List.length_drop,List.length_take];rfl)) ?_;(with_reducible refine (ca_Level.calls kj89 _ _ l0_0 a0_1 _ _ l0_2 a0_3 a0_4 t684 t685 t694 t695 t696 _ ?side1 ?side2 ?side3 ?side4 A112.out).mono ?_);(case side1 => repeat (first | exact (kC HR0_0.out HB.out) | (with_reducible refine Kd.C_alloc ?_ _) | (with_reducible refine Kd.C_drewN ?_ _) | (with_reducible refine Kd.C_drew ?_)));(case side2 => exact HC0_0.out);(case side3 => repeat (first | exact (kC HR0_2.out HB.out) | (with_reducible refine Kd.C_alloc ?_ _) | (with_reducible refine Kd.C_drewN ?_ _) | (with_reducible refine Kd.C_drew ?_)));(case side4 => exact HC0_2.out);rintro e w141 ⟨rfl,hb⟩;refine ⟨_,rfl,?_⟩;replace BK677 := am (blk_below (g := gb677) (o := .cells #[.slice A0_0 l0_0.length c0_0,.int .i64 a0_1,.slice A0_2 l0_2.length c0_2,.int .i64 a0_3,.int .i64 a0_4] 27 (0,0)) (by (with_reducible repeat (first | refine blk_drewN ?_ _ | refine blk_drew ?_ | refine blk_alloc ?_ _));exact BK677.out) hb);replace BK678 := am (blk_below (g := gb678) (o := .cells #[.int .i64 a1_0,.int .i64 a1_1] 40 (0,0)) (by (with_reducible repeat (first | refine blk_drewN ?_ _ | refine blk_drew ?_ | refine blk_alloc ?_ _));exact BK678.out) hb);replace BK687 := am (blk_below (g := gb687) (o := .cells #[.int .i64 t684,.int .i64 t685] 40 (0,0)) (by (with_reducible repeat (first | refine blk_drewN ?_ _ | refine blk_drew ?_ | refine blk_alloc ?_ _));exact BK687.out) hb);replace BK691 := am (blk_below (g := gb691) (o := .cells #[.int .i64 t688,.int .i64 t689] 40 (0,0)) (by (with_reducible repeat (first | refine blk_drewN ?_ _ | refine blk_drew ?_ | refine blk_alloc ?_ _));exact BK691.out) hb);replace HB := am (below_step (by repeat (first | (with_reducible first | exact HB.out | refine below_set ?_ (Aside0.out (by assumption)) | apply below_alloc | apply pw_below_drewN) | exact HB.out)) hb);(try clear hb);(try clear hb2);(try clear hk);(try clear hi)) | ((with_reducible refine gate_dst (N := 12) rfl ?_);refine box_event ?hg (N := 12) ?hd (cs := #[.int .i64 0,.int .i64 0]) (t := 40) ?hr ?_;(case hd => rfl);(case hg => rfl);(case hr => go_simp;try rfl);intro gb697 hg w142 hbox hb;have BK697 := am (hbox);have GW697 := am (ge_new (by repeat (first | (with_reducible first | exact HB.out | refine below_set ?_ (Aside0.out (by assumption)) | apply below_alloc | apply pw_below_drewN) | exact HB.out)) hg);have GE697 := am (ge_new (by repeat (first | (with_reducible first | exact HB.out | refine below_set ?_ (Aside0.out (by assumption)) | apply below_alloc | apply pw_below_drewN) | exact HB.out)) hg);have NB677_697 := am ((by rw [hg];exact Nat.ne_of_lt (blk_lt (g := gb677) (o := .cells #[.slice A0_0 l0_0.length c0_0,.int .i64 a0_1,.slice A0_2 l0_2.length c0_2,.int .i64 a0_3,.int .i64 a0_4] 27 (0,0)) (by (with_reducible repeat (first | refine blk_drewN ?_ _ | refine blk_drew ?_ | refine blk_alloc ?_ _));exact BK677.out)) : gb677 ≠ gb697));have NB697_677 := am ((by rw [hg];exact Nat.ne_of_gt (blk_lt (g := gb677) (o := .cells #[.slice A0_0 l0_0.length c0_0,.int .i64 a0_1,.slice A0_2 l0_2.length c0_2,.int .i64 a0_3,.int .i64 a0_4] 27 (0,0)) (by (with_reducible repeat (first | refine blk_drewN ?_ _ | refine blk_drew ?_ | refine blk_alloc ?_ _));exact BK677.out)) : gb697 ≠ gb677));have NB678_697 := am ((by rw [hg];exact Nat.ne_of_lt (blk_lt (g := gb678) (o := .cells #[.int .i64 a1_0,.int .i64 a1_1] 40 (0,0)) (by (with_reducible repeat (first | refine blk_drewN ?_ _ | refine blk_drew ?_ | refine blk_alloc ?_ _));exact BK678.out)) : gb678 ≠ gb697));have NB697_678 := am ((by rw [hg];exact Nat.ne_of_gt (blk_lt (g := gb678) (o := .cells #[.int .i64 a1_0,.int .i64 a1_1] 40 (0,0)) (by (with_reducible repeat (first | refine blk_drewN ?_ _ | refine blk_drew ?_ | refine blk_alloc ?_ _));exact BK678.out)) : gb697 ≠ gb678));have NB687_697 := am ((by rw [hg];exact Nat.ne_of_lt (blk_lt (g := gb687) (o := .cells #[.int .i64 t684,.int .i64 t685] 40 (0,0)) (by (with_reducible repeat (first | refine blk_drewN ?_ _ | refine blk_drew ?_ | refine blk_alloc ?_ _));exact BK687.out)) : gb687 ≠ gb697));have NB697_687 := am ((by rw [hg];exact Nat.ne_of_gt (blk_lt (g := gb687) (o := .cells #[.int .i64 t684,.int .i64 t685] 40 (0,0)) (by (with_reducible repeat (first | refine blk_drewN ?_ _ | refine blk_drew ?_ | refine blk_alloc ?_ _));exact BK687.out)) : gb697 ≠ gb687));have NB691_697 := am ((by rw [hg];exact Nat.ne_of_lt (blk_lt (g := gb691) (o := .cells #[.int .i64 t688,.int .i64 t689] 40 (0,0)) (by (with_reducible repeat (first | refine blk_drewN ?_ _ | refine blk_drew ?_ | refine blk_alloc ?_ _));exact BK691.out)) : gb691 ≠ gb697));have NB697_691 := am ((by rw [hg];exact Nat.ne_of_gt (blk_lt (g := gb691) (o := .cells #[.int .i64 t688,.int .i64 t689] 40 (0,0)) (by (with_reducible repeat (first | refine blk_drewN ?_ _ | refine blk_drew ?_ | refine blk_alloc ?_ _));exact BK691.out)) : gb697 ≠ gb691));replace BK677 := am (blk_below (g := gb677) (o := .cells #[.slice A0_0 l0_0.length c0_0,.int .i64 a0_1,.slice A0_2 l0_2.length c0_2,.int .i64 a0_3,.int .i64 a0_4] 27 (0,0)) (by (with_reducible repeat (first | refine blk_drewN ?_ _ | refine blk_drew ?_ | refine blk_alloc ?_ _));exact BK677.out) hb);replace BK678 := am (blk_below (g := gb678) (o := .cells #[.int .i64 a1_0,.int .i64 a1_1] 40 (0,0)) (by (with_reducible repeat (first | refine blk_drewN ?_ _ | refine blk_drew ?_ | refine blk_alloc ?_ _));exact BK678.out) hb);replace BK687 := am (blk_below (g := gb687) (o := .cells #[.int .i64 t684,.int .i64 t685] 40 (0,0)) (by (with_reducible repeat (first | refine blk_drewN ?_ _ | refine blk_drew ?_ | refine blk_alloc ?_ _));exact BK687.out) hb);replace BK691 := am (blk_below (g := gb691) (o := .cells #[.int .i64 t688,.int .i64 t689] 40 (0,0)) (by (with_reducible repeat (first | refine blk_drewN ?_ _ | refine blk_drew ?_ | refine blk_alloc ?_ _));exact BK691.out) hb);replace HB := am (below_step (by repeat (first | (with_reducible first | exact HB.out | refine below_set ?_ (Aside0.out (by assumption)) | apply below_alloc | apply pw_below_drewN) | exact HB.out)) hb);clear hb hbox hg;have hnb143 := NB697_677.out;have hnc143 := NB677_697.out;have hnb144 := NB697_678.out;have hnc144 := NB678_697.out;have hnb145 := NB697_687.out;have hnc145 := NB687_697.out;have hnb146 := NB697_691.out;have hnc146 := NB691_697.out;obtain ⟨hcz147_0,hcz147_1⟩ := cO2 BK697.out;have hfz147_0 := blk_frozen BK697.out 0;have hfz147_1 := blk_frozen BK697.out 1;have hnb148 := NB678_691.out;have hnc148 := NB691_678.out;obtain ⟨hcz149_0,hcz149_1⟩ := cO2 BK678.out;have hfz149_0 := blk_frozen BK678.out 0;have hfz149_1 := blk_frozen BK678.out 1))
                go_ret
                exact ⟨by first | rfl | (simp [*] <;> rfl),by repeat (first | (with_reducible first | exact HB.out | refine below_set ?_ (Aside0.out (by assumption)) | apply below_alloc | apply pw_below_drewN) | exact HB.out)⟩
               rw [if_pos c115] at H
               have c115b0 : decide (t695 ≤ a1_1) = true := decide_eq_true c115
               clear c115
               replace H := obm H
               obtain ⟨t698,A1160,H⟩ := H
               replace H : (some t698) = some r := H
               have A116 := am A1160
               clear A1160
               obtain rfl := Option.some.inj H
               have hnb117 := NB677_678.out
               have hnc117 := NB678_677.out
               have hnb118 := NB677_687.out
               have hnc118 := NB687_677.out
               have hnb119 := NB677_691.out
               have hnc119 := NB691_677.out
               obtain ⟨hcz120_0,hcz120_1,hcz120_2,hcz120_3,hcz120_4⟩ := cO5 BK677.out
               have hfz120_0 := blk_frozen BK677.out 0
               have hfz120_1 := blk_frozen BK677.out 1
               have hfz120_2 := blk_frozen BK677.out 2
               have hfz120_3 := blk_frozen BK677.out 3
               have hfz120_4 := blk_frozen BK677.out 4
               have hnb121 := NB687_678.out
               have hnc121 := NB678_687.out
               have hnb122 := NB687_691.out
               have hnc122 := NB691_687.out
               obtain ⟨hcz123_0,hcz123_1⟩ := cO2 BK687.out
               have hfz123_0 := blk_frozen BK687.out 0
               have hfz123_1 := blk_frozen BK687.out 1
               go_wp2_with (first | ((with_reducible refine gate_callee (f := 22) rfl ?_);refine goesL_ (some 103) rfl rfl Tryz.func22 (by kernel_rfl) rfl #[.agg #[.slice A0_0 l0_0.length c0_0,.int .i64 a0_1,.slice A0_2 l0_2.length c0_2,.int .i64 a0_3,.int .i64 a0_4],.agg #[.int .i64 t684,.int .i64 t685]] rfl (by (try simp only [List.map_toArray,List.map_cons,List.map_nil]);first | done | rfl | (simp only [List.length_drop,List.length_take];rfl)) ?_;(with_reducible refine (ca_Level.calls kj89 _ _ l0_0 a0_1 _ _ l0_2 a0_3 a0_4 t684 t685 t694 t695 t696 _ ?side1 ?side2 ?side3 ?side4 A112.out).mono ?_);(case side1 => repeat (first | exact (kC HR0_0.out HB.out) | (with_reducible refine Kd.C_alloc ?_ _) | (with_reducible refine Kd.C_drewN ?_ _) | (with_reducible refine Kd.C_drew ?_)));(case side2 => exact HC0_0.out);(case side3 => repeat (first | exact (kC HR0_2.out HB.out) | (with_reducible refine Kd.C_alloc ?_ _) | (with_reducible refine Kd.C_drewN ?_ _) | (with_reducible refine Kd.C_drew ?_)));(case side4 => exact HC0_2.out);rintro e w124 ⟨rfl,hb⟩;refine ⟨_,rfl,?_⟩;replace BK677 := am (blk_below (g := gb677) (o := .cells #[.slice A0_0 l0_0.length c0_0,.int .i64 a0_1,.slice A0_2 l0_2.length c0_2,.int .i64 a0_3,.int .i64 a0_4] 27 (0,0)) (by (with_reducible repeat (first | refine blk_drewN ?_ _ | refine blk_drew ?_ | refine blk_alloc ?_ _));exact BK677.out) hb);replace BK678 := am (blk_below (g := gb678) (o := .cells #[.int .i64 a1_0,.int .i64 a1_1] 40 (0,0)) (by (with_reducible repeat (first | refine blk_drewN ?_ _ | refine blk_drew ?_ | refine blk_alloc ?_ _));exact BK678.out) hb);replace BK687 := am (blk_below (g := gb687) (o := .cells #[.int .i64 t684,.int .i64 t685] 40 (0,0)) (by (with_reducible repeat (first | refine blk_drewN ?_ _ | refine blk_drew ?_ | refine blk_alloc ?_ _));exact BK687.out) hb);replace BK691 := am (blk_below (g := gb691) (o := .cells #[.int .i64 t688,.int .i64 t689] 40 (0,0)) (by (with_reducible repeat (first | refine blk_drewN ?_ _ | refine blk_drew ?_ | refine blk_alloc ?_ _));exact BK691.out) hb);replace HB := am (below_step (by repeat (first | (with_reducible first | exact HB.out | refine below_set ?_ (Aside0.out (by assumption)) | apply below_alloc | apply pw_below_drewN) | exact HB.out)) hb);(try clear hb);(try clear hb2);(try clear hk);(try clear hi)) | ((with_reducible refine gate_dst (N := 12) rfl ?_);refine box_event ?hg (N := 12) ?hd (cs := #[.int .i64 0,.int .i64 0]) (t := 40) ?hr ?_;(case hd => rfl);(case hg => rfl);(case hr => go_simp;try rfl);intro gb697 hg w125 hbox hb;have BK697 := am (hbox);have GW697 := am (ge_new (by repeat (first | (with_reducible first | exact HB.out | refine below_set ?_ (Aside0.out (by assumption)) | apply below_alloc | apply pw_below_drewN) | exact HB.out)) hg);have GE697 := am (ge_new (by repeat (first | (with_reducible first | exact HB.out | refine below_set ?_ (Aside0.out (by assumption)) | apply below_alloc | apply pw_below_drewN) | exact HB.out)) hg);have NB677_697 := am ((by rw [hg];exact Nat.ne_of_lt (blk_lt (g := gb677) (o := .cells #[.slice A0_0 l0_0.length c0_0,.int .i64 a0_1,.slice A0_2 l0_2.length c0_2,.int .i64 a0_3,.int .i64 a0_4] 27 (0,0)) (by (with_reducible repeat (first | refine blk_drewN ?_ _ | refine blk_drew ?_ | refine blk_alloc ?_ _));exact BK677.out)) : gb677 ≠ gb697));have NB697_677 := am ((by rw [hg];exact Nat.ne_of_gt (blk_lt (g := gb677) (o := .cells #[.slice A0_0 l0_0.length c0_0,.int .i64 a0_1,.slice A0_2 l0_2.length c0_2,.int .i64 a0_3,.int .i64 a0_4] 27 (0,0)) (by (with_reducible repeat (first | refine blk_drewN ?_ _ | refine blk_drew ?_ | refine blk_alloc ?_ _));exact BK677.out)) : gb697 ≠ gb677));have NB678_697 := am ((by rw [hg];exact Nat.ne_of_lt (blk_lt (g := gb678) (o := .cells #[.int .i64 a1_0,.int .i64 a1_1] 40 (0,0)) (by (with_reducible repeat (first | refine blk_drewN ?_ _ | refine blk_drew ?_ | refine blk_alloc ?_ _));exact BK678.out)) : gb678 ≠ gb697));have NB697_678 := am ((by rw [hg];exact Nat.ne_of_gt (blk_lt (g := gb678) (o := .cells #[.int .i64 a1_0,.int .i64 a1_1] 40 (0,0)) (by (with_reducible repeat (first | refine blk_drewN ?_ _ | refine blk_drew ?_ | refine blk_alloc ?_ _));exact BK678.out)) : gb697 ≠ gb678));have NB687_697 := am ((by rw [hg];exact Nat.ne_of_lt (blk_lt (g := gb687) (o := .cells #[.int .i64 t684,.int .i64 t685] 40 (0,0)) (by (with_reducible repeat (first | refine blk_drewN ?_ _ | refine blk_drew ?_ | refine blk_alloc ?_ _));exact BK687.out)) : gb687 ≠ gb697));have NB697_687 := am ((by rw [hg];exact Nat.ne_of_gt (blk_lt (g := gb687) (o := .cells #[.int .i64 t684,.int .i64 t685] 40 (0,0)) (by (with_reducible repeat (first | refine blk_drewN ?_ _ | refine blk_drew ?_ | refine blk_alloc ?_ _));exact BK687.out)) : gb697 ≠ gb687));have NB691_697 := am ((by rw [hg];exact Nat.ne_of_lt (blk_lt (g := gb691) (o := .cells #[.int .i64 t688,.int .i64 t689] 40 (0,0)) (by (with_reducible repeat (first | refine blk_drewN ?_ _ | refine blk_drew ?_ | refine blk_alloc ?_ _));exact BK691.out)) : gb691 ≠ gb697));have NB697_691 := am ((by rw [hg];exact Nat.ne_of_gt (blk_lt (g := gb691) (o := .cells #[.int .i64 t688,.int .i64 t689] 40 (0,0)) (by (with_reducible repeat (first | refine blk_drewN ?_ _ | refine blk_drew ?_ | refine blk_alloc ?_ _));exact BK691.out)) : gb697 ≠ gb691));replace BK677 := am (blk_below (g := gb677) (o := .cells #[.slice A0_0 l0_0.length c0_0,.int .i64 a0_1,.slice A0_2 l0_2.length c0_2,.int .i64 a0_3,.int .i64 a0_4] 27 (0,0)) (by (with_reducible repeat (first | refine blk_drewN ?_ _ | refine blk_drew ?_ | refine blk_alloc ?_ _));exact BK677.out) hb);replace BK678 := am (blk_below (g := gb678) (o := .cells #[.int .i64 a1_0,.int .i64 a1_1] 40 (0,0)) (by (with_reducible repeat (first | refine blk_drewN ?_ _ | refine blk_drew ?_ | refine blk_alloc ?_ _));exact BK678.out) hb);replace BK687 := am (blk_below (g := gb687) (o := .cells #[.int .i64 t684,.int .i64 t685] 40 (0,0)) (by (with_reducible repeat (first | refine blk_drewN ?_ _ | refine blk_drew ?_ | refine blk_alloc ?_ _));exact BK687.out) hb);replace BK691 := am (blk_below (g := gb691) (o := .cells #[.int .i64 t688,.int .i64 t689] 40 (0,0)) (by (with_reducible repeat (first | refine blk_drewN ?_ _ | refine blk_drew ?_ | refine blk_alloc ?_ _));exact BK691.out) hb);replace HB := am (below_step (by repeat (first | (with_reducible first | exact HB.out | refine below_set ?_ (Aside0.out (by assumption)) | apply below_alloc | apply pw_below_drewN) | exact HB.out)) hb);clear hb hbox hg;have hnb126 := NB697_677.out;have hnc126 := NB677_697.out;have hnb127 := NB697_678.out;have hnc127 := NB678_697.out;have hnb128 := NB697_687.out;have hnc128 := NB687_697.out;have hnb129 := NB697_691.out;have hnc129 := NB691_697.out;obtain ⟨hcz130_0,hcz130_1⟩ := cO2 BK697.out;have hfz130_0 := blk_frozen BK697.out 0;have hfz130_1 := blk_frozen BK697.out 1;have hnb131 := NB678_691.out;have hnc131 := NB691_678.out;obtain ⟨hcz132_0,hcz132_1⟩ := cO2 BK678.out;have hfz132_0 := blk_frozen BK678.out 0;have hfz132_1 := blk_frozen BK678.out 1) | (go_at_call 15;(with_reducible refine (l4_known.calls  t698 _ A116.out).mono ?_);rintro e w133 ⟨rfl,hb⟩;replace BK677 := am (blk_below (g := gb677) (o := .cells #[.slice A0_0 l0_0.length c0_0,.int .i64 a0_1,.slice A0_2 l0_2.length c0_2,.int .i64 a0_3,.int .i64 a0_4] 27 (0,0)) (by (with_reducible repeat (first | refine blk_drewN ?_ _ | refine blk_drew ?_ | refine blk_alloc ?_ _));refine blk_far ?_ NB677_697.out _;(with_reducible repeat (first | refine blk_drewN ?_ _ | refine blk_drew ?_ | refine blk_alloc ?_ _));refine blk_far ?_ NB677_697.out _;(with_reducible repeat (first | refine blk_drewN ?_ _ | refine blk_drew ?_ | refine blk_alloc ?_ _));exact BK677.out) hb);replace BK678 := am (blk_below (g := gb678) (o := .cells #[.int .i64 a1_0,.int .i64 a1_1] 40 (0,0)) (by (with_reducible repeat (first | refine blk_drewN ?_ _ | refine blk_drew ?_ | refine blk_alloc ?_ _));refine blk_far ?_ NB678_697.out _;(with_reducible repeat (first | refine blk_drewN ?_ _ | refine blk_drew ?_ | refine blk_alloc ?_ _));refine blk_far ?_ NB678_697.out _;(with_reducible repeat (first | refine blk_drewN ?_ _ | refine blk_drew ?_ | refine blk_alloc ?_ _));exact BK678.out) hb);replace BK687 := am (blk_below (g := gb687) (o := .cells #[.int .i64 t684,.int .i64 t685] 40 (0,0)) (by (with_reducible repeat (first | refine blk_drewN ?_ _ | refine blk_drew ?_ | refine blk_alloc ?_ _));refine blk_far ?_ NB687_697.out _;(with_reducible repeat (first | refine blk_drewN ?_ _ | refine blk_drew ?_ | refine blk_alloc ?_ _));refine blk_far ?_ NB687_697.out _;(with_reducible repeat (first | refine blk_drewN ?_ _ | refine blk_drew ?_ | refine blk_alloc ?_ _));exact BK687.out) hb);replace BK691 := am (blk_below (g := gb691) (o := .cells #[.int .i64 t688,.int .i64 t689] 40 (0,0)) (by (with_reducible repeat (first | refine blk_drewN ?_ _ | refine blk_drew ?_ | refine blk_alloc ?_ _));refine blk_far ?_ NB691_697.out _;(with_reducible repeat (first | refine blk_drewN ?_ _ | refine blk_drew ?_ | refine blk_alloc ?_ _));refine blk_far ?_ NB691_697.out _;(with_reducible repeat (first | refine blk_drewN ?_ _ | refine blk_drew ?_ | refine blk_alloc ?_ _));exact BK691.out) hb);replace BK697 := am (blk_below (g := gb697) (o := .cells #[.int .i64 t694,.int .i64 t695] 40 (0,0)) (by (with_reducible repeat (first | refine blk_drewN ?_ _ | refine blk_drew ?_ | refine blk_alloc ?_ _));refine blk_put (cs := #[.int .i64 t694,.int .i64 0]) ?_ 1 _ rfl;(with_reducible repeat (first | refine blk_drewN ?_ _ | refine blk_drew ?_ | refine blk_alloc ?_ _));refine blk_put (cs := #[.int .i64 0,.int .i64 0]) ?_ 0 _ rfl;(with_reducible repeat (first | refine blk_drewN ?_ _ | refine blk_drew ?_ | refine blk_alloc ?_ _));exact BK697.out) hb);replace HB := am (below_step (by repeat (first | (with_reducible first | exact HB.out | refine below_set ?_ (Aside0.out (by assumption)) | apply below_alloc | apply pw_below_drewN) | exact HB.out)) hb);(try clear hb);(try clear hb2);(try clear hk);(try clear hi)))
               go_ret
               exact ⟨by first | rfl | (simp [*] <;> rfl),by repeat (first | (with_reducible first | exact HB.out | refine below_set ?_ (Aside0.out (by assumption)) | apply below_alloc | apply pw_below_drewN) | exact HB.out)⟩
end
end Go.Proofs.YticlelgmmonloaaGreatDoor.C

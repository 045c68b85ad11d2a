/- A part of the proof: the walks of the functions that it reaches. TIGHT. -/
import Derived.Test.YtclkbedbocnpkaaGreatDoorMSho12
set_option linter.unusedVariables false
set_option linter.unusedSimpArgs false
namespace Go.Proofs.YtclkbedbocnpkaaGreatDoor.C
open Go.RowKit Go.Proofs.YtclkbedbocnpkaaGreatDoorW.PrintWords Go.Proofs.YtclkbedbocnpkaaGreatDoorW.PrintLast Go.Proofs.YtclkbedbocnpkaaGreatDoorW.PrintMore
set_option linter.unusedVariables false
set_option linter.unusedSimpArgs false
set_option maxHeartbeats 16000000
set_option maxRecDepth 100000
mutual
def l8_GateShort.j0 : Nat→List Int→List Int→List Int→Bool→List (S37)→List (S65)→Option (Bool)
 | 0,_,_,_,_,_,_=>none
 | k + 1,x1,x2,x3,x39,x417000,x417001=>if x39 = true then ((l8_known.f).bind fun t420=>(some t420)) else ((ga_Cut.f k x417000 x417001 x1).bind fun bt421=>((q8_Short.f k x417000 x417001 x1 x2 false).bind fun t425=>(if bt421.2 = 0 then ((ga_Feeds.f k x417000 x417001 x1 x3).bind fun bt427=>(if (bt421.1.length : Int) > (x417000.length : Int) then (l8_GateShort.j1 k x2 bt421.1 (decide (t425 > 0)) true) else ((l8_points.f k x417000 x417001 bt421.1).bind fun t429=>(if t429 = true then ((q8_Short.f k x417000 x417001 x1 bt421.1 false).bind fun t430=>(if t430≤0 then (l8_GateShort.j1 k x2 bt421.1 (decide (t425 > 0)) true) else (if bt427.2 = 0 then (l8_GateShort.j1 k x2 bt421.1 (decide (t425 > 0)) bt427.1) else (l8_GateShort.j1 k x2 bt421.1 (decide (t425 > 0)) true)))) else (l8_GateShort.j1 k x2 bt421.1 (decide (t425 > 0)) true))))) else (if bt421.2 = 5 then (if t425 > 0 then (some false) else ((l8_known.f).bind fun t426=>(some t426))) else (some false)))))
def l8_GateShort.j1 : Nat→List Int→List Int→Bool→Bool→Option (Bool)
 | 0,_,_,_,_=>none
 | k + 1,x2,x9,x11,x95=>if x95 = true then (some false) else (if x11 = true then (if (x2.length : Int) > (x9.length : Int) then ((l8_known.f).bind fun t431=>(some t431)) else (if (x2.length : Int) = (x9.length : Int) then ((q8_Before.f k x2 x9).bind fun t432=>(if t432 = true then (some false) else ((l8_known.f).bind fun t433=>(some t433)))) else (some false))) else ((l8_known.f).bind fun t434=>(some t434)))
end
def l8_GateShort.f (k : Nat) (l0_0 : List (S37)) (l0_1 : List (S65)) (l1 : List Int) (l2 : List Int) (l3 : List Int) : Option (Bool):=(l8_right.f k l0_0 l0_1 l1).bind fun t417=>(if t417 = true then (if (l2.length : Int) > 9 then (l8_GateShort.j0 k l1 l2 l3 true l0_0 l0_1) else ((l8_points.f k l0_0 l0_1 l2).bind fun t418=>(if t418 = true then (if (l3.length : Int) > 13 then (l8_GateShort.j0 k l1 l2 l3 true l0_0 l0_1) else ((q8_Flows.f k l0_0 l0_1 l3).bind fun t419=>(l8_GateShort.j0 k l1 l2 l3 (!t419) l0_0 l0_1))) else (l8_GateShort.j0 k l1 l2 l3 true l0_0 l0_1)))) else (l8_GateShort.j0 k l1 l2 l3 true l0_0 l0_1))
theorem l8_GateShort.calls (k : Nat) (A0_0 : Option Addr) (c0_0 : Nat) (l0_0 : List (S37)) (A0_1 : Option Addr) (c0_1 : Nat) (l0_1 : List (S65)) (A1 : Option Addr) (c1 : Nat) (l1 : List Int) (A2 : Option Addr) (c2 : Nat) (l2 : List Int) (A3 : Option Addr) (c3 : Nat) (l3 : List Int) (r : Bool) (w : World) (hr0_0 : Kd.C k37 w A0_0 l0_0.length l0_0) (hc0_0 : l0_0.length≤c0_0) (hr0_1 : Kd.C k65 w A0_1 l0_1.length l0_1) (hc0_1 : l0_1.length≤c0_1) (hr1 : Kd.C (Kd.int .i64) w A1 l1.length l1) (hc1 : l1.length≤c1) (hr2 : Kd.C (Kd.int .i64) w A2 l2.length l2) (hc2 : l2.length≤c2) (hr3 : Kd.C (Kd.int .i64) w A3 l3.length l3) (hc3 : l3.length≤c3) (h : l8_GateShort.f k l0_0 l0_1 l1 l2 l3 = some r) :
 Calls Tryz.prog 6 #[.agg #[.slice A0_0 l0_0.length c0_0,.slice A0_1 l0_1.length c0_1],.slice A1 l1.length c1,.slice A2 l2.length c2,.slice A3 l3.length c3] w fun e w'=>e = .returned (.bool r)∧Below w.heap.size w w':=by
 have hu25:=Tryz.underlying25
 have HR0_0:=am hr0_0
 have HC0_0:=am hc0_0
 clear hr0_0 hc0_0
 have HR0_1:=am hr0_1
 have HC0_1:=am hc0_1
 clear hr0_1 hc0_1
 have HR1:=am hr1
 have HC1:=am hc1
 clear hr1 hc1
 have HR2:=am hr2
 have HC2:=am hc2
 clear hr2 hc2
 have HR3:=am hr3
 have HC3:=am hc3
 clear hr3 hc3
 have HB:=am (Below.refl w.heap.size w)
 have H : ((l8_right.f k l0_0 l0_1 l1).bind fun t417=>(if t417 = true then (if (l2.length : Int) > 9 then (l8_GateShort.j0 k l1 l2 l3 true l0_0 l0_1) else ((l8_points.f k l0_0 l0_1 l2).bind fun t418=>(if t418 = true then (if (l3.length : Int) > 13 then (l8_GateShort.j0 k l1 l2 l3 true l0_0 l0_1) else ((q8_Flows.f k l0_0 l0_1 l3).bind fun t419=>(l8_GateShort.j0 k l1 l2 l3 (!t419) l0_0 l0_1))) else (l8_GateShort.j0 k l1 l2 l3 true l0_0 l0_1)))) else (l8_GateShort.j0 k l1 l2 l3 true l0_0 l0_1))) = some r:=h
 clear h
 have HC5:=am H
 clear H
 go_enter Tryz.func6,Tryz.ntmps6
 go_upto_region 1 with (first | ((with_reducible refine ga_dst (N:=4) rfl ?_);(try (refine ga_guard (by rfl) ?_;dsimp only));refine box_event ?hg (N:=4) ?hd (cs:=#[.slice A0_0 l0_0.length c0_0,.slice A0_1 l0_1.length c0_1]) (t:=25) ?hr ?_;(case hd=>rfl);(case hg=>rfl);(case hr=>go_simp;try rfl);intro gb416 hg w6 hbox hb;have BK416:=am (hbox);have GW416:=am (ge_new (HB.out) hg);have GE416:=am (ge_new (HB.out) hg);replace HB:=am (below_step (HB.out) hb);clear hb hbox hg))
 (try simp only [Act.put,List.setIfInBounds_toArray,List.set_cons_zero,List.set_cons_succ])
 go_cut [39] (fun v39 wc=>∃ (kq : Nat) (x39_4 : Bool),v39 = .bool x39_4∧Aside0 (l8_GateShort.j0 kq l1 l2 l3 x39_4 l0_0 l0_1 = some r)∧Aside0 (kq≤k)∧Aside0 (wc.heap[gb416]? = some (.cells #[(.slice A0_0 l0_0.length c0_0),(.slice A0_1 l0_1.length c0_1)] 25 (0,0)))∧Aside0 (Below w.heap.size w wc))
 case first =>
  have H:=HC5.out
  clear HC5
  replace H:=obm H
  obtain ⟨t417,A70,H⟩:=H
  replace H : (if t417 = true then (if (l2.length : Int) > 9 then (l8_GateShort.j0 k l1 l2 l3 true l0_0 l0_1) else ((l8_points.f k l0_0 l0_1 l2).bind fun t418=>(if t418 = true then (if (l3.length : Int) > 13 then (l8_GateShort.j0 k l1 l2 l3 true l0_0 l0_1) else ((q8_Flows.f k l0_0 l0_1 l3).bind fun t419=>(l8_GateShort.j0 k l1 l2 l3 (!t419) l0_0 l0_1))) else (l8_GateShort.j0 k l1 l2 l3 true l0_0 l0_1)))) else (l8_GateShort.j0 k l1 l2 l3 true l0_0 l0_1)) = some r:=H
  have A7:=am A70
  clear A70
  by_cases c8 : t417 = true
  case neg =>
   replace c8:=Bool.eq_false_iff.mpr c8
   subst c8
   replace H : (l8_GateShort.j0 k l1 l2 l3 true l0_0 l0_1) = some r:=by rw [if_neg (show ¬ (false = true) by decide)] at H;exact H
   replace H':=am H
   obtain ⟨hcz30_0,hcz30_1⟩:=cO2 BK416.out
   have hfz30_0:=blk_frozen BK416.out 0
   have hfz30_1:=blk_frozen BK416.out 1
   go_wp2_with (first | ((with_reducible refine ga_callee (f:=21) rfl ?_);refine goesL_ (some 16) rfl rfl Tryz.func21 (by kernel_rfl) rfl #[.agg #[.slice A0_0 l0_0.length c0_0,.slice A0_1 l0_1.length c0_1],.slice A1 l1.length c1] rfl (by (try simp only [List.map_toArray,List.map_cons,List.map_nil]);first | done | rfl | (simp only [List.length_drop,List.length_take];rfl)) ?_;(with_reducible refine (l8_right.calls k _ _ l0_0 _ _ l0_1 _ _ l1 false _ ?side1 ?side2 ?side3 ?side4 ?side5 ?side6 A7.out).mono ?_);(case side1=>exact kC HR0_0.out HB.out);(case side2=>exact HC0_0.out);(case side3=>exact kC HR0_1.out HB.out);(case side4=>exact HC0_1.out);(case side5=>exact kC HR1.out HB.out);(case side6=>exact HC1.out);rintro e w31 ⟨rfl,hb⟩;refine ⟨_,rfl,?_⟩;replace BK416:=am (blk_below (g:=gb416) (o:=.cells #[.slice A0_0 l0_0.length c0_0,.slice A0_1 l0_1.length c0_1] 25 (0,0)) (by (with_reducible repeat (first | refine blk_drewN ?_ _ | refine blk_drew ?_ | refine blk_alloc ?_ _));exact BK416.out) hb);replace HB:=am (below_step (HB.out) hb);(try clear hb);(try clear hb2);(try clear hk);(try clear hi)))
   go_meet
   case rel=>exact ⟨_,(true),(by first | rfl | (simp;done) | (simp [*];done)),H',⟨by first | omega | exact Nat.le_refl _⟩,⟨by (with_reducible repeat (first | refine blk_drewN ?_ _ | refine blk_drew ?_ | refine blk_alloc ?_ _));exact BK416.out⟩,⟨HB.out⟩⟩
  subst c8
  replace H : (if (l2.length : Int) > 9 then (l8_GateShort.j0 k l1 l2 l3 true l0_0 l0_1) else ((l8_points.f k l0_0 l0_1 l2).bind fun t418=>(if t418 = true then (if (l3.length : Int) > 13 then (l8_GateShort.j0 k l1 l2 l3 true l0_0 l0_1) else ((q8_Flows.f k l0_0 l0_1 l3).bind fun t419=>(l8_GateShort.j0 k l1 l2 l3 (!t419) l0_0 l0_1))) else (l8_GateShort.j0 k l1 l2 l3 true l0_0 l0_1)))) = some r:=by rw [if_pos rfl] at H;exact H
  by_cases c9 : (l2.length : Int) > 9
  ·rw [if_pos c9] at H
   have c9b0 : decide (9 < (l2.length : Int)) = true:=decide_eq_true c9
   have c9b1 : decide (9 < l2.length) = true:=decide_eq_true (by omega)
   clear c9
   (first | rw [c9b0] | (simp only [i64_w,i32_w];rw [c9b0]) | skip)
   replace H':=am H
   obtain ⟨hcz10_0,hcz10_1⟩:=cO2 BK416.out
   have hfz10_0:=blk_frozen BK416.out 0
   have hfz10_1:=blk_frozen BK416.out 1
   go_wp2_with (first | ((with_reducible refine ga_callee (f:=21) rfl ?_);refine goesL_ (some 16) rfl rfl Tryz.func21 (by kernel_rfl) rfl #[.agg #[.slice A0_0 l0_0.length c0_0,.slice A0_1 l0_1.length c0_1],.slice A1 l1.length c1] rfl (by (try simp only [List.map_toArray,List.map_cons,List.map_nil]);first | done | rfl | (simp only [List.length_drop,List.length_take];rfl)) ?_;(with_reducible refine (l8_right.calls k _ _ l0_0 _ _ l0_1 _ _ l1 true _ ?side1 ?side2 ?side3 ?side4 ?side5 ?side6 A7.out).mono ?_);(case side1=>exact kC HR0_0.out HB.out);(case side2=>exact HC0_0.out);(case side3=>exact kC HR0_1.out HB.out);(case side4=>exact HC0_1.out);(case side5=>exact kC HR1.out HB.out);(case side6=>exact HC1.out);rintro e w11 ⟨rfl,hb⟩;refine ⟨_,rfl,?_⟩;replace BK416:=am (blk_below (g:=gb416) (o:=.cells #[.slice A0_0 l0_0.length c0_0,.slice A0_1 l0_1.length c0_1] 25 (0,0)) (by (with_reducible repeat (first | refine blk_drewN ?_ _ | refine blk_drew ?_ | refine blk_alloc ?_ _));exact BK416.out) hb);replace HB:=am (below_step (HB.out) hb);(try clear hb);(try clear hb2);(try clear hk);(try clear hi)))
   go_meet
   case rel=>exact ⟨_,(true),(by first | rfl | (simp;done) | (simp [*];done)),H',⟨by first | omega | exact Nat.le_refl _⟩,⟨by (with_reducible repeat (first | refine blk_drewN ?_ _ | refine blk_drew ?_ | refine blk_alloc ?_ _));exact BK416.out⟩,⟨HB.out⟩⟩
  ·rw [if_neg c9] at H
   have c9b0 : decide (9 < (l2.length : Int)) = false:=decide_eq_false c9
   have c9b1 : decide (9 < l2.length) = false:=decide_eq_false (by omega)
   clear c9
   (first | rw [c9b0] | (simp only [i64_w,i32_w];rw [c9b0]) | skip)
   replace H:=obm H
   obtain ⟨t418,A120,H⟩:=H
   replace H : (if t418 = true then (if (l3.length : Int) > 13 then (l8_GateShort.j0 k l1 l2 l3 true l0_0 l0_1) else ((q8_Flows.f k l0_0 l0_1 l3).bind fun t419=>(l8_GateShort.j0 k l1 l2 l3 (!t419) l0_0 l0_1))) else (l8_GateShort.j0 k l1 l2 l3 true l0_0 l0_1)) = some r:=H
   have A12:=am A120
   clear A120
   by_cases c13 : t418 = true
   case neg =>
    replace c13:=Bool.eq_false_iff.mpr c13
    subst c13
    replace H : (l8_GateShort.j0 k l1 l2 l3 true l0_0 l0_1) = some r:=by rw [if_neg (show ¬ (false = true) by decide)] at H;exact H
    replace H':=am H
    obtain ⟨hcz26_0,hcz26_1⟩:=cO2 BK416.out
    have hfz26_0:=blk_frozen BK416.out 0
    have hfz26_1:=blk_frozen BK416.out 1
    go_wp2_with (first | ((with_reducible refine ga_callee (f:=21) rfl ?_);refine goesL_ (some 16) rfl rfl Tryz.func21 (by kernel_rfl) rfl #[.agg #[.slice A0_0 l0_0.length c0_0,.slice A0_1 l0_1.length c0_1],.slice A1 l1.length c1] rfl (by (try simp only [List.map_toArray,List.map_cons,List.map_nil]);first | done | rfl | (simp only [List.length_drop,List.length_take];rfl)) ?_;(with_reducible refine (l8_right.calls k _ _ l0_0 _ _ l0_1 _ _ l1 true _ ?side1 ?side2 ?side3 ?side4 ?side5 ?side6 A7.out).mono ?_);(case side1=>exact kC HR0_0.out HB.out);(case side2=>exact HC0_0.out);(case side3=>exact kC HR0_1.out HB.out);(case side4=>exact HC0_1.out);(case side5=>exact kC HR1.out HB.out);(case side6=>exact HC1.out);rintro e w27 ⟨rfl,hb⟩;refine ⟨_,rfl,?_⟩;replace BK416:=am (blk_below (g:=gb416) (o:=.cells #[.slice A0_0 l0_0.length c0_0,.slice A0_1 l0_1.length c0_1] 25 (0,0)) (by (with_reducible repeat (first | refine blk_drewN ?_ _ | refine blk_drew ?_ | refine blk_alloc ?_ _));exact BK416.out) hb);replace HB:=am (below_step (HB.out) hb);(try clear hb);(try clear hb2);(try clear hk);(try clear hi);obtain ⟨hcz28_0,hcz28_1⟩:=cO2 BK416.out;have hfz28_0:=blk_frozen BK416.out 0;have hfz28_1:=blk_frozen BK416.out 1) | (go_at_call 26;(with_reducible refine (l8_points.calls k _ _ l0_0 _ _ l0_1 _ _ l2 false _ ?side1 ?side2 ?side3 ?side4 ?side5 ?side6 A12.out).mono ?_);(case side1=>exact kC HR0_0.out HB.out);(case side2=>exact HC0_0.out);(case side3=>exact kC HR0_1.out HB.out);(case side4=>exact HC0_1.out);(case side5=>exact kC HR2.out HB.out);(case side6=>exact HC2.out);rintro e w29 ⟨rfl,hb⟩;replace BK416:=am (blk_below (g:=gb416) (o:=.cells #[.slice A0_0 l0_0.length c0_0,.slice A0_1 l0_1.length c0_1] 25 (0,0)) (by (with_reducible repeat (first | refine blk_drewN ?_ _ | refine blk_drew ?_ | refine blk_alloc ?_ _));exact BK416.out) hb);replace HB:=am (below_step (HB.out) hb);(try clear hb);(try clear hb2);(try clear hk);(try clear hi)))
    go_meet
    case rel=>exact ⟨_,(true),(by first | rfl | (simp;done) | (simp [*];done)),H',⟨by first | omega | exact Nat.le_refl _⟩,⟨by (with_reducible repeat (first | refine blk_drewN ?_ _ | refine blk_drew ?_ | refine blk_alloc ?_ _));exact BK416.out⟩,⟨HB.out⟩⟩
   subst c13
   replace H : (if (l3.length : Int) > 13 then (l8_GateShort.j0 k l1 l2 l3 true l0_0 l0_1) else ((q8_Flows.f k l0_0 l0_1 l3).bind fun t419=>(l8_GateShort.j0 k l1 l2 l3 (!t419) l0_0 l0_1))) = some r:=by rw [if_pos rfl] at H;exact H
   by_cases c14 : (l3.length : Int) > 13
   ·rw [if_pos c14] at H
    have c14b0 : decide (13 < (l3.length : Int)) = true:=decide_eq_true c14
    have c14b1 : decide (13 < l3.length) = true:=decide_eq_true (by omega)
    clear c14
    replace H':=am H
    obtain ⟨hcz15_0,hcz15_1⟩:=cO2 BK416.out
    have hfz15_0:=blk_frozen BK416.out 0
    have hfz15_1:=blk_frozen BK416.out 1
    go_wp2_with (first | ((with_reducible refine ga_callee (f:=21) rfl ?_);refine goesL_ (some 16) rfl rfl Tryz.func21 (by kernel_rfl) rfl #[.agg #[.slice A0_0 l0_0.length c0_0,.slice A0_1 l0_1.length c0_1],.slice A1 l1.length c1] rfl (by (try simp only [List.map_toArray,List.map_cons,List.map_nil]);first | done | rfl | (simp only [List.length_drop,List.length_take];rfl)) ?_;(with_reducible refine (l8_right.calls k _ _ l0_0 _ _ l0_1 _ _ l1 true _ ?side1 ?side2 ?side3 ?side4 ?side5 ?side6 A7.out).mono ?_);(case side1=>exact kC HR0_0.out HB.out);(case side2=>exact HC0_0.out);(case side3=>exact kC HR0_1.out HB.out);(case side4=>exact HC0_1.out);(case side5=>exact kC HR1.out HB.out);(case side6=>exact HC1.out);rintro e w16 ⟨rfl,hb⟩;refine ⟨_,rfl,?_⟩;replace BK416:=am (blk_below (g:=gb416) (o:=.cells #[.slice A0_0 l0_0.length c0_0,.slice A0_1 l0_1.length c0_1] 25 (0,0)) (by (with_reducible repeat (first | refine blk_drewN ?_ _ | refine blk_drew ?_ | refine blk_alloc ?_ _));exact BK416.out) hb);replace HB:=am (below_step (HB.out) hb);(try clear hb);(try clear hb2);(try clear hk);(try clear hi);obtain ⟨hcz17_0,hcz17_1⟩:=cO2 BK416.out;have hfz17_0:=blk_frozen BK416.out 0;have hfz17_1:=blk_frozen BK416.out 1) | (go_at_call 26;(with_reducible refine (l8_points.calls k _ _ l0_0 _ _ l0_1 _ _ l2 true _ ?side1 ?side2 ?side3 ?side4 ?side5 ?side6 A12.out).mono ?_);(case side1=>exact kC HR0_0.out HB.out);(case side2=>exact HC0_0.out);(case side3=>exact kC HR0_1.out HB.out);(case side4=>exact HC0_1.out);(case side5=>exact kC HR2.out HB.out);(case side6=>exact HC2.out);rintro e w18 ⟨rfl,hb⟩;replace BK416:=am (blk_below (g:=gb416) (o:=.cells #[.slice A0_0 l0_0.length c0_0,.slice A0_1 l0_1.length c0_1] 25 (0,0)) (by (with_reducible repeat (first | refine blk_drewN ?_ _ | refine blk_drew ?_ | refine blk_alloc ?_ _));exact BK416.out) hb);replace HB:=am (below_step (HB.out) hb);(try clear hb);(try clear hb2);(try clear hk);(try clear hi)))
    go_meet
    case rel=>exact ⟨_,(true),(by first | rfl | (simp;done) | (simp [*];done)),H',⟨by first | omega | exact Nat.le_refl _⟩,⟨by (with_reducible repeat (first | refine blk_drewN ?_ _ | refine blk_drew ?_ | refine blk_alloc ?_ _));exact BK416.out⟩,⟨HB.out⟩⟩
   ·rw [if_neg c14] at H
    have c14b0 : decide (13 < (l3.length : Int)) = false:=decide_eq_false c14
    have c14b1 : decide (13 < l3.length) = false:=decide_eq_false (by omega)
    clear c14
    replace H:=obm H
    obtain ⟨t419,A190,H⟩:=H
    replace H : (l8_GateShort.j0 k l1 l2 l3 (!t419) l0_0 l0_1) = some r:=H
    have A19:=am A190
    clear A190
    replace H':=am H
    obtain ⟨hcz20_0,hcz20_1⟩:=cO2 BK416.out
    have hfz20_0:=blk_frozen BK416.out 0
    have hfz20_1:=blk_frozen BK416.out 1
    go_wp2_with (first | ((with_reducible refine ga_callee (f:=21) rfl ?_);refine goesL_ (some 16) rfl rfl Tryz.func21 (by kernel_rfl) rfl #[.agg #[.slice A0_0 l0_0.length c0_0,.slice A0_1 l0_1.length c0_1],.slice A1 l1.length c1] rfl (by (try simp only [List.map_toArray,List.map_cons,List.map_nil]);first | done | rfl | (simp only [List.length_drop,List.length_take];rfl)) ?_;(with_reducible refine (l8_right.calls k _ _ l0_0 _ _ l0_1 _ _ l1 true _ ?side1 ?side2 ?side3 ?side4 ?side5 ?side6 A7.out).mono ?_);(case side1=>exact kC HR0_0.out HB.out);(case side2=>exact HC0_0.out);(case side3=>exact kC HR0_1.out HB.out);(case side4=>exact HC0_1.out);(case side5=>exact kC HR1.out HB.out);(case side6=>exact HC1.out);rintro e w21 ⟨rfl,hb⟩;refine ⟨_,rfl,?_⟩;replace BK416:=am (blk_below (g:=gb416) (o:=.cells #[.slice A0_0 l0_0.length c0_0,.slice A0_1 l0_1.length c0_1] 25 (0,0)) (by (with_reducible repeat (first | refine blk_drewN ?_ _ | refine blk_drew ?_ | refine blk_alloc ?_ _));exact BK416.out) hb);replace HB:=am (below_step (HB.out) hb);(try clear hb);(try clear hb2);(try clear hk);(try clear hi);obtain ⟨hcz22_0,hcz22_1⟩:=cO2 BK416.out;have hfz22_0:=blk_frozen BK416.out 0;have hfz22_1:=blk_frozen BK416.out 1) | (go_at_call 26;(with_reducible refine (l8_points.calls k _ _ l0_0 _ _ l0_1 _ _ l2 true _ ?side1 ?side2 ?side3 ?side4 ?side5 ?side6 A12.out).mono ?_);(case side1=>exact kC HR0_0.out HB.out);(case side2=>exact HC0_0.out);(case side3=>exact kC HR0_1.out HB.out);(case side4=>exact HC0_1.out);(case side5=>exact kC HR2.out HB.out);(case side6=>exact HC2.out);rintro e w23 ⟨rfl,hb⟩;replace BK416:=am (blk_below (g:=gb416) (o:=.cells #[.slice A0_0 l0_0.length c0_0,.slice A0_1 l0_1.length c0_1] 25 (0,0)) (by (with_reducible repeat (first | refine blk_drewN ?_ _ | refine blk_drew ?_ | refine blk_alloc ?_ _));exact BK416.out) hb);replace HB:=am (below_step (HB.out) hb);(try clear hb);(try clear hb2);(try clear hk);(try clear hi);obtain ⟨hcz24_0,hcz24_1⟩:=cO2 BK416.out;have hfz24_0:=blk_frozen BK416.out 0;have hfz24_1:=blk_frozen BK416.out 1) | (go_at_call 19;(with_reducible refine (q8_Flows.calls k _ _ l0_0 _ _ l0_1 _ _ l3 t419 _ ?side1 ?side2 ?side3 ?side4 ?side5 ?side6 A19.out).mono ?_);(case side1=>exact kC HR0_0.out HB.out);(case side2=>exact HC0_0.out);(case side3=>exact kC HR0_1.out HB.out);(case side4=>exact HC0_1.out);(case side5=>exact kC HR3.out HB.out);(case side6=>exact HC3.out);rintro e w25 ⟨rfl,hb⟩;replace BK416:=am (blk_below (g:=gb416) (o:=.cells #[.slice A0_0 l0_0.length c0_0,.slice A0_1 l0_1.length c0_1] 25 (0,0)) (by (with_reducible repeat (first | refine blk_drewN ?_ _ | refine blk_drew ?_ | refine blk_alloc ?_ _));exact BK416.out) hb);replace HB:=am (below_step (HB.out) hb);(try clear hb);(try clear hb2);(try clear hk);(try clear hi)))
    go_meet
    case rel=>exact ⟨_,(!t419),(by first | rfl | (simp;done) | (simp [*];done)),H',⟨by first | omega | exact Nat.le_refl _⟩,⟨by (with_reducible repeat (first | refine blk_drewN ?_ _ | refine blk_drew ?_ | refine blk_alloc ?_ _));exact BK416.out⟩,⟨HB.out⟩⟩
 case rest =>
  clear HC5
  obtain ⟨kq,x39_4,rfl,HA,HJ4,BK416,HB⟩:=hcut
  cases kq with
  | zero=>exact absurd HA.out (by simp [l8_GateShort.j0])
  | succ kj4 =>
   have H:=HA.out
   clear HA
   simp only [l8_GateShort.j0] at H
   by_cases c32 : x39_4 = true
   ·subst c32
    replace H : ((l8_known.f).bind fun t420=>(some t420)) = some r:=by rw [if_pos rfl] at H;exact H
    replace H:=obm H
    obtain ⟨t420,A330,H⟩:=H
    replace H : (some t420) = some r:=H
    have A33:=am A330
    clear A330
    obtain rfl:=Option.some.inj H
    go_wp2_with (first | ((with_reducible refine ga_callee (f:=15) rfl ?_);refine goesL_ (some 40) rfl rfl Tryz.func15 (by kernel_rfl) rfl #[] rfl (by (try simp only [List.map_toArray,List.map_cons,List.map_nil]);first | done | rfl | (simp only [List.length_drop,List.length_take];rfl)) ?_;(with_reducible refine (l8_known.calls  t420 _ A33.out).mono ?_);rintro e w34 ⟨rfl,hb⟩;refine ⟨_,rfl,?_⟩;replace BK416:=am (blk_below (g:=gb416) (o:=.cells #[.slice A0_0 l0_0.length c0_0,.slice A0_1 l0_1.length c0_1] 25 (0,0)) (by (with_reducible repeat (first | refine blk_drewN ?_ _ | refine blk_drew ?_ | refine blk_alloc ?_ _));exact BK416.out) hb);replace HB:=am (below_step (HB.out) hb);(try clear hb);(try clear hb2);(try clear hk);(try clear hi)))
    go_ret
    exact ⟨by first | rfl | (simp [*]<;>rfl),HB.out⟩
   ·replace c32:=Bool.eq_false_iff.mpr c32
    subst c32
    replace H : ((ga_Cut.f kj4 l0_0 l0_1 l1).bind fun bt421=>((q8_Short.f kj4 l0_0 l0_1 l1 l2 false).bind fun t425=>(if bt421.2 = 0 then ((ga_Feeds.f kj4 l0_0 l0_1 l1 l3).bind fun bt427=>(if (bt421.1.length : Int) > (l0_0.length : Int) then (l8_GateShort.j1 kj4 l2 bt421.1 (decide (t425 > 0)) true) else ((l8_points.f kj4 l0_0 l0_1 bt421.1).bind fun t429=>(if t429 = true then ((q8_Short.f kj4 l0_0 l0_1 l1 bt421.1 false).bind fun t430=>(if t430≤0 then (l8_GateShort.j1 kj4 l2 bt421.1 (decide (t425 > 0)) true) else (if bt427.2 = 0 then (l8_GateShort.j1 kj4 l2 bt421.1 (decide (t425 > 0)) bt427.1) else (l8_GateShort.j1 kj4 l2 bt421.1 (decide (t425 > 0)) true)))) else (l8_GateShort.j1 kj4 l2 bt421.1 (decide (t425 > 0)) true))))) else (if bt421.2 = 5 then (if t425 > 0 then (some false) else ((l8_known.f).bind fun t426=>(some t426))) else (some false))))) = some r:=by rw [if_neg (show ¬ (false = true) by decide)] at H;exact H
    replace H:=obm H
    obtain ⟨⟨t421,t424⟩,A350,H⟩:=H
    replace H : ((q8_Short.f kj4 l0_0 l0_1 l1 l2 false).bind fun t425=>(if t424 = 0 then ((ga_Feeds.f kj4 l0_0 l0_1 l1 l3).bind fun bt427=>(if (t421.length : Int) > (l0_0.length : Int) then (l8_GateShort.j1 kj4 l2 t421 (decide (t425 > 0)) true) else ((l8_points.f kj4 l0_0 l0_1 t421).bind fun t429=>(if t429 = true then ((q8_Short.f kj4 l0_0 l0_1 l1 t421 false).bind fun t430=>(if t430≤0 then (l8_GateShort.j1 kj4 l2 t421 (decide (t425 > 0)) true) else (if bt427.2 = 0 then (l8_GateShort.j1 kj4 l2 t421 (decide (t425 > 0)) bt427.1) else (l8_GateShort.j1 kj4 l2 t421 (decide (t425 > 0)) true)))) else (l8_GateShort.j1 kj4 l2 t421 (decide (t425 > 0)) true))))) else (if t424 = 5 then (if t425 > 0 then (some false) else ((l8_known.f).bind fun t426=>(some t426))) else (some false)))) = some r:=H
    have A35:=am A350
    clear A350
    replace H:=obm H
    obtain ⟨t425,A360,H⟩:=H
    replace H : (if t424 = 0 then ((ga_Feeds.f kj4 l0_0 l0_1 l1 l3).bind fun bt427=>(if (t421.length : Int) > (l0_0.length : Int) then (l8_GateShort.j1 kj4 l2 t421 (decide (t425 > 0)) true) else ((l8_points.f kj4 l0_0 l0_1 t421).bind fun t429=>(if t429 = true then ((q8_Short.f kj4 l0_0 l0_1 l1 t421 false).bind fun t430=>(if t430≤0 then (l8_GateShort.j1 kj4 l2 t421 (decide (t425 > 0)) true) else (if bt427.2 = 0 then (l8_GateShort.j1 kj4 l2 t421 (decide (t425 > 0)) bt427.1) else (l8_GateShort.j1 kj4 l2 t421 (decide (t425 > 0)) true)))) else (l8_GateShort.j1 kj4 l2 t421 (decide (t425 > 0)) true))))) else (if t424 = 5 then (if t425 > 0 then (some false) else ((l8_known.f).bind fun t426=>(some t426))) else (some false))) = some r:=H
    have A36:=am A360
    clear A360
    by_cases c37 : t424 = 0
    case neg =>
     rw [if_neg c37] at H
     have c37b0 : (t424 == 0) = false:=beq_eq_false_iff_ne.mpr c37
     have c37b1 : (t424 != 0) = true:=bne_iff_ne.mpr c37
     by_cases c88 : t424 = 5
     case neg =>
      rw [if_neg c88] at H
      have c88b0 : (t424 == 5) = false:=beq_eq_false_iff_ne.mpr c88
      have c88b1 : (t424 != 5) = true:=bne_iff_ne.mpr c88
      obtain rfl:=Option.some.inj H
      obtain ⟨hcz100_0,hcz100_1⟩:=cO2 BK416.out
      have hfz100_0:=blk_frozen BK416.out 0
      have hfz100_1:=blk_frozen BK416.out 1
      go_wp2_with (first | ((with_reducible refine ga_callee (f:=23) rfl ?_);refine goesL_ (some 44) rfl rfl Tryz.func23 (by kernel_rfl) rfl #[.agg #[.slice A0_0 l0_0.length c0_0,.slice A0_1 l0_1.length c0_1],.slice A1 l1.length c1] rfl (by (try simp only [List.map_toArray,List.map_cons,List.map_nil]);first | done | rfl | (simp only [List.length_drop,List.length_take];rfl)) ?_;(with_reducible refine (ga_Cut.calls kj4 _ _ l0_0 _ _ l0_1 _ _ l1 t421 t424 _ ?side1 ?side2 ?side3 ?side4 ?side5 ?side6 A35.out).mono ?_);(case side1=>exact kC HR0_0.out HB.out);(case side2=>exact HC0_0.out);(case side3=>exact kC HR0_1.out HB.out);(case side4=>exact HC0_1.out);(case side5=>exact kC HR1.out HB.out);(case side6=>exact HC1.out);rintro e w101 ⟨v422,rfl,ho0,hb⟩;refine ⟨_,rfl,?_⟩;have HO423:=am (Kd.R_lower ho0 (below_size (HB.out)));replace BK416:=am (blk_below (g:=gb416) (o:=.cells #[.slice A0_0 l0_0.length c0_0,.slice A0_1 l0_1.length c0_1] 25 (0,0)) (by (with_reducible repeat (first | refine blk_drewN ?_ _ | refine blk_drew ?_ | refine blk_alloc ?_ _));exact BK416.out) hb);replace HB:=am (below_step (HB.out) hb);(try clear hb);(try clear hb2);(try clear hk);(try clear hi);(try clear ho0);obtain ⟨hcz102_0,hcz102_1⟩:=cO2 BK416.out;have hfz102_0:=blk_frozen BK416.out 0;have hfz102_1:=blk_frozen BK416.out 1) | ((with_reducible refine ga_callee (f:=27) rfl ?_);refine goesL_ (some 50) rfl rfl Tryz.func27 (by kernel_rfl) rfl #[.agg #[.slice A0_0 l0_0.length c0_0,.slice A0_1 l0_1.length c0_1],.slice A1 l1.length c1,.slice A2 l2.length c2,.bool false] rfl (by (try simp only [List.map_toArray,List.map_cons,List.map_nil]);first | done | rfl | (simp only [List.length_drop,List.length_take];rfl)) ?_;(with_reducible refine (q8_Short.calls kj4 _ _ l0_0 _ _ l0_1 _ _ l1 _ _ l2 false t425 _ ?side1 ?side2 ?side3 ?side4 ?side5 ?side6 ?side7 ?side8 A36.out).mono ?_);(case side1=>exact kC HR0_0.out HB.out);(case side2=>exact HC0_0.out);(case side3=>exact kC HR0_1.out HB.out);(case side4=>exact HC0_1.out);(case side5=>exact kC HR1.out HB.out);(case side6=>exact HC1.out);(case side7=>exact kC HR2.out HB.out);(case side8=>exact HC2.out);rintro e w103 ⟨rfl,hb⟩;refine ⟨_,rfl,?_⟩;replace HO423:=am (Kd.R_below (by (with_reducible repeat (first | apply Kd.R_alloc | apply Kd.R_drewN | apply Kd.R_drew));exact HO423.out) hb);replace BK416:=am (blk_below (g:=gb416) (o:=.cells #[.slice A0_0 l0_0.length c0_0,.slice A0_1 l0_1.length c0_1] 25 (0,0)) (by (with_reducible repeat (first | refine blk_drewN ?_ _ | refine blk_drew ?_ | refine blk_alloc ?_ _));exact BK416.out) hb);replace HB:=am (below_step (HB.out) hb);(try clear hb);(try clear hb2);(try clear hk);(try clear hi)))
      go_ret
      exact ⟨by first | rfl | (simp [*]<;>rfl),HB.out⟩
     rw [if_pos c88] at H
     have c88b0 : (t424 == 5) = true:=beq_iff_eq.mpr c88
     have c88b1 : (t424 != 5) = false:=bne_eq_false_iff_eq.mpr c88
     clear c88
     by_cases c89 : t425 > 0
     ·rw [if_pos c89] at H
      have c89b0 : decide (0 < t425) = true:=decide_eq_true c89
      clear c89
      obtain rfl:=Option.some.inj H
      obtain ⟨hcz90_0,hcz90_1⟩:=cO2 BK416.out
      have hfz90_0:=blk_frozen BK416.out 0
      have hfz90_1:=blk_frozen BK416.out 1
      go_wp2_with (first | ((with_reducible refine ga_callee (f:=23) rfl ?_);refine goesL_ (some 44) rfl rfl Tryz.func23 (by kernel_rfl) rfl #[.agg #[.slice A0_0 l0_0.length c0_0,.slice A0_1 l0_1.length c0_1],.slice A1 l1.length c1] rfl (by (try simp only [List.map_toArray,List.map_cons,List.map_nil]);first | done | rfl | (simp only [List.length_drop,List.length_take];rfl)) ?_;(with_reducible refine (ga_Cut.calls kj4 _ _ l0_0 _ _ l0_1 _ _ l1 t421 t424 _ ?side1 ?side2 ?side3 ?side4 ?side5 ?side6 A35.out).mono ?_);(case side1=>exact kC HR0_0.out HB.out);(case side2=>exact HC0_0.out);(case side3=>exact kC HR0_1.out HB.out);(case side4=>exact HC0_1.out);(case side5=>exact kC HR1.out HB.out);(case side6=>exact HC1.out);rintro e w91 ⟨v422,rfl,ho0,hb⟩;refine ⟨_,rfl,?_⟩;have HO423:=am (Kd.R_lower ho0 (below_size (HB.out)));replace BK416:=am (blk_below (g:=gb416) (o:=.cells #[.slice A0_0 l0_0.length c0_0,.slice A0_1 l0_1.length c0_1] 25 (0,0)) (by (with_reducible repeat (first | refine blk_drewN ?_ _ | refine blk_drew ?_ | refine blk_alloc ?_ _));exact BK416.out) hb);replace HB:=am (below_step (HB.out) hb);(try clear hb);(try clear hb2);(try clear hk);(try clear hi);(try clear ho0);obtain ⟨hcz92_0,hcz92_1⟩:=cO2 BK416.out;have hfz92_0:=blk_frozen BK416.out 0;have hfz92_1:=blk_frozen BK416.out 1) | ((with_reducible refine ga_callee (f:=27) rfl ?_);refine goesL_ (some 50) rfl rfl Tryz.func27 (by kernel_rfl) rfl #[.agg #[.slice A0_0 l0_0.length c0_0,.slice A0_1 l0_1.length c0_1],.slice A1 l1.length c1,.slice A2 l2.length c2,.bool false] rfl (by (try simp only [List.map_toArray,List.map_cons,List.map_nil]);first | done | rfl | (simp only [List.length_drop,List.length_take];rfl)) ?_;(with_reducible refine (q8_Short.calls kj4 _ _ l0_0 _ _ l0_1 _ _ l1 _ _ l2 false t425 _ ?side1 ?side2 ?side3 ?side4 ?side5 ?side6 ?side7 ?side8 A36.out).mono ?_);(case side1=>exact kC HR0_0.out HB.out);(case side2=>exact HC0_0.out);(case side3=>exact kC HR0_1.out HB.out);(case side4=>exact HC0_1.out);(case side5=>exact kC HR1.out HB.out);(case side6=>exact HC1.out);(case side7=>exact kC HR2.out HB.out);(case side8=>exact HC2.out);rintro e w93 ⟨rfl,hb⟩;refine ⟨_,rfl,?_⟩;replace HO423:=am (Kd.R_below (by (with_reducible repeat (first | apply Kd.R_alloc | apply Kd.R_drewN | apply Kd.R_drew));exact HO423.out) hb);replace BK416:=am (blk_below (g:=gb416) (o:=.cells #[.slice A0_0 l0_0.length c0_0,.slice A0_1 l0_1.length c0_1] 25 (0,0)) (by (with_reducible repeat (first | refine blk_drewN ?_ _ | refine blk_drew ?_ | refine blk_alloc ?_ _));exact BK416.out) hb);replace HB:=am (below_step (HB.out) hb);(try clear hb);(try clear hb2);(try clear hk);(try clear hi)))
      go_ret
      exact ⟨by first | rfl | (simp [*]<;>rfl),HB.out⟩
     ·rw [if_neg c89] at H
      have c89b0 : decide (0 < t425) = false:=decide_eq_false c89
      clear c89
      replace H:=obm H
      obtain ⟨t426,A940,H⟩:=H
      replace H : (some t426) = some r:=H
      have A94:=am A940
      clear A940
      obtain rfl:=Option.some.inj H
      obtain ⟨hcz95_0,hcz95_1⟩:=cO2 BK416.out
      have hfz95_0:=blk_frozen BK416.out 0
      have hfz95_1:=blk_frozen BK416.out 1
      go_wp2_with (first | ((with_reducible refine ga_callee (f:=23) rfl ?_);refine goesL_ (some 44) rfl rfl Tryz.func23 (by kernel_rfl) rfl #[.agg #[.slice A0_0 l0_0.length c0_0,.slice A0_1 l0_1.length c0_1],.slice A1 l1.length c1] rfl (by (try simp only [List.map_toArray,List.map_cons,List.map_nil]);first | done | rfl | (simp only [List.length_drop,List.length_take];rfl)) ?_;(with_reducible refine (ga_Cut.calls kj4 _ _ l0_0 _ _ l0_1 _ _ l1 t421 t424 _ ?side1 ?side2 ?side3 ?side4 ?side5 ?side6 A35.out).mono ?_);(case side1=>exact kC HR0_0.out HB.out);(case side2=>exact HC0_0.out);(case side3=>exact kC HR0_1.out HB.out);(case side4=>exact HC0_1.out);(case side5=>exact kC HR1.out HB.out);(case side6=>exact HC1.out);rintro e w96 ⟨v422,rfl,ho0,hb⟩;refine ⟨_,rfl,?_⟩;have HO423:=am (Kd.R_lower ho0 (below_size (HB.out)));replace BK416:=am (blk_below (g:=gb416) (o:=.cells #[.slice A0_0 l0_0.length c0_0,.slice A0_1 l0_1.length c0_1] 25 (0,0)) (by (with_reducible repeat (first | refine blk_drewN ?_ _ | refine blk_drew ?_ | refine blk_alloc ?_ _));exact BK416.out) hb);replace HB:=am (below_step (HB.out) hb);(try clear hb);(try clear hb2);(try clear hk);(try clear hi);(try clear ho0);obtain ⟨hcz97_0,hcz97_1⟩:=cO2 BK416.out;have hfz97_0:=blk_frozen BK416.out 0;have hfz97_1:=blk_frozen BK416.out 1) | ((with_reducible refine ga_callee (f:=27) rfl ?_);refine goesL_ (some 50) rfl rfl Tryz.func27 (by kernel_rfl) rfl #[.agg #[.slice A0_0 l0_0.length c0_0,.slice A0_1 l0_1.length c0_1],.slice A1 l1.length c1,.slice A2 l2.length c2,.bool false] rfl (by (try simp only [List.map_toArray,List.map_cons,List.map_nil]);first | done | rfl | (simp only [List.length_drop,List.length_take];rfl)) ?_;(with_reducible refine (q8_Short.calls kj4 _ _ l0_0 _ _ l0_1 _ _ l1 _ _ l2 false t425 _ ?side1 ?side2 ?side3 ?side4 ?side5 ?side6 ?side7 ?side8 A36.out).mono ?_);(case side1=>exact kC HR0_0.out HB.out);(case side2=>exact HC0_0.out);(case side3=>exact kC HR0_1.out HB.out);(case side4=>exact HC0_1.out);(case side5=>exact kC HR1.out HB.out);(case side6=>exact HC1.out);(case side7=>exact kC HR2.out HB.out);(case side8=>exact HC2.out);rintro e w98 ⟨rfl,hb⟩;refine ⟨_,rfl,?_⟩;replace HO423:=am (Kd.R_below (by (with_reducible repeat (first | apply Kd.R_alloc | apply Kd.R_drewN | apply Kd.R_drew));exact HO423.out) hb);replace BK416:=am (blk_below (g:=gb416) (o:=.cells #[.slice A0_0 l0_0.length c0_0,.slice A0_1 l0_1.length c0_1] 25 (0,0)) (by (with_reducible repeat (first | refine blk_drewN ?_ _ | refine blk_drew ?_ | refine blk_alloc ?_ _));exact BK416.out) hb);replace HB:=am (below_step (HB.out) hb);(try clear hb);(try clear hb2);(try clear hk);(try clear hi)) | (go_at_call 15;(with_reducible refine (l8_known.calls  t426 _ A94.out).mono ?_);rintro e w99 ⟨rfl,hb⟩;replace HO423:=am (Kd.R_below (by (with_reducible repeat (first | apply Kd.R_alloc | apply Kd.R_drewN | apply Kd.R_drew));exact HO423.out) hb);replace BK416:=am (blk_below (g:=gb416) (o:=.cells #[.slice A0_0 l0_0.length c0_0,.slice A0_1 l0_1.length c0_1] 25 (0,0)) (by (with_reducible repeat (first | refine blk_drewN ?_ _ | refine blk_drew ?_ | refine blk_alloc ?_ _));exact BK416.out) hb);replace HB:=am (below_step (HB.out) hb);(try clear hb);(try clear hb2);(try clear hk);(try clear hi)))
      go_ret
      exact ⟨by first | rfl | (simp [*]<;>rfl),HB.out⟩
    rw [if_pos c37] at H
    have c37b0 : (t424 == 0) = true:=beq_iff_eq.mpr c37
    have c37b1 : (t424 != 0) = false:=bne_eq_false_iff_eq.mpr c37
    clear c37
    replace H:=obm H
    obtain ⟨⟨t427,t428⟩,A380,H⟩:=H
    replace H : (if (t421.length : Int) > (l0_0.length : Int) then (l8_GateShort.j1 kj4 l2 t421 (decide (t425 > 0)) true) else ((l8_points.f kj4 l0_0 l0_1 t421).bind fun t429=>(if t429 = true then ((q8_Short.f kj4 l0_0 l0_1 l1 t421 false).bind fun t430=>(if t430≤0 then (l8_GateShort.j1 kj4 l2 t421 (decide (t425 > 0)) true) else (if t428 = 0 then (l8_GateShort.j1 kj4 l2 t421 (decide (t425 > 0)) t427) else (l8_GateShort.j1 kj4 l2 t421 (decide (t425 > 0)) true)))) else (l8_GateShort.j1 kj4 l2 t421 (decide (t425 > 0)) true)))) = some r:=H
    have A38:=am A380
    clear A380
    have HC39:=am H
    clear H
    obtain ⟨hcz40_0,hcz40_1⟩:=cO2 BK416.out
    have hfz40_0:=blk_frozen BK416.out 0
    have hfz40_1:=blk_frozen BK416.out 1
    go_upto_region 8 with (first | ((with_reducible refine ga_callee (f:=23) rfl ?_);refine goesL_ (some 44) rfl rfl Tryz.func23 (by kernel_rfl) rfl #[.agg #[.slice A0_0 l0_0.length c0_0,.slice A0_1 l0_1.length c0_1],.slice A1 l1.length c1] rfl (by (try simp only [List.map_toArray,List.map_cons,List.map_nil]);first | done | rfl | (simp only [List.length_drop,List.length_take];rfl)) ?_;(with_reducible refine (ga_Cut.calls kj4 _ _ l0_0 _ _ l0_1 _ _ l1 t421 t424 _ ?side1 ?side2 ?side3 ?side4 ?side5 ?side6 A35.out).mono ?_);(case side1=>exact kC HR0_0.out HB.out);(case side2=>exact HC0_0.out);(case side3=>exact kC HR0_1.out HB.out);(case side4=>exact HC0_1.out);(case side5=>exact kC HR1.out HB.out);(case side6=>exact HC1.out);rintro e w41 ⟨v422,rfl,ho0,hb⟩;refine ⟨_,rfl,?_⟩;have HO423:=am (Kd.R_lower ho0 (below_size (HB.out)));replace BK416:=am (blk_below (g:=gb416) (o:=.cells #[.slice A0_0 l0_0.length c0_0,.slice A0_1 l0_1.length c0_1] 25 (0,0)) (by (with_reducible repeat (first | refine blk_drewN ?_ _ | refine blk_drew ?_ | refine blk_alloc ?_ _));exact BK416.out) hb);replace HB:=am (below_step (HB.out) hb);(try clear hb);(try clear hb2);(try clear hk);(try clear hi);(try clear ho0);obtain ⟨hcz42_0,hcz42_1⟩:=cO2 BK416.out;have hfz42_0:=blk_frozen BK416.out 0;have hfz42_1:=blk_frozen BK416.out 1) | ((with_reducible refine ga_callee (f:=27) rfl ?_);refine goesL_ (some 50) rfl rfl Tryz.func27 (by kernel_rfl) rfl #[.agg #[.slice A0_0 l0_0.length c0_0,.slice A0_1 l0_1.length c0_1],.slice A1 l1.length c1,.slice A2 l2.length c2,.bool false] rfl (by (try simp only [List.map_toArray,List.map_cons,List.map_nil]);first | done | rfl | (simp only [List.length_drop,List.length_take];rfl)) ?_;(with_reducible refine (q8_Short.calls kj4 _ _ l0_0 _ _ l0_1 _ _ l1 _ _ l2 false t425 _ ?side1 ?side2 ?side3 ?side4 ?side5 ?side6 ?side7 ?side8 A36.out).mono ?_);(case side1=>exact kC HR0_0.out HB.out);(case side2=>exact HC0_0.out);(case side3=>exact kC HR0_1.out HB.out);(case side4=>exact HC0_1.out);(case side5=>exact kC HR1.out HB.out);(case side6=>exact HC1.out);(case side7=>exact kC HR2.out HB.out);(case side8=>exact HC2.out);rintro e w43 ⟨rfl,hb⟩;refine ⟨_,rfl,?_⟩;replace HO423:=am (Kd.R_below (by (with_reducible repeat (first | apply Kd.R_alloc | apply Kd.R_drewN | apply Kd.R_drew));exact HO423.out) hb);replace BK416:=am (blk_below (g:=gb416) (o:=.cells #[.slice A0_0 l0_0.length c0_0,.slice A0_1 l0_1.length c0_1] 25 (0,0)) (by (with_reducible repeat (first | refine blk_drewN ?_ _ | refine blk_drew ?_ | refine blk_alloc ?_ _));exact BK416.out) hb);replace HB:=am (below_step (HB.out) hb);(try clear hb);(try clear hb2);(try clear hk);(try clear hi);obtain ⟨hcz44_0,hcz44_1⟩:=cO2 BK416.out;have hfz44_0:=blk_frozen BK416.out 0;have hfz44_1:=blk_frozen BK416.out 1) | ((with_reducible refine ga_callee (f:=16) rfl ?_);refine goesL_ (some 67) rfl rfl Tryz.func16 (by kernel_rfl) rfl #[.agg #[.slice A0_0 l0_0.length c0_0,.slice A0_1 l0_1.length c0_1],.slice A1 l1.length c1,.slice A3 l3.length c3] rfl (by (try simp only [List.map_toArray,List.map_cons,List.map_nil]);first | done | rfl | (simp only [List.length_drop,List.length_take];rfl)) ?_;(with_reducible refine (ga_Feeds.calls kj4 _ _ l0_0 _ _ l0_1 _ _ l1 _ _ l3 t427 t428 _ ?side1 ?side2 ?side3 ?side4 ?side5 ?side6 ?side7 ?side8 A38.out).mono ?_);(case side1=>exact kC HR0_0.out HB.out);(case side2=>exact HC0_0.out);(case side3=>exact kC HR0_1.out HB.out);(case side4=>exact HC0_1.out);(case side5=>exact kC HR1.out HB.out);(case side6=>exact HC1.out);(case side7=>exact kC HR3.out HB.out);(case side8=>exact HC3.out);rintro e w45 ⟨rfl,hb⟩;refine ⟨_,rfl,?_⟩;replace HO423:=am (Kd.R_below (by (with_reducible repeat (first | apply Kd.R_alloc | apply Kd.R_drewN | apply Kd.R_drew));exact HO423.out) hb);replace BK416:=am (blk_below (g:=gb416) (o:=.cells #[.slice A0_0 l0_0.length c0_0,.slice A0_1 l0_1.length c0_1] 25 (0,0)) (by (with_reducible repeat (first | refine blk_drewN ?_ _ | refine blk_drew ?_ | refine blk_alloc ?_ _));exact BK416.out) hb);replace HB:=am (below_step (HB.out) hb);(try clear hb);(try clear hb2);(try clear hk);(try clear hi)))
    (try simp only [Act.put,List.setIfInBounds_toArray,List.set_cons_zero,List.set_cons_succ])
    go_cut [95] (fun v95 wc=>∃ (kq : Nat) (x95_38 : Bool),v95 = .bool x95_38∧Aside0 (l8_GateShort.j1 kq l2 t421 (decide (t425 > 0)) x95_38 = some r)∧Aside0 (kq≤kj4)∧Aside0 (Kd.R (Kd.int .i64) 3 wc w.heap.size (fun _=>True) v422 t421)∧Aside0 (wc.heap[gb416]? = some (.cells #[(.slice A0_0 l0_0.length c0_0),(.slice A0_1 l0_1.length c0_1)] 25 (0,0)))∧Aside0 (Below w.heap.size w wc))
    case first =>
     have H:=HC39.out
     clear HC39
     by_cases c46 : (t421.length : Int) > (l0_0.length : Int)
     ·rw [if_pos c46] at H
      have c46b0 : decide ((l0_0.length : Int) < (t421.length : Int)) = true:=decide_eq_true c46
      have c46b1 : decide (l0_0.length < t421.length) = true:=decide_eq_true (Int.ofNat_lt.mp c46)
      clear c46
      (first | rw [c46b0] | (simp only [i64_w,i32_w];rw [c46b0]) | skip)
      replace H':=am H
      obtain ⟨Ao47,co47,eo47⟩:=Kd.R_slice HO423.out
      subst eo47
      obtain ⟨hcz48_0,hcz48_1⟩:=cO2 BK416.out
      have hfz48_0:=blk_frozen BK416.out 0
      have hfz48_1:=blk_frozen BK416.out 1
      go_wp2
      go_meet
      case rel=>exact ⟨_,(true),(by first | rfl | (simp;done) | (simp [*];done)),H',⟨by have:=HJ4.out;first | omega | exact Nat.le_refl _⟩,⟨by (with_reducible repeat (first | apply Kd.R_alloc | apply Kd.R_drewN | apply Kd.R_drew));exact HO423.out⟩,⟨by (with_reducible repeat (first | refine blk_drewN ?_ _ | refine blk_drew ?_ | refine blk_alloc ?_ _));exact BK416.out⟩,⟨HB.out⟩⟩
     ·rw [if_neg c46] at H
      have c46b0 : decide ((l0_0.length : Int) < (t421.length : Int)) = false:=decide_eq_false c46
      have c46b1 : decide (l0_0.length < t421.length) = false:=decide_eq_false (fun h=>c46 (Int.ofNat_lt.mpr h))
      clear c46
      (first | rw [c46b0] | (simp only [i64_w,i32_w];rw [c46b0]) | skip)
      replace H:=obm H
      obtain ⟨t429,A490,H⟩:=H
      replace H : (if t429 = true then ((q8_Short.f kj4 l0_0 l0_1 l1 t421 false).bind fun t430=>(if t430≤0 then (l8_GateShort.j1 kj4 l2 t421 (decide (t425 > 0)) true) else (if t428 = 0 then (l8_GateShort.j1 kj4 l2 t421 (decide (t425 > 0)) t427) else (l8_GateShort.j1 kj4 l2 t421 (decide (t425 > 0)) true)))) else (l8_GateShort.j1 kj4 l2 t421 (decide (t425 > 0)) true)) = some r:=H
      have A49:=am A490
      clear A490
      by_cases c50 : t429 = true
      case neg =>
       replace c50:=Bool.eq_false_iff.mpr c50
       subst c50
       replace H : (l8_GateShort.j1 kj4 l2 t421 (decide (t425 > 0)) true) = some r:=by rw [if_neg (show ¬ (false = true) by decide)] at H;exact H
       replace H':=am H
       obtain ⟨Ao69,co69,eo69⟩:=Kd.R_slice HO423.out
       subst eo69
       obtain ⟨hcz70_0,hcz70_1⟩:=cO2 BK416.out
       have hfz70_0:=blk_frozen BK416.out 0
       have hfz70_1:=blk_frozen BK416.out 1
       go_wp2_with (first | (go_at_call 26;(with_reducible refine (l8_points.calls kj4 _ _ l0_0 _ _ l0_1 _ _ t421 false _ ?side1 ?side2 ?side3 ?side4 ?side5 ?side6 A49.out).mono ?_);(case side1=>exact kC HR0_0.out HB.out);(case side2=>exact HC0_0.out);(case side3=>exact kC HR0_1.out HB.out);(case side4=>exact HC0_1.out);(case side5=>repeat (first | exact (Kd.R_reads' HO423.out).2.2 | (with_reducible refine Kd.C_alloc ?_ _) | (with_reducible refine Kd.C_drewN ?_ _) | (with_reducible refine Kd.C_drew ?_)));(case side6=>exact (Kd.R_reads' HO423.out).2.1);rintro e w71 ⟨rfl,hb⟩;replace HO423:=am (Kd.R_below (by (with_reducible repeat (first | apply Kd.R_alloc | apply Kd.R_drewN | apply Kd.R_drew));exact HO423.out) hb);replace BK416:=am (blk_below (g:=gb416) (o:=.cells #[.slice A0_0 l0_0.length c0_0,.slice A0_1 l0_1.length c0_1] 25 (0,0)) (by (with_reducible repeat (first | refine blk_drewN ?_ _ | refine blk_drew ?_ | refine blk_alloc ?_ _));exact BK416.out) hb);replace HB:=am (below_step (HB.out) hb);(try clear hb);(try clear hb2);(try clear hk);(try clear hi)))
       go_meet
       case rel=>exact ⟨_,(true),(by first | rfl | (simp;done) | (simp [*];done)),H',⟨by have:=HJ4.out;first | omega | exact Nat.le_refl _⟩,⟨by (with_reducible repeat (first | apply Kd.R_alloc | apply Kd.R_drewN | apply Kd.R_drew));exact HO423.out⟩,⟨by (with_reducible repeat (first | refine blk_drewN ?_ _ | refine blk_drew ?_ | refine blk_alloc ?_ _));exact BK416.out⟩,⟨HB.out⟩⟩
      subst c50
      replace H : ((q8_Short.f kj4 l0_0 l0_1 l1 t421 false).bind fun t430=>(if t430≤0 then (l8_GateShort.j1 kj4 l2 t421 (decide (t425 > 0)) true) else (if t428 = 0 then (l8_GateShort.j1 kj4 l2 t421 (decide (t425 > 0)) t427) else (l8_GateShort.j1 kj4 l2 t421 (decide (t425 > 0)) true)))) = some r:=by rw [if_pos rfl] at H;exact H
      replace H:=obm H
      obtain ⟨t430,A510,H⟩:=H
      replace H : (if t430≤0 then (l8_GateShort.j1 kj4 l2 t421 (decide (t425 > 0)) true) else (if t428 = 0 then (l8_GateShort.j1 kj4 l2 t421 (decide (t425 > 0)) t427) else (l8_GateShort.j1 kj4 l2 t421 (decide (t425 > 0)) true))) = some r:=H
      have A51:=am A510
      clear A510
      by_cases c52 : t430≤0
      ·rw [if_pos c52] at H
       have c52b0 : decide (t430≤0) = true:=decide_eq_true c52
       clear c52
       replace H':=am H
       obtain ⟨Ao53,co53,eo53⟩:=Kd.R_slice HO423.out
       subst eo53
       obtain ⟨hcz54_0,hcz54_1⟩:=cO2 BK416.out
       have hfz54_0:=blk_frozen BK416.out 0
       have hfz54_1:=blk_frozen BK416.out 1
       go_wp2_with (first | (go_at_call 26;(with_reducible refine (l8_points.calls kj4 _ _ l0_0 _ _ l0_1 _ _ t421 true _ ?side1 ?side2 ?side3 ?side4 ?side5 ?side6 A49.out).mono ?_);(case side1=>exact kC HR0_0.out HB.out);(case side2=>exact HC0_0.out);(case side3=>exact kC HR0_1.out HB.out);(case side4=>exact HC0_1.out);(case side5=>repeat (first | exact (Kd.R_reads' HO423.out).2.2 | (with_reducible refine Kd.C_alloc ?_ _) | (with_reducible refine Kd.C_drewN ?_ _) | (with_reducible refine Kd.C_drew ?_)));(case side6=>exact (Kd.R_reads' HO423.out).2.1);rintro e w55 ⟨rfl,hb⟩;replace HO423:=am (Kd.R_below (by (with_reducible repeat (first | apply Kd.R_alloc | apply Kd.R_drewN | apply Kd.R_drew));exact HO423.out) hb);replace BK416:=am (blk_below (g:=gb416) (o:=.cells #[.slice A0_0 l0_0.length c0_0,.slice A0_1 l0_1.length c0_1] 25 (0,0)) (by (with_reducible repeat (first | refine blk_drewN ?_ _ | refine blk_drew ?_ | refine blk_alloc ?_ _));exact BK416.out) hb);replace HB:=am (below_step (HB.out) hb);(try clear hb);(try clear hb2);(try clear hk);(try clear hi);obtain ⟨hcz56_0,hcz56_1⟩:=cO2 BK416.out;have hfz56_0:=blk_frozen BK416.out 0;have hfz56_1:=blk_frozen BK416.out 1) | (go_at_call 27;(with_reducible refine (q8_Short.calls kj4 _ _ l0_0 _ _ l0_1 _ _ l1 _ _ t421 false t430 _ ?side1 ?side2 ?side3 ?side4 ?side5 ?side6 ?side7 ?side8 A51.out).mono ?_);(case side1=>exact kC HR0_0.out HB.out);(case side2=>exact HC0_0.out);(case side3=>exact kC HR0_1.out HB.out);(case side4=>exact HC0_1.out);(case side5=>exact kC HR1.out HB.out);(case side6=>exact HC1.out);(case side7=>repeat (first | exact (Kd.R_reads' HO423.out).2.2 | (with_reducible refine Kd.C_alloc ?_ _) | (with_reducible refine Kd.C_drewN ?_ _) | (with_reducible refine Kd.C_drew ?_)));(case side8=>exact (Kd.R_reads' HO423.out).2.1);rintro e w57 ⟨rfl,hb⟩;replace HO423:=am (Kd.R_below (by (with_reducible repeat (first | apply Kd.R_alloc | apply Kd.R_drewN | apply Kd.R_drew));exact HO423.out) hb);replace BK416:=am (blk_below (g:=gb416) (o:=.cells #[.slice A0_0 l0_0.length c0_0,.slice A0_1 l0_1.length c0_1] 25 (0,0)) (by (with_reducible repeat (first | refine blk_drewN ?_ _ | refine blk_drew ?_ | refine blk_alloc ?_ _));exact BK416.out) hb);replace HB:=am (below_step (HB.out) hb);(try clear hb);(try clear hb2);(try clear hk);(try clear hi)))
       go_meet
       case rel=>exact ⟨_,(true),(by first | rfl | (simp;done) | (simp [*];done)),H',⟨by have:=HJ4.out;first | omega | exact Nat.le_refl _⟩,⟨by (with_reducible repeat (first | apply Kd.R_alloc | apply Kd.R_drewN | apply Kd.R_drew));exact HO423.out⟩,⟨by (with_reducible repeat (first | refine blk_drewN ?_ _ | refine blk_drew ?_ | refine blk_alloc ?_ _));exact BK416.out⟩,⟨HB.out⟩⟩
      ·rw [if_neg c52] at H
       have c52b0 : decide (t430≤0) = false:=decide_eq_false c52
       clear c52
       by_cases c58 : t428 = 0
       case neg =>
        rw [if_neg c58] at H
        have c58b0 : (t428 == 0) = false:=beq_eq_false_iff_ne.mpr c58
        have c58b1 : (t428 != 0) = true:=bne_iff_ne.mpr c58
        replace H':=am H
        obtain ⟨Ao64,co64,eo64⟩:=Kd.R_slice HO423.out
        subst eo64
        obtain ⟨hcz65_0,hcz65_1⟩:=cO2 BK416.out
        have hfz65_0:=blk_frozen BK416.out 0
        have hfz65_1:=blk_frozen BK416.out 1
        go_wp2_with (first | (go_at_call 26;(with_reducible refine (l8_points.calls kj4 _ _ l0_0 _ _ l0_1 _ _ t421 true _ ?side1 ?side2 ?side3 ?side4 ?side5 ?side6 A49.out).mono ?_);(case side1=>exact kC HR0_0.out HB.out);(case side2=>exact HC0_0.out);(case side3=>exact kC HR0_1.out HB.out);(case side4=>exact HC0_1.out);(case side5=>repeat (first | exact (Kd.R_reads' HO423.out).2.2 | (with_reducible refine Kd.C_alloc ?_ _) | (with_reducible refine Kd.C_drewN ?_ _) | (with_reducible refine Kd.C_drew ?_)));(case side6=>exact (Kd.R_reads' HO423.out).2.1);rintro e w66 ⟨rfl,hb⟩;replace HO423:=am (Kd.R_below (by (with_reducible repeat (first | apply Kd.R_alloc | apply Kd.R_drewN | apply Kd.R_drew));exact HO423.out) hb);replace BK416:=am (blk_below (g:=gb416) (o:=.cells #[.slice A0_0 l0_0.length c0_0,.slice A0_1 l0_1.length c0_1] 25 (0,0)) (by (with_reducible repeat (first | refine blk_drewN ?_ _ | refine blk_drew ?_ | refine blk_alloc ?_ _));exact BK416.out) hb);replace HB:=am (below_step (HB.out) hb);(try clear hb);(try clear hb2);(try clear hk);(try clear hi);obtain ⟨hcz67_0,hcz67_1⟩:=cO2 BK416.out;have hfz67_0:=blk_frozen BK416.out 0;have hfz67_1:=blk_frozen BK416.out 1) | (go_at_call 27;(with_reducible refine (q8_Short.calls kj4 _ _ l0_0 _ _ l0_1 _ _ l1 _ _ t421 false t430 _ ?side1 ?side2 ?side3 ?side4 ?side5 ?side6 ?side7 ?side8 A51.out).mono ?_);(case side1=>exact kC HR0_0.out HB.out);(case side2=>exact HC0_0.out);(case side3=>exact kC HR0_1.out HB.out);(case side4=>exact HC0_1.out);(case side5=>exact kC HR1.out HB.out);(case side6=>exact HC1.out);(case side7=>repeat (first | exact (Kd.R_reads' HO423.out).2.2 | (with_reducible refine Kd.C_alloc ?_ _) | (with_reducible refine Kd.C_drewN ?_ _) | (with_reducible refine Kd.C_drew ?_)));(case side8=>exact (Kd.R_reads' HO423.out).2.1);rintro e w68 ⟨rfl,hb⟩;replace HO423:=am (Kd.R_below (by (with_reducible repeat (first | apply Kd.R_alloc | apply Kd.R_drewN | apply Kd.R_drew));exact HO423.out) hb);replace BK416:=am (blk_below (g:=gb416) (o:=.cells #[.slice A0_0 l0_0.length c0_0,.slice A0_1 l0_1.length c0_1] 25 (0,0)) (by (with_reducible repeat (first | refine blk_drewN ?_ _ | refine blk_drew ?_ | refine blk_alloc ?_ _));exact BK416.out) hb);replace HB:=am (below_step (HB.out) hb);(try clear hb);(try clear hb2);(try clear hk);(try clear hi)))
        go_meet
        case rel=>exact ⟨_,(true),(by first | rfl | (simp;done) | (simp [*];done)),H',⟨by have:=HJ4.out;first | omega | exact Nat.le_refl _⟩,⟨by (with_reducible repeat (first | apply Kd.R_alloc | apply Kd.R_drewN | apply Kd.R_drew));exact HO423.out⟩,⟨by (with_reducible repeat (first | refine blk_drewN ?_ _ | refine blk_drew ?_ | refine blk_alloc ?_ _));exact BK416.out⟩,⟨HB.out⟩⟩
       rw [if_pos c58] at H
       have c58b0 : (t428 == 0) = true:=beq_iff_eq.mpr c58
       have c58b1 : (t428 != 0) = false:=bne_eq_false_iff_eq.mpr c58
       clear c58
       replace H':=am H
       obtain ⟨Ao59,co59,eo59⟩:=Kd.R_slice HO423.out
       subst eo59
       obtain ⟨hcz60_0,hcz60_1⟩:=cO2 BK416.out
       have hfz60_0:=blk_frozen BK416.out 0
       have hfz60_1:=blk_frozen BK416.out 1
       go_wp2_with (first | (go_at_call 26;(with_reducible refine (l8_points.calls kj4 _ _ l0_0 _ _ l0_1 _ _ t421 true _ ?side1 ?side2 ?side3 ?side4 ?side5 ?side6 A49.out).mono ?_);(case side1=>exact kC HR0_0.out HB.out);(case side2=>exact HC0_0.out);(case side3=>exact kC HR0_1.out HB.out);(case side4=>exact HC0_1.out);(case side5=>repeat (first | exact (Kd.R_reads' HO423.out).2.2 | (with_reducible refine Kd.C_alloc ?_ _) | (with_reducible refine Kd.C_drewN ?_ _) | (with_reducible refine Kd.C_drew ?_)));(case side6=>exact (Kd.R_reads' HO423.out).2.1);rintro e w61 ⟨rfl,hb⟩;replace HO423:=am (Kd.R_below (by (with_reducible repeat (first | apply Kd.R_alloc | apply Kd.R_drewN | apply Kd.R_drew));exact HO423.out) hb);replace BK416:=am (blk_below (g:=gb416) (o:=.cells #[.slice A0_0 l0_0.length c0_0,.slice A0_1 l0_1.length c0_1] 25 (0,0)) (by (with_reducible repeat (first | refine blk_drewN ?_ _ | refine blk_drew ?_ | refine blk_alloc ?_ _));exact BK416.out) hb);replace HB:=am (below_step (HB.out) hb);(try clear hb);(try clear hb2);(try clear hk);(try clear hi);obtain ⟨hcz62_0,hcz62_1⟩:=cO2 BK416.out;have hfz62_0:=blk_frozen BK416.out 0;have hfz62_1:=blk_frozen BK416.out 1) | (go_at_call 27;(with_reducible refine (q8_Short.calls kj4 _ _ l0_0 _ _ l0_1 _ _ l1 _ _ t421 false t430 _ ?side1 ?side2 ?side3 ?side4 ?side5 ?side6 ?side7 ?side8 A51.out).mono ?_);(case side1=>exact kC HR0_0.out HB.out);(case side2=>exact HC0_0.out);(case side3=>exact kC HR0_1.out HB.out);(case side4=>exact HC0_1.out);(case side5=>exact kC HR1.out HB.out);(case side6=>exact HC1.out);(case side7=>repeat (first | exact (Kd.R_reads' HO423.out).2.2 | (with_reducible refine Kd.C_alloc ?_ _) | (with_reducible refine Kd.C_drewN ?_ _) | (with_reducible refine Kd.C_drew ?_)));(case side8=>exact (Kd.R_reads' HO423.out).2.1);rintro e w63 ⟨rfl,hb⟩;replace HO423:=am (Kd.R_below (by (with_reducible repeat (first | apply Kd.R_alloc | apply Kd.R_drewN | apply Kd.R_drew));exact HO423.out) hb);replace BK416:=am (blk_below (g:=gb416) (o:=.cells #[.slice A0_0 l0_0.length c0_0,.slice A0_1 l0_1.length c0_1] 25 (0,0)) (by (with_reducible repeat (first | refine blk_drewN ?_ _ | refine blk_drew ?_ | refine blk_alloc ?_ _));exact BK416.out) hb);replace HB:=am (below_step (HB.out) hb);(try clear hb);(try clear hb2);(try clear hk);(try clear hi)))
       go_meet
       case rel=>exact ⟨_,(t427),(by first | rfl | (simp;done) | (simp [*];done)),H',⟨by have:=HJ4.out;first | omega | exact Nat.le_refl _⟩,⟨by (with_reducible repeat (first | apply Kd.R_alloc | apply Kd.R_drewN | apply Kd.R_drew));exact HO423.out⟩,⟨by (with_reducible repeat (first | refine blk_drewN ?_ _ | refine blk_drew ?_ | refine blk_alloc ?_ _));exact BK416.out⟩,⟨HB.out⟩⟩
    case rest =>
     clear HC39
     obtain ⟨kq,x95_38,rfl,HA,HJ38,HO_9,BK416,HB⟩:=hcut
     cases kq with
     | zero=>exact absurd HA.out (by simp [l8_GateShort.j1])
     | succ kj38 =>
      have H:=HA.out
      clear HA
      simp only [l8_GateShort.j1] at H
      by_cases c72 : x95_38 = true
      ·subst c72
       replace H : (some false) = some r:=by rw [if_pos rfl] at H;exact H
       obtain rfl:=Option.some.inj H
       go_wp2
       go_ret
       exact ⟨by first | rfl | (simp [*]<;>rfl),HB.out⟩
      ·replace c72:=Bool.eq_false_iff.mpr c72
       subst c72
       replace H : (if (decide (t425 > 0)) = true then (if (l2.length : Int) > (t421.length : Int) then ((l8_known.f).bind fun t431=>(some t431)) else (if (l2.length : Int) = (t421.length : Int) then ((q8_Before.f kj38 l2 t421).bind fun t432=>(if t432 = true then (some false) else ((l8_known.f).bind fun t433=>(some t433)))) else (some false))) else ((l8_known.f).bind fun t434=>(some t434))) = some r:=by rw [if_neg (show ¬ (false = true) by decide)] at H;exact H
       by_cases c73 : (decide (t425 > 0)) = true
       case neg =>
        rw [if_neg c73] at H
        have c73b0 : (decide (t425 > 0)) = false:=by simpa using c73
        clear c73
        replace H:=obm H
        obtain ⟨t434,A860,H⟩:=H
        replace H : (some t434) = some r:=H
        have A86:=am A860
        clear A860
        obtain rfl:=Option.some.inj H
        go_wp2_with (first | (go_at_call 15;(with_reducible refine (l8_known.calls  t434 _ A86.out).mono ?_);rintro e w87 ⟨rfl,hb⟩;replace HO_9:=am (Kd.R_below (by (with_reducible repeat (first | apply Kd.R_alloc | apply Kd.R_drewN | apply Kd.R_drew));exact HO_9.out) hb);replace BK416:=am (blk_below (g:=gb416) (o:=.cells #[.slice A0_0 l0_0.length c0_0,.slice A0_1 l0_1.length c0_1] 25 (0,0)) (by (with_reducible repeat (first | refine blk_drewN ?_ _ | refine blk_drew ?_ | refine blk_alloc ?_ _));exact BK416.out) hb);replace HB:=am (below_step (HB.out) hb);(try clear hb);(try clear hb2);(try clear hk);(try clear hi)))
        go_ret
        exact ⟨by first | rfl | (simp [*]<;>rfl),HB.out⟩
       rw [if_pos c73] at H
       have c73b0 : (decide (t425 > 0)) = true:=c73
       clear c73
       by_cases c74 : (l2.length : Int) > (t421.length : Int)
       ·rw [if_pos c74] at H
        have c74b0 : decide ((t421.length : Int) < (l2.length : Int)) = true:=decide_eq_true c74
        have c74b1 : decide (t421.length < l2.length) = true:=decide_eq_true (Int.ofNat_lt.mp c74)
        clear c74
        replace H:=obm H
        obtain ⟨t431,A750,H⟩:=H
        replace H : (some t431) = some r:=H
        have A75:=am A750
        clear A750
        obtain rfl:=Option.some.inj H
        obtain ⟨Ao76,co76,eo76⟩:=Kd.R_slice HO_9.out
        subst eo76
        go_wp2_with (first | (go_at_call 15;(with_reducible refine (l8_known.calls  t431 _ A75.out).mono ?_);rintro e w77 ⟨rfl,hb⟩;replace HO_9:=am (Kd.R_below (by (with_reducible repeat (first | apply Kd.R_alloc | apply Kd.R_drewN | apply Kd.R_drew));exact HO_9.out) hb);replace BK416:=am (blk_below (g:=gb416) (o:=.cells #[.slice A0_0 l0_0.length c0_0,.slice A0_1 l0_1.length c0_1] 25 (0,0)) (by (with_reducible repeat (first | refine blk_drewN ?_ _ | refine blk_drew ?_ | refine blk_alloc ?_ _));exact BK416.out) hb);replace HB:=am (below_step (HB.out) hb);(try clear hb);(try clear hb2);(try clear hk);(try clear hi)))
        go_ret
        exact ⟨by first | rfl | (simp [*]<;>rfl),HB.out⟩
       ·rw [if_neg c74] at H
        have c74b0 : decide ((t421.length : Int) < (l2.length : Int)) = false:=decide_eq_false c74
        have c74b1 : decide (t421.length < l2.length) = false:=decide_eq_false (fun h=>c74 (Int.ofNat_lt.mpr h))
        clear c74
        by_cases c78 : (l2.length : Int) = (t421.length : Int)
        case neg =>
         rw [if_neg c78] at H
         have c78b0 : ((l2.length : Int) == (t421.length : Int)) = false:=beq_eq_false_iff_ne.mpr c78
         have c78b1 : ((l2.length : Int) != (t421.length : Int)) = true:=bne_iff_ne.mpr c78
         have c78b2 : (l2.length == t421.length) = false:=by first | simpa using c78 | (simp at c78 ⊢;omega)
         obtain rfl:=Option.some.inj H
         obtain ⟨Ao85,co85,eo85⟩:=Kd.R_slice HO_9.out
         subst eo85
         go_wp2
         go_ret
         exact ⟨by first | rfl | (simp [*]<;>rfl),HB.out⟩
        rw [if_pos c78] at H
        have c78b0 : ((l2.length : Int) == (t421.length : Int)) = true:=beq_iff_eq.mpr c78
        have c78b1 : ((l2.length : Int) != (t421.length : Int)) = false:=bne_eq_false_iff_eq.mpr c78
        have c78b2 : (l2.length == t421.length) = true:=by first | simpa using c78 | (simp at c78 ⊢;omega)
        clear c78
        replace H:=obm H
        obtain ⟨t432,A790,H⟩:=H
        replace H : (if t432 = true then (some false) else ((l8_known.f).bind fun t433=>(some t433))) = some r:=H
        have A79:=am A790
        clear A790
        by_cases c80 : t432 = true
        ·subst c80
         replace H : (some false) = some r:=by rw [if_pos rfl] at H;exact H
         obtain rfl:=Option.some.inj H
         obtain ⟨Ao81,co81,eo81⟩:=Kd.R_slice HO_9.out
         subst eo81
         go_wp2_with (first | (go_at_call 28;(with_reducible refine (q8_Before.calls kj38 _ _ l2 _ _ t421 true _ ?side1 ?side2 ?side3 ?side4 A79.out).mono ?_);(case side1=>exact kC HR2.out HB.out);(case side2=>exact HC2.out);(case side3=>repeat (first | exact (Kd.R_reads' HO_9.out).2.2 | (with_reducible refine Kd.C_alloc ?_ _) | (with_reducible refine Kd.C_drewN ?_ _) | (with_reducible refine Kd.C_drew ?_)));(case side4=>exact (Kd.R_reads' HO_9.out).2.1);rintro e w' ⟨rfl,⟨nd,rfl⟩⟩))
         go_ret
         exact ⟨by first | rfl | (simp [*]<;>rfl),pw_below_drewN HB.out _⟩
        ·replace c80:=Bool.eq_false_iff.mpr c80
         subst c80
         replace H : ((l8_known.f).bind fun t433=>(some t433)) = some r:=by rw [if_neg (show ¬ (false = true) by decide)] at H;exact H
         replace H:=obm H
         obtain ⟨t433,A820,H⟩:=H
         replace H : (some t433) = some r:=H
         have A82:=am A820
         clear A820
         obtain rfl:=Option.some.inj H
         obtain ⟨Ao83,co83,eo83⟩:=Kd.R_slice HO_9.out
         subst eo83
         go_wp2_with (first | (go_at_call 28;(with_reducible refine (q8_Before.calls kj38 _ _ l2 _ _ t421 false _ ?side1 ?side2 ?side3 ?side4 A79.out).mono ?_);(case side1=>exact kC HR2.out HB.out);(case side2=>exact HC2.out);(case side3=>repeat (first | exact (Kd.R_reads' HO_9.out).2.2 | (with_reducible refine Kd.C_alloc ?_ _) | (with_reducible refine Kd.C_drewN ?_ _) | (with_reducible refine Kd.C_drew ?_)));(case side4=>exact (Kd.R_reads' HO_9.out).2.1);rintro e w' ⟨rfl,⟨nd,rfl⟩⟩) | (go_at_call 15;(with_reducible refine (l8_known.calls  t433 _ A82.out).mono ?_);rintro e w84 ⟨rfl,hb⟩;replace HO_9:=am (Kd.R_below (by (with_reducible repeat (first | apply Kd.R_alloc | apply Kd.R_drewN | apply Kd.R_drew));exact HO_9.out) hb);replace BK416:=am (blk_below (g:=gb416) (o:=.cells #[.slice A0_0 l0_0.length c0_0,.slice A0_1 l0_1.length c0_1] 25 (0,0)) (by (with_reducible repeat (first | refine blk_drewN ?_ _ | refine blk_drew ?_ | refine blk_alloc ?_ _));exact BK416.out) hb);replace HB:=am (below_step (pw_below_drewN HB.out _) hb);(try clear hb);(try clear hb2);(try clear hk);(try clear hi)))
         go_ret
         exact ⟨by first | rfl | (simp [*]<;>rfl),HB.out⟩
end Go.Proofs.YtclkbedbocnpkaaGreatDoor.C
namespace Go.Proofs.YtclkbedbocnpkaaGreatDoor.C
open Go Go.RowKit Go.Proofs.YtclkbedbocnpkaaGreatDoorW.PrintWords Go.Proofs.YtclkbedbocnpkaaGreatDoorW.PrintLast Go.Proofs.YtclkbedbocnpkaaGreatDoorW.PrintMore
set_option linter.unusedVariables false
set_option linter.unusedSimpArgs false
set_option maxHeartbeats 16000000
set_option maxRecDepth 100000
section
variable {pts : List Pt} {ch : List Ch}
theorem short_pure (pts : List Pt) (ch : List Ch) (op S0 fl : List Int) {k : Nat} (hk : 130000≤k) : l8_GateShort.f k pts ch op S0 fl = some true:=by
 obtain ⟨k,rfl⟩ : ∃ m,k = m + 2:=⟨k - 2,by omega⟩
 unfold l8_GateShort.f
 rw [right_eq (by omega)]
 simp only [Option.bind_some]
 have j0t : l8_GateShort.j0 (k + 2) op S0 fl true pts ch = some true:=by simp only [l8_GateShort.j0,known_true];rfl
 by_cases hr : rightS pts ch op = true
 case neg=>rw [if_neg hr];exact j0t
 rw [if_pos hr]
 unfold rightS at hr
 simp only [Bool.and_eq_true,decide_eq_true_eq] at hr
 obtain ⟨hs,hl,hn,hm⟩:=hr
 obtain ⟨hp,hc⟩:=shortB_iff.1 hs
 obtain ⟨h1,h2,h3,h4,h5⟩:=netS_iff.1 hn
 by_cases hl2 : (S0.length : Int) > 9
 ·rw [if_pos hl2];exact j0t
 rw [if_neg hl2,rpoints_eq (by omega) (by omega) (by omega)]
 simp only [Option.bind_some]
 by_cases hS0 : ptsS pts.length S0 = true
 case neg=>rw [if_neg hS0];exact j0t
 rw [if_pos hS0]
 obtain ⟨m0,s0⟩:=ptsS_iff.1 hS0
 by_cases hl3 : (fl.length : Int) > 13
 ·rw [if_pos hl3];exact j0t
 rw [if_neg hl3,rFlows_eq (by omega) (by omega)]
 simp only [Option.bind_some]
 by_cases hf : flowsS ch fl = true
 case neg=>simp only [hf,Bool.not_false];exact j0t
 have ho : openS pts ch op = true:=by unfold openS;simp [hn,hm]
 have l0:=sorted_len m0 s0
 simp only [hf,Bool.not_true,l8_GateShort.j0]
 rw [if_neg (by simp),gCut_eq (by omega) (by omega) (by omega) (by omega),rShort_eq h3 h4 (by omega) (by omega) ⟨by omega,m0⟩ false (by omega),if_pos ho]
 simp only [Option.bind_some]
 have mem0 : S0 ∈ shortestOf (numsL pts.length):=shortest_mem (nums_sorted _) s0 fun z hz=>numsL_mem.2 (m0 z hz)
 cases hS : cutS pts ch op false with
 | none =>
  have : ¬ cutP pts ch op false S0 = true:=by
   have:=List.find?_eq_none.1 hS S0 mem0
   simpa using this
  unfold cutP at this
  rw [decide_eq_true_eq] at this
  simp [known_true];omega
 | some S =>
  have okS:=cutS_ok hn hS
  have hmS : S ∈ shortestOf (numsL pts.length):=List.mem_of_find?_eq_some hS
  have sS:=short_nums_sorted hmS
  have hPS : 0 < shortS pts ch op S false:=by
   have:=List.find?_some hS
   exact of_decide_eq_true this
  have lS:=sorted_len okS.2 sS
  simp only
  rw [if_pos (by trivial),gFeeds_eq (by omega) (by omega) (by omega) (by omega),if_pos (by simp [ho,hf])]
  simp only [Option.bind_some]
  rw [if_neg (by omega),rpoints_eq (by omega) (by omega) (by omega),ptsS_iff.2 ⟨okS.2,sS⟩]
  simp only [Option.bind_some,if_true]
  rw [rShort_eq h3 h4 (by omega) (by omega) okS false (by omega)]
  simp only [Option.bind_some]
  have hnf : feedsS pts ch op fl = false:=by
   rw [Bool.eq_false_iff]
   intro h
   rw [fed_no_cut hf h] at hS;cases hS
  rw [if_neg (by omega),hnf]
  simp only [if_true,l8_GateShort.j1]
  rw [if_neg (by simp)]
  by_cases hP : 0 < shortS pts ch op S0 false
  case neg=>rw [decide_eq_false (by omega)];simp [known_true]
  rw [decide_eq_true (by omega),if_pos rfl]
  obtain ⟨S',e1,_,e3⟩:=find_first (P:=cutP pts ch op false) (nums_sorted _) mem0 (decide_eq_true hP)
  obtain rfl : S = S':=Option.some.inj (hS.symm.trans e1)
  obtain ⟨q1,q2⟩:=not_ahead e3
  by_cases hlen : (S0.length : Int) > (S.length : Int)
  ·rw [if_pos hlen,known_true];rfl
  rw [if_neg hlen,if_pos (by omega),before_eq (by omega) (by omega) (by omega),q2 (by omega)]
  simp [known_true]
end
end Go.Proofs.YtclkbedbocnpkaaGreatDoor.C

/- A part of the proof: the walks of the functions that it reaches. TIGHT. -/
import Derived.Test.YticlelgmmonloaaGreatDoorM20
set_option linter.unusedVariables false
set_option linter.unusedSimpArgs false
namespace Go.Proofs.YticlelgmmonloaaGreatDoor.C
open Go.RowKit Go.Proofs.YticlelgmmonloaaGreatDoorW.PrintWords Go.Proofs.YticlelgmmonloaaGreatDoorW.PrintLast Go.Proofs.YticlelgmmonloaaGreatDoorW.PrintMore
set_option linter.unusedVariables false
set_option linter.unusedSimpArgs false
set_option maxHeartbeats 16000000
set_option maxRecDepth 100000
section
attribute [local go_sem] max2_int min2_int max_two min_two
def l4_CastleShares.j0 : Nat → Int → List Int → Int → Int → Bool → List (S126) → Int → List (S64) → Int → Int → Option (Bool)
 | 0,_,_,_,_,_,_,_,_,_,_ => none
 | k + 1,x1,x5,x6,x7,x28,x511000,x511001,x511002,x511003,x511004 => if x28 = true then (if x7 = 2 then (if (x5.length : Int) = 0 then (if x6 = 0 then ((l4_known.f).bind fun t520 => (some t520)) else (none)) else (none)) else (none)) else ((q4_Shares.f k x511000 x511001 x511002 x511003 x511004 x1).bind fun bt521 => (if x7 = 0 then ((q4_Same.f k x5 bt521.1).bind fun t525 => (if t525 = true then (if x6 = bt521.2 then ((l4_known.f).bind fun t526 => (some t526)) else (none)) else (none))) else (none)))
def l4_CastleShares.f (k : Nat) (l0_0 : List (S126)) (a0_1 : Int) (l0_2 : List (S64)) (a0_3 : Int) (a0_4 : Int) (a1 : Int) : Option (Bool) := (l4_short.f l0_0 a0_1 l0_2 a0_3 a0_4).bind fun t511 => (if t511 = true then ((ca_Shares.f k l0_0 a0_1 l0_2 a0_3 a0_4 a1).bind fun bt513 => ((q4_Basin.f k l0_0 a0_1 l0_2 a0_3 a0_4).bind fun t518 => (if t518 = true then ((q4_Cups.f a1).bind fun t519 => (l4_CastleShares.j0 k a1 bt513.1 bt513.2.1 bt513.2.2 (!t519) l0_0 a0_1 l0_2 a0_3 a0_4)) else (l4_CastleShares.j0 k a1 bt513.1 bt513.2.1 bt513.2.2 true l0_0 a0_1 l0_2 a0_3 a0_4)))) else ((l4_known.f).bind fun t512 => (some t512)))
theorem l4_CastleShares.calls (k : Nat) (A0_0 : Option Addr) (c0_0 : Nat) (l0_0 : List (S126)) (a0_1 : Int) (A0_2 : Option Addr) (c0_2 : Nat) (l0_2 : List (S64)) (a0_3 : Int) (a0_4 : Int) (a1 : Int) (r : Bool) (w : World) (hr0_0 : Kd.C k126 w A0_0 l0_0.length l0_0) (hc0_0 : l0_0.length ≤ c0_0) (hr0_2 : Kd.C k64 w A0_2 l0_2.length l0_2) (hc0_2 : l0_2.length ≤ c0_2) (h : l4_CastleShares.f k l0_0 a0_1 l0_2 a0_3 a0_4 a1 = some r) :
 Calls Tryz.prog 3 #[.agg #[.slice A0_0 l0_0.length c0_0,.int .i64 a0_1,.slice A0_2 l0_2.length c0_2,.int .i64 a0_3,.int .i64 a0_4],.int .i64 a1] w fun e w' => e = .returned (.bool r) ∧ Below w.heap.size w w' := by
 have hu27 := Tryz.underlying27
 have HR0_0 := am hr0_0
 have HC0_0 := am hc0_0
 clear hr0_0 hc0_0
 have HR0_2 := am hr0_2
 have HC0_2 := am hc0_2
 clear hr0_2 hc0_2
 have HB := am (Below.refl w.heap.size w)
 have H : ((l4_short.f l0_0 a0_1 l0_2 a0_3 a0_4).bind fun t511 => (if t511 = true then ((ca_Shares.f k l0_0 a0_1 l0_2 a0_3 a0_4 a1).bind fun bt513 => ((q4_Basin.f k l0_0 a0_1 l0_2 a0_3 a0_4).bind fun t518 => (if t518 = true then ((q4_Cups.f a1).bind fun t519 => (l4_CastleShares.j0 k a1 bt513.1 bt513.2.1 bt513.2.2 (!t519) l0_0 a0_1 l0_2 a0_3 a0_4)) else (l4_CastleShares.j0 k a1 bt513.1 bt513.2.1 bt513.2.2 true l0_0 a0_1 l0_2 a0_3 a0_4)))) else ((l4_known.f).bind fun t512 => (some t512)))) = some r := h
 clear h
 replace H := obm H
 obtain ⟨t511,A30,H⟩ := H
 replace H : (if t511 = true then ((ca_Shares.f k l0_0 a0_1 l0_2 a0_3 a0_4 a1).bind fun bt513 => ((q4_Basin.f k l0_0 a0_1 l0_2 a0_3 a0_4).bind fun t518 => (if t518 = true then ((q4_Cups.f a1).bind fun t519 => (l4_CastleShares.j0 k a1 bt513.1 bt513.2.1 bt513.2.2 (!t519) l0_0 a0_1 l0_2 a0_3 a0_4)) else (l4_CastleShares.j0 k a1 bt513.1 bt513.2.1 bt513.2.2 true l0_0 a0_1 l0_2 a0_3 a0_4)))) else ((l4_known.f).bind fun t512 => (some t512))) = some r := H
 have A3 := am A30
 clear A30
 by_cases c4 : t511 = true
 case neg =>
  replace c4 := Bool.eq_false_iff.mpr c4
  subst c4
  replace H : ((l4_known.f).bind fun t512 => (some t512)) = some r := by rw [if_neg (show ¬ (false = true) by decide)] at H;exact H
  replace H := obm H
  obtain ⟨t512,A370,H⟩ := H
  replace H : (some t512) = some r := H
  have A37 := am A370
  clear A370
  obtain rfl := Option.some.inj H
  go_enter Tryz.func3,Tryz.ntmps3
  go_wp2_with (first | ((with_reducible refine gate_dst (N := 2) rfl ?_);(try (refine gate_guard (by rfl) ?_;dsimp only));refine box_event ?hg (N := 2) ?hd (cs := #[.slice A0_0 l0_0.length c0_0,.int .i64 a0_1,.slice A0_2 l0_2.length c0_2,.int .i64 a0_3,.int .i64 a0_4]) (t := 27) ?hr ?_;(case hd => rfl);(case hg => rfl);(case hr => go_simp;try rfl);intro gb510 hg w38 hbox hb;have BK510 := am (hbox);have GW510 := am (ge_new (by repeat (first | (with_reducible first | exact HB.out | apply below_alloc | apply pw_below_drewN) | exact HB.out)) hg);have GE510 := am (ge_new (by repeat (first | (with_reducible first | exact HB.out | apply below_alloc | apply pw_below_drewN) | exact HB.out)) hg);replace HB := am (below_step (by repeat (first | (with_reducible first | exact HB.out | apply below_alloc | apply pw_below_drewN) | exact HB.out)) hb);clear hb hbox hg;obtain ⟨hcz39_0,hcz39_1,hcz39_2,hcz39_3,hcz39_4⟩ := cO5 BK510.out;have hfz39_0 := blk_frozen BK510.out 0;have hfz39_1 := blk_frozen BK510.out 1;have hfz39_2 := blk_frozen BK510.out 2;have hfz39_3 := blk_frozen BK510.out 3;have hfz39_4 := blk_frozen BK510.out 4) | ((with_reducible refine gate_callee (f := 14) rfl ?_);refine goesL_ (some 11) rfl rfl Tryz.func14 (by kernel_rfl) rfl #[.agg #[.slice A0_0 l0_0.length c0_0,.int .i64 a0_1,.slice A0_2 l0_2.length c0_2,.int .i64 a0_3,.int .i64 a0_4]] rfl (by (try simp only [List.map_toArray,List.map_cons,List.map_nil]);first | done | rfl | (simp only [List.length_drop,List.length_take];rfl)) ?_;(with_reducible refine (l4_short.calls _ _ l0_0 a0_1 _ _ l0_2 a0_3 a0_4 false _ ?side1 ?side2 ?side3 ?side4 A3.out).mono ?_);(case side1 => repeat (first | exact (kC HR0_0.out HB.out) | (with_reducible refine Kd.C_alloc ?_ _) | (with_reducible refine Kd.C_drewN ?_ _) | (with_reducible refine Kd.C_drew ?_)));(case side2 => exact HC0_0.out);(case side3 => repeat (first | exact (kC HR0_2.out HB.out) | (with_reducible refine Kd.C_alloc ?_ _) | (with_reducible refine Kd.C_drewN ?_ _) | (with_reducible refine Kd.C_drew ?_)));(case side4 => exact HC0_2.out);rintro e w40 ⟨rfl,hb⟩;refine ⟨_,rfl,?_⟩;replace BK510 := am (blk_below (g := gb510) (o := .cells #[.slice A0_0 l0_0.length c0_0,.int .i64 a0_1,.slice A0_2 l0_2.length c0_2,.int .i64 a0_3,.int .i64 a0_4] 27 (0,0)) (by (with_reducible repeat (first | refine blk_drewN ?_ _ | refine blk_drew ?_ | refine blk_alloc ?_ _));exact BK510.out) hb);replace HB := am (below_step (by repeat (first | (with_reducible first | exact HB.out | refine below_set ?_ GE510.out | apply below_alloc | apply pw_below_drewN) | exact HB.out)) hb);(try clear hb);(try clear hb2);(try clear hk);(try clear hi)) | ((with_reducible refine gate_callee (f := 15) rfl ?_);refine goesL_ (some 13) rfl rfl Tryz.func15 (by kernel_rfl) rfl #[] rfl (by (try simp only [List.map_toArray,List.map_cons,List.map_nil]);first | done | rfl | (simp only [List.length_drop,List.length_take];rfl)) ?_;(with_reducible refine (l4_known.calls  t512 _ A37.out).mono ?_);rintro e w41 ⟨rfl,hb⟩;refine ⟨_,rfl,?_⟩;replace BK510 := am (blk_below (g := gb510) (o := .cells #[.slice A0_0 l0_0.length c0_0,.int .i64 a0_1,.slice A0_2 l0_2.length c0_2,.int .i64 a0_3,.int .i64 a0_4] 27 (0,0)) (by (with_reducible repeat (first | refine blk_drewN ?_ _ | refine blk_drew ?_ | refine blk_alloc ?_ _));exact BK510.out) hb);replace HB := am (below_step (by repeat (first | (with_reducible first | exact HB.out | refine below_set ?_ GE510.out | apply below_alloc | apply pw_below_drewN) | exact HB.out)) hb);(try clear hb);(try clear hb2);(try clear hk);(try clear hi)))
  go_ret
  exact ⟨by first | rfl | (simp [*] <;> rfl),by repeat (first | (with_reducible first | exact HB.out | refine below_set ?_ GE510.out | apply below_alloc | apply pw_below_drewN) | exact HB.out)⟩
 subst c4
 replace H : ((ca_Shares.f k l0_0 a0_1 l0_2 a0_3 a0_4 a1).bind fun bt513 => ((q4_Basin.f k l0_0 a0_1 l0_2 a0_3 a0_4).bind fun t518 => (if t518 = true then ((q4_Cups.f a1).bind fun t519 => (l4_CastleShares.j0 k a1 bt513.1 bt513.2.1 bt513.2.2 (!t519) l0_0 a0_1 l0_2 a0_3 a0_4)) else (l4_CastleShares.j0 k a1 bt513.1 bt513.2.1 bt513.2.2 true l0_0 a0_1 l0_2 a0_3 a0_4)))) = some r := by rw [if_pos rfl] at H;exact H
 replace H := obm H
 obtain ⟨⟨t513,t516,t517⟩,A50,H⟩ := H
 replace H : ((q4_Basin.f k l0_0 a0_1 l0_2 a0_3 a0_4).bind fun t518 => (if t518 = true then ((q4_Cups.f a1).bind fun t519 => (l4_CastleShares.j0 k a1 t513 t516 t517 (!t519) l0_0 a0_1 l0_2 a0_3 a0_4)) else (l4_CastleShares.j0 k a1 t513 t516 t517 true l0_0 a0_1 l0_2 a0_3 a0_4))) = some r := H
 have A5 := am A50
 clear A50
 have HC6 := am H
 clear H
 go_enter Tryz.func3,Tryz.ntmps3
 go_upto_region 4 with (first | ((with_reducible refine gate_dst (N := 2) rfl ?_);(try (refine gate_guard (by rfl) ?_;dsimp only));refine box_event ?hg (N := 2) ?hd (cs := #[.slice A0_0 l0_0.length c0_0,.int .i64 a0_1,.slice A0_2 l0_2.length c0_2,.int .i64 a0_3,.int .i64 a0_4]) (t := 27) ?hr ?_;(case hd => rfl);(case hg => rfl);(case hr => go_simp;try rfl);intro gb510 hg w7 hbox hb;have BK510 := am (hbox);have GW510 := am (ge_new (by repeat (first | (with_reducible first | exact HB.out | apply below_alloc | apply pw_below_drewN) | exact HB.out)) hg);have GE510 := am (ge_new (by repeat (first | (with_reducible first | exact HB.out | apply below_alloc | apply pw_below_drewN) | exact HB.out)) hg);replace HB := am (below_step (by repeat (first | (with_reducible first | exact HB.out | apply below_alloc | apply pw_below_drewN) | exact HB.out)) hb);clear hb hbox hg;obtain ⟨hcz8_0,hcz8_1,hcz8_2,hcz8_3,hcz8_4⟩ := cO5 BK510.out;have hfz8_0 := blk_frozen BK510.out 0;have hfz8_1 := blk_frozen BK510.out 1;have hfz8_2 := blk_frozen BK510.out 2;have hfz8_3 := blk_frozen BK510.out 3;have hfz8_4 := blk_frozen BK510.out 4) | ((with_reducible refine gate_callee (f := 14) rfl ?_);refine goesL_ (some 11) rfl rfl Tryz.func14 (by kernel_rfl) rfl #[.agg #[.slice A0_0 l0_0.length c0_0,.int .i64 a0_1,.slice A0_2 l0_2.length c0_2,.int .i64 a0_3,.int .i64 a0_4]] rfl (by (try simp only [List.map_toArray,List.map_cons,List.map_nil]);first | done | rfl | (simp only [List.length_drop,List.length_take];rfl)) ?_;(with_reducible refine (l4_short.calls _ _ l0_0 a0_1 _ _ l0_2 a0_3 a0_4 true _ ?side1 ?side2 ?side3 ?side4 A3.out).mono ?_);(case side1 => repeat (first | exact (kC HR0_0.out HB.out) | (with_reducible refine Kd.C_alloc ?_ _) | (with_reducible refine Kd.C_drewN ?_ _) | (with_reducible refine Kd.C_drew ?_)));(case side2 => exact HC0_0.out);(case side3 => repeat (first | exact (kC HR0_2.out HB.out) | (with_reducible refine Kd.C_alloc ?_ _) | (with_reducible refine Kd.C_drewN ?_ _) | (with_reducible refine Kd.C_drew ?_)));(case side4 => exact HC0_2.out);rintro e w9 ⟨rfl,hb⟩;refine ⟨_,rfl,?_⟩;replace BK510 := am (blk_below (g := gb510) (o := .cells #[.slice A0_0 l0_0.length c0_0,.int .i64 a0_1,.slice A0_2 l0_2.length c0_2,.int .i64 a0_3,.int .i64 a0_4] 27 (0,0)) (by (with_reducible repeat (first | refine blk_drewN ?_ _ | refine blk_drew ?_ | refine blk_alloc ?_ _));exact BK510.out) hb);replace HB := am (below_step (by repeat (first | (with_reducible first | exact HB.out | refine below_set ?_ GE510.out | apply below_alloc | apply pw_below_drewN) | exact HB.out)) hb);(try clear hb);(try clear hb2);(try clear hk);(try clear hi);obtain ⟨hcz10_0,hcz10_1,hcz10_2,hcz10_3,hcz10_4⟩ := cO5 BK510.out;have hfz10_0 := blk_frozen BK510.out 0;have hfz10_1 := blk_frozen BK510.out 1;have hfz10_2 := blk_frozen BK510.out 2;have hfz10_3 := blk_frozen BK510.out 3;have hfz10_4 := blk_frozen BK510.out 4) | ((with_reducible refine gate_callee (f := 16) rfl ?_);refine goesL_ (some 17) rfl rfl Tryz.func16 (by kernel_rfl) rfl #[.agg #[.slice A0_0 l0_0.length c0_0,.int .i64 a0_1,.slice A0_2 l0_2.length c0_2,.int .i64 a0_3,.int .i64 a0_4],.int .i64 a1] rfl (by (try simp only [List.map_toArray,List.map_cons,List.map_nil]);first | done | rfl | (simp only [List.length_drop,List.length_take];rfl)) ?_;(with_reducible refine (ca_Shares.calls k _ _ l0_0 a0_1 _ _ l0_2 a0_3 a0_4 a1 t513 t516 t517 _ ?side1 ?side2 ?side3 ?side4 A5.out).mono ?_);(case side1 => repeat (first | exact (kC HR0_0.out HB.out) | (with_reducible refine Kd.C_alloc ?_ _) | (with_reducible refine Kd.C_drewN ?_ _) | (with_reducible refine Kd.C_drew ?_)));(case side2 => exact HC0_0.out);(case side3 => repeat (first | exact (kC HR0_2.out HB.out) | (with_reducible refine Kd.C_alloc ?_ _) | (with_reducible refine Kd.C_drewN ?_ _) | (with_reducible refine Kd.C_drew ?_)));(case side4 => exact HC0_2.out);rintro e w11 ⟨v514,rfl,ho0,hb⟩;refine ⟨_,rfl,?_⟩;have HO515 := am (Kd.R_lower ho0 (below_size (by repeat (first | (with_reducible first | exact HB.out | refine below_set ?_ GE510.out | apply below_alloc | apply pw_below_drewN) | exact HB.out))));replace BK510 := am (blk_below (g := gb510) (o := .cells #[.slice A0_0 l0_0.length c0_0,.int .i64 a0_1,.slice A0_2 l0_2.length c0_2,.int .i64 a0_3,.int .i64 a0_4] 27 (0,0)) (by (with_reducible repeat (first | refine blk_drewN ?_ _ | refine blk_drew ?_ | refine blk_alloc ?_ _));exact BK510.out) hb);replace HB := am (below_step (by repeat (first | (with_reducible first | exact HB.out | refine below_set ?_ GE510.out | apply below_alloc | apply pw_below_drewN) | exact HB.out)) hb);(try clear hb);(try clear hb2);(try clear hk);(try clear hi);(try clear ho0)))
 (try simp only [Act.put,List.setIfInBounds_toArray,List.set_cons_zero,List.set_cons_succ])
 go_cut [28] (fun v28 wc => ∃ (kq : Nat) (x28_5 : Bool),v28 = .bool x28_5 ∧ Aside0 (l4_CastleShares.j0 kq a1 t513 t516 t517 x28_5 l0_0 a0_1 l0_2 a0_3 a0_4 = some r) ∧ Aside0 (kq ≤ k) ∧ Aside0 (Kd.R (Kd.int .i64) 3 wc w.heap.size (fun _ => True) v514 t513) ∧ Aside0 (wc.heap[gb510]? = some (.cells #[(.slice A0_0 l0_0.length c0_0),.int .i64 a0_1,(.slice A0_2 l0_2.length c0_2),.int .i64 a0_3,.int .i64 a0_4] 27 (0,0))) ∧ Aside0 (Below w.heap.size w wc))
 case first =>
  have H := HC6.out
  clear HC6
  replace H := obm H
  obtain ⟨t518,A120,H⟩ := H
  replace H : (if t518 = true then ((q4_Cups.f a1).bind fun t519 => (l4_CastleShares.j0 k a1 t513 t516 t517 (!t519) l0_0 a0_1 l0_2 a0_3 a0_4)) else (l4_CastleShares.j0 k a1 t513 t516 t517 true l0_0 a0_1 l0_2 a0_3 a0_4)) = some r := H
  have A12 := am A120
  clear A120
  by_cases c13 : t518 = true
  case neg =>
   replace c13 := Bool.eq_false_iff.mpr c13
   subst c13
   replace H : (l4_CastleShares.j0 k a1 t513 t516 t517 true l0_0 a0_1 l0_2 a0_3 a0_4) = some r := by rw [if_neg (show ¬ (false = true) by decide)] at H;exact H
   replace H' := am H
   obtain ⟨hcz17_0,hcz17_1,hcz17_2,hcz17_3,hcz17_4⟩ := cO5 BK510.out
   have hfz17_0 := blk_frozen BK510.out 0
   have hfz17_1 := blk_frozen BK510.out 1
   have hfz17_2 := blk_frozen BK510.out 2
   have hfz17_3 := blk_frozen BK510.out 3
   have hfz17_4 := blk_frozen BK510.out 4
   go_wp2_with (first | ((with_reducible refine gate_callee (f := 17) rfl ?_);refine goesL_ (some 22) rfl rfl Tryz.func17 (by kernel_rfl) rfl #[.agg #[.slice A0_0 l0_0.length c0_0,.int .i64 a0_1,.slice A0_2 l0_2.length c0_2,.int .i64 a0_3,.int .i64 a0_4]] rfl (by (try simp only [List.map_toArray,List.map_cons,List.map_nil]);first | done | rfl | (simp only [List.length_drop,List.length_take];rfl)) ?_;(with_reducible refine (q4_Basin.calls k _ _ l0_0 a0_1 _ _ l0_2 a0_3 a0_4 false _ ?side1 ?side2 ?side3 ?side4 A12.out).mono ?_);(case side1 => repeat (first | exact (kC HR0_0.out HB.out) | (with_reducible refine Kd.C_alloc ?_ _) | (with_reducible refine Kd.C_drewN ?_ _) | (with_reducible refine Kd.C_drew ?_)));(case side2 => exact HC0_0.out);(case side3 => repeat (first | exact (kC HR0_2.out HB.out) | (with_reducible refine Kd.C_alloc ?_ _) | (with_reducible refine Kd.C_drewN ?_ _) | (with_reducible refine Kd.C_drew ?_)));(case side4 => exact HC0_2.out);rintro e w18 ⟨rfl,hb⟩;refine ⟨_,rfl,?_⟩;replace HO515 := am (Kd.R_below (by (with_reducible repeat (first | apply Kd.R_alloc | apply Kd.R_drewN | apply Kd.R_drew));exact HO515.out) hb);replace BK510 := am (blk_below (g := gb510) (o := .cells #[.slice A0_0 l0_0.length c0_0,.int .i64 a0_1,.slice A0_2 l0_2.length c0_2,.int .i64 a0_3,.int .i64 a0_4] 27 (0,0)) (by (with_reducible repeat (first | refine blk_drewN ?_ _ | refine blk_drew ?_ | refine blk_alloc ?_ _));exact BK510.out) hb);replace HB := am (below_step (by repeat (first | (with_reducible first | exact HB.out | refine below_set ?_ GE510.out | apply below_alloc | apply pw_below_drewN) | exact HB.out)) hb);(try clear hb);(try clear hb2);(try clear hk);(try clear hi)))
   go_meet
   case rel => exact ⟨_,(true),(by first | rfl | (simp;done) | (simp [*];done)),H',⟨by first | omega | exact Nat.le_refl _⟩,⟨by (with_reducible repeat (first | apply Kd.R_alloc | apply Kd.R_drewN | apply Kd.R_drew));exact HO515.out⟩,⟨by (with_reducible repeat (first | refine blk_drewN ?_ _ | refine blk_drew ?_ | refine blk_alloc ?_ _));exact BK510.out⟩,⟨by repeat (first | (with_reducible first | exact HB.out | refine below_set ?_ GE510.out | apply below_alloc | apply pw_below_drewN) | exact HB.out)⟩⟩
  subst c13
  replace H : ((q4_Cups.f a1).bind fun t519 => (l4_CastleShares.j0 k a1 t513 t516 t517 (!t519) l0_0 a0_1 l0_2 a0_3 a0_4)) = some r := by rw [if_pos rfl] at H;exact H
  replace H := obm H
  obtain ⟨t519,A140,H⟩ := H
  replace H : (l4_CastleShares.j0 k a1 t513 t516 t517 (!t519) l0_0 a0_1 l0_2 a0_3 a0_4) = some r := H
  have A14 := am A140
  clear A140
  replace H' := am H
  obtain ⟨hcz15_0,hcz15_1,hcz15_2,hcz15_3,hcz15_4⟩ := cO5 BK510.out
  have hfz15_0 := blk_frozen BK510.out 0
  have hfz15_1 := blk_frozen BK510.out 1
  have hfz15_2 := blk_frozen BK510.out 2
  have hfz15_3 := blk_frozen BK510.out 3
  have hfz15_4 := blk_frozen BK510.out 4
  go_wp2_with (first | ((with_reducible refine gate_callee (f := 17) rfl ?_);refine goesL_ (some 22) rfl rfl Tryz.func17 (by kernel_rfl) rfl #[.agg #[.slice A0_0 l0_0.length c0_0,.int .i64 a0_1,.slice A0_2 l0_2.length c0_2,.int .i64 a0_3,.int .i64 a0_4]] rfl (by (try simp only [List.map_toArray,List.map_cons,List.map_nil]);first | done | rfl | (simp only [List.length_drop,List.length_take];rfl)) ?_;(with_reducible refine (q4_Basin.calls k _ _ l0_0 a0_1 _ _ l0_2 a0_3 a0_4 true _ ?side1 ?side2 ?side3 ?side4 A12.out).mono ?_);(case side1 => repeat (first | exact (kC HR0_0.out HB.out) | (with_reducible refine Kd.C_alloc ?_ _) | (with_reducible refine Kd.C_drewN ?_ _) | (with_reducible refine Kd.C_drew ?_)));(case side2 => exact HC0_0.out);(case side3 => repeat (first | exact (kC HR0_2.out HB.out) | (with_reducible refine Kd.C_alloc ?_ _) | (with_reducible refine Kd.C_drewN ?_ _) | (with_reducible refine Kd.C_drew ?_)));(case side4 => exact HC0_2.out);rintro e w16 ⟨rfl,hb⟩;refine ⟨_,rfl,?_⟩;replace HO515 := am (Kd.R_below (by (with_reducible repeat (first | apply Kd.R_alloc | apply Kd.R_drewN | apply Kd.R_drew));exact HO515.out) hb);replace BK510 := am (blk_below (g := gb510) (o := .cells #[.slice A0_0 l0_0.length c0_0,.int .i64 a0_1,.slice A0_2 l0_2.length c0_2,.int .i64 a0_3,.int .i64 a0_4] 27 (0,0)) (by (with_reducible repeat (first | refine blk_drewN ?_ _ | refine blk_drew ?_ | refine blk_alloc ?_ _));exact BK510.out) hb);replace HB := am (below_step (by repeat (first | (with_reducible first | exact HB.out | refine below_set ?_ GE510.out | apply below_alloc | apply pw_below_drewN) | exact HB.out)) hb);(try clear hb);(try clear hb2);(try clear hk);(try clear hi)) | (go_at_call 18;(with_reducible refine (q4_Cups.calls a1 t519 _ A14.out).mono ?_);rintro e w' ⟨rfl,⟨nd,rfl⟩⟩))
  go_meet
  case rel => exact ⟨_,(!t519),(by first | rfl | (simp;done) | (simp [*];done)),H',⟨by first | omega | exact Nat.le_refl _⟩,⟨by (with_reducible repeat (first | apply Kd.R_alloc | apply Kd.R_drewN | apply Kd.R_drew));exact HO515.out⟩,⟨by (with_reducible repeat (first | refine blk_drewN ?_ _ | refine blk_drew ?_ | refine blk_alloc ?_ _));exact BK510.out⟩,⟨by repeat (first | (with_reducible first | exact HB.out | refine below_set ?_ GE510.out | apply below_alloc | apply pw_below_drewN) | exact HB.out)⟩⟩
 case rest =>
  clear HC6
  try clear c1
  try clear p2
  try clear c3
  try clear c4
  try clear c13
  try clear c14
  try clear c16
  try clear c17
  try clear hcz10_0
  try clear hcz10_1
  try clear hcz10_2
  try clear hcz10_3
  try clear hcz10_4
  try clear hcz15_0
  try clear hcz15_1
  try clear hcz15_2
  try clear hcz15_3
  try clear hcz15_4
  try clear hcz17_0
  try clear hcz17_1
  try clear hcz17_2
  try clear hcz17_3
  try clear hcz17_4
  try clear hcz8_0
  try clear hcz8_1
  try clear hcz8_2
  try clear hcz8_3
  try clear hcz8_4
  try clear hfz10_0
  try clear hfz10_1
  try clear hfz10_2
  try clear hfz10_3
  try clear hfz10_4
  try clear hfz15_0
  try clear hfz15_1
  try clear hfz15_2
  try clear hfz15_3
  try clear hfz15_4
  try clear hfz17_0
  try clear hfz17_1
  try clear hfz17_2
  try clear hfz17_3
  try clear hfz17_4
  try clear hfz8_0
  try clear hfz8_1
  try clear hfz8_2
  try clear hfz8_3
  try clear hfz8_4
  obtain ⟨kq,x28_5,rfl,HA,HJ5,HO_5,BK510,HB⟩ := hcut
  cases kq with
  | zero => exact absurd HA.out (by simp [l4_CastleShares.j0])
  | succ kj5 =>
   have H := HA.out
   clear HA
   simp only [l4_CastleShares.j0] at H
   by_cases c19 : x28_5 = true
   · subst c19
     replace H : (if t517 = 2 then (if (t513.length : Int) = 0 then (if t516 = 0 then ((l4_known.f).bind fun t520 => (some t520)) else (none)) else (none)) else (none)) = some r := by rw [if_pos rfl] at H;exact H
     by_cases c20 : t517 = 2
     case neg =>
      rw [if_neg c20] at H
      exact absurd H (by simp)
     rw [if_pos c20] at H
     have c20b0 : (t517 == 2) = true := beq_iff_eq.mpr c20
     have c20b1 : (t517 != 2) = false := bne_eq_false_iff_eq.mpr c20
     clear c20
     by_cases c21 : (t513.length : Int) = 0
     case neg =>
      rw [if_neg c21] at H
      exact absurd H (by simp)
     rw [if_pos c21] at H
     have c21b0 : ((t513.length : Int) == 0) = true := beq_iff_eq.mpr c21
     have c21b1 : ((t513.length : Int) != 0) = false := bne_eq_false_iff_eq.mpr c21
     clear c21
     by_cases c22 : t516 = 0
     case neg =>
      rw [if_neg c22] at H
      exact absurd H (by simp)
     rw [if_pos c22] at H
     have c22b0 : (t516 == 0) = true := beq_iff_eq.mpr c22
     have c22b1 : (t516 != 0) = false := bne_eq_false_iff_eq.mpr c22
     clear c22
     replace H := obm H
     obtain ⟨t520,A230,H⟩ := H
     replace H : (some t520) = some r := H
     have A23 := am A230
     clear A230
     obtain rfl := Option.some.inj H
     obtain ⟨Ao24,co24,eo24⟩ := Kd.R_slice HO_5.out
     subst eo24
     go_wp2_with (first | (go_at_call 15;(with_reducible refine (l4_known.calls  t520 _ A23.out).mono ?_);rintro e w25 ⟨rfl,hb⟩;replace HO_5 := am (Kd.R_below (by (with_reducible repeat (first | apply Kd.R_alloc | apply Kd.R_drewN | apply Kd.R_drew));exact HO_5.out) hb);replace BK510 := am (blk_below (g := gb510) (o := .cells #[.slice A0_0 l0_0.length c0_0,.int .i64 a0_1,.slice A0_2 l0_2.length c0_2,.int .i64 a0_3,.int .i64 a0_4] 27 (0,0)) (by (with_reducible repeat (first | refine blk_drewN ?_ _ | refine blk_drew ?_ | refine blk_alloc ?_ _));exact BK510.out) hb);replace HB := am (below_step (by repeat (first | (with_reducible first | exact HB.out | refine below_set ?_ GE510.out | apply below_alloc | apply pw_below_drewN) | exact HB.out)) hb);(try clear hb);(try clear hb2);(try clear hk);(try clear hi)))
     go_ret
     exact ⟨by first | rfl | (simp [*] <;> rfl),by repeat (first | (with_reducible first | exact HB.out | refine below_set ?_ GE510.out | apply below_alloc | apply pw_below_drewN) | exact HB.out)⟩
   · replace c19 := Bool.eq_false_iff.mpr c19
     subst c19
     replace H : ((q4_Shares.f kj5 l0_0 a0_1 l0_2 a0_3 a0_4 a1).bind fun bt521 => (if t517 = 0 then ((q4_Same.f kj5 t513 bt521.1).bind fun t525 => (if t525 = true then (if t516 = bt521.2 then ((l4_known.f).bind fun t526 => (some t526)) else (none)) else (none))) else (none))) = some r := by rw [if_neg (show ¬ (false = true) by decide)] at H;exact H
     replace H := obm H
     obtain ⟨⟨t521,t524⟩,A260,H⟩ := H
     replace H : (if t517 = 0 then ((q4_Same.f kj5 t513 t521).bind fun t525 => (if t525 = true then (if t516 = t524 then ((l4_known.f).bind fun t526 => (some t526)) else (none)) else (none))) else (none)) = some r := H
     have A26 := am A260
     clear A260
     by_cases c27 : t517 = 0
     case neg =>
      rw [if_neg c27] at H
      exact absurd H (by simp)
     rw [if_pos c27] at H
     have c27b0 : (t517 == 0) = true := beq_iff_eq.mpr c27
     have c27b1 : (t517 != 0) = false := bne_eq_false_iff_eq.mpr c27
     clear c27
     replace H := obm H
     obtain ⟨t525,A280,H⟩ := H
     replace H : (if t525 = true then (if t516 = t524 then ((l4_known.f).bind fun t526 => (some t526)) else (none)) else (none)) = some r := H
     have A28 := am A280
     clear A280
     by_cases c29 : t525 = true
     case neg =>
      replace c29 := Bool.eq_false_iff.mpr c29
      subst c29
      replace H : (none) = some r := by rw [if_neg (show ¬ (false = true) by decide)] at H;exact H
      exact absurd H (by simp)
     subst c29
     replace H : (if t516 = t524 then ((l4_known.f).bind fun t526 => (some t526)) else (none)) = some r := by rw [if_pos rfl] at H;exact H
     by_cases c30 : t516 = t524
     case neg =>
      rw [if_neg c30] at H
      exact absurd H (by simp)
     rw [if_pos c30] at H
     have c30b0 : (t516 == t524) = true := beq_iff_eq.mpr c30
     have c30b1 : (t516 != t524) = false := bne_eq_false_iff_eq.mpr c30
     clear c30
     replace H := obm H
     obtain ⟨t526,A310,H⟩ := H
     replace H : (some t526) = some r := H
     have A31 := am A310
     clear A310
     obtain rfl := Option.some.inj H
     obtain ⟨hcz32_0,hcz32_1,hcz32_2,hcz32_3,hcz32_4⟩ := cO5 BK510.out
     have hfz32_0 := blk_frozen BK510.out 0
     have hfz32_1 := blk_frozen BK510.out 1
     have hfz32_2 := blk_frozen BK510.out 2
     have hfz32_3 := blk_frozen BK510.out 3
     have hfz32_4 := blk_frozen BK510.out 4
     go_wp2_with (first | ((with_reducible refine gate_callee (f := 19) rfl ?_);refine goesL_ (some 46) rfl rfl Tryz.func19 (by kernel_rfl) rfl #[.agg #[.slice A0_0 l0_0.length c0_0,.int .i64 a0_1,.slice A0_2 l0_2.length c0_2,.int .i64 a0_3,.int .i64 a0_4],.int .i64 a1] rfl (by (try simp only [List.map_toArray,List.map_cons,List.map_nil]);first | done | rfl | (simp only [List.length_drop,List.length_take];rfl)) ?_;(with_reducible refine (q4_Shares.calls kj5 _ _ l0_0 a0_1 _ _ l0_2 a0_3 a0_4 a1 t521 t524 _ ?side1 ?side2 ?side3 ?side4 A26.out).mono ?_);(case side1 => repeat (first | exact (kC HR0_0.out HB.out) | (with_reducible refine Kd.C_alloc ?_ _) | (with_reducible refine Kd.C_drewN ?_ _) | (with_reducible refine Kd.C_drew ?_)));(case side2 => exact HC0_0.out);(case side3 => repeat (first | exact (kC HR0_2.out HB.out) | (with_reducible refine Kd.C_alloc ?_ _) | (with_reducible refine Kd.C_drewN ?_ _) | (with_reducible refine Kd.C_drew ?_)));(case side4 => exact HC0_2.out);rintro e w33 ⟨v522,rfl,ho0,hb⟩;refine ⟨_,rfl,?_⟩;have HO523 := am (Kd.R_lower (Kd.R_new' ho0 (Kd.R_lt (by (with_reducible repeat (first | apply Kd.R_alloc | apply Kd.R_drewN | apply Kd.R_drew));exact HO_5.out))) (below_size (by repeat (first | (with_reducible first | exact HB.out | refine below_set ?_ GE510.out | apply below_alloc | apply pw_below_drewN) | exact HB.out))));replace HO_5 := am (Kd.R_elder' (by (with_reducible repeat (first | apply Kd.R_alloc | apply Kd.R_drewN | apply Kd.R_drew));exact HO_5.out) (Kd.R_base ho0) hb);replace BK510 := am (blk_below (g := gb510) (o := .cells #[.slice A0_0 l0_0.length c0_0,.int .i64 a0_1,.slice A0_2 l0_2.length c0_2,.int .i64 a0_3,.int .i64 a0_4] 27 (0,0)) (by (with_reducible repeat (first | refine blk_drewN ?_ _ | refine blk_drew ?_ | refine blk_alloc ?_ _));exact BK510.out) hb);replace HB := am (below_step (by repeat (first | (with_reducible first | exact HB.out | refine below_set ?_ GE510.out | apply below_alloc | apply pw_below_drewN) | exact HB.out)) hb);(try clear hb);(try clear hb2);(try clear hk);(try clear hi);(try clear ho0);obtain ⟨Ao34,co34,eo34⟩ := Kd.R_slice HO_5.out;subst eo34;obtain ⟨Ao35,co35,eo35⟩ := Kd.R_slice HO523.out;subst eo35) | (go_at_call 20;(with_reducible refine (q4_Same.calls kj5 _ _ t513 _ _ t521 true _ ?side1 ?side2 ?side3 ?side4 A28.out).mono ?_);(case side1 => repeat (first | exact (Kd.R_reads' HO_5.out).2.2 | (with_reducible refine Kd.C_alloc ?_ _) | (with_reducible refine Kd.C_drewN ?_ _) | (with_reducible refine Kd.C_drew ?_)));(case side2 => exact (Kd.R_reads' HO_5.out).2.1);(case side3 => repeat (first | exact (Kd.R_reads' HO523.out).2.2 | (with_reducible refine Kd.C_alloc ?_ _) | (with_reducible refine Kd.C_drewN ?_ _) | (with_reducible refine Kd.C_drew ?_)));(case side4 => exact (Kd.R_reads' HO523.out).2.1);rintro e w' ⟨rfl,⟨nd,rfl⟩⟩) | (go_at_call 15;(with_reducible refine (l4_known.calls  t526 _ A31.out).mono ?_);rintro e w36 ⟨rfl,hb⟩;replace HO_5 := am (Kd.R_below (by (with_reducible repeat (first | apply Kd.R_alloc | apply Kd.R_drewN | apply Kd.R_drew));exact HO_5.out) hb);replace HO523 := am (Kd.R_below (by (with_reducible repeat (first | apply Kd.R_alloc | apply Kd.R_drewN | apply Kd.R_drew));exact HO523.out) hb);replace BK510 := am (blk_below (g := gb510) (o := .cells #[.slice A0_0 l0_0.length c0_0,.int .i64 a0_1,.slice A0_2 l0_2.length c0_2,.int .i64 a0_3,.int .i64 a0_4] 27 (0,0)) (by (with_reducible repeat (first | refine blk_drewN ?_ _ | refine blk_drew ?_ | refine blk_alloc ?_ _));exact BK510.out) hb);replace HB := am (below_step (by repeat (first | (with_reducible first | exact HB.out | refine below_set ?_ GE510.out | apply below_alloc | apply pw_below_drewN) | exact HB.out)) hb);(try clear hb);(try clear hb2);(try clear hk);(try clear hi)))
     go_ret
     exact ⟨by first | rfl | (simp [*] <;> rfl),by repeat (first | (with_reducible first | exact HB.out | refine below_set ?_ GE510.out | apply below_alloc | apply pw_below_drewN) | exact HB.out)⟩
end
theorem shares_pure (rows : List S126) (draw : Int) (noz : List S64) (weir spill cups : Int) {k : Nat} (hk : 500 ≤ k) : l4_CastleShares.f k rows draw noz weir spill cups = some true := by
 obtain ⟨k,rfl⟩ := ksucc (by omega : 0 < k)
 unfold l4_CastleShares.f
 rw [short_eq,Option.bind_some]
 by_cases s : rows.length ≤ 15 ∧ noz.length ≤ 8
 case neg => rw [decide_eq_false s,if_neg (by decide),known_true];rfl
 rw [decide_eq_true s,if_pos rfl,cShares_eq (by omega) (by omega),refBasin_eq (by omega) (by omega) (by omega)]
 cases b : okB rows draw noz weir spill with
 | false =>
  simp [l4_CastleShares.j0,known_true]
 | true =>
  have h := okB_iff.1 b
  by_cases c : 0 ≤ cups ∧ cups ≤ 10000
  · have hs := shareL_in h c.1
    have hn := h.n2
    rw [if_pos ⟨rfl,c⟩]
    simp only [Option.bind_some,r_cups,decide_eq_true c,if_true,Bool.not_true,l4_CastleShares.j0,Bool.false_eq_true,if_false]
    rw [rShares_eq h c.1 c.2 (by omega),Option.bind_some,same_eq (by rw [hs.2];omega) (by rw [hs.2];omega)]
    simp [known_true]
  · rw [if_neg (fun q => c q.2)]
    simp [r_cups,decide_eq_false c,l4_CastleShares.j0,known_true]
end Go.Proofs.YticlelgmmonloaaGreatDoor.C

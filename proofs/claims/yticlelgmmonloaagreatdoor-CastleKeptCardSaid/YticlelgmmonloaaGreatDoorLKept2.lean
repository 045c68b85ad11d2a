/- A part of the proof: the walks of the functions that it reaches. TIGHT. -/
import Derived.Test.YticlelgmmonloaaGreatDoorLKept1
import Derived.Test.YticlelgmmonloaaGreatDoorM16
set_option linter.unusedVariables false
set_option linter.unusedSimpArgs false
namespace Go.Proofs.YticlelgmmonloaaGreatDoor.C
open Go.RowKit Go.Proofs.YticlelgmmonloaaGreatDoorW.PrintWords Go.Proofs.YticlelgmmonloaaGreatDoorW.PrintLast Go.Proofs.YticlelgmmonloaaGreatDoorW.PrintMore
set_option linter.unusedVariables false
set_option linter.unusedSimpArgs false
set_option maxHeartbeats 16000000
set_option maxRecDepth 100000
section
attribute [local go_sem] max2_int min2_int max_two min_two
mutual
def l4_CastleKept.j0 : Nat → Int → Int → Bool → List (S126) → Int → List (S64) → Int → Int → Option (Bool)
 | 0,_,_,_,_,_,_,_,_ => none
 | k + 1,x1,x2,x42,x531000,x531001,x531002,x531003,x531004 => if x42 = true then ((l4_known.f).bind fun t535 => (some t535)) else ((ca_Shares.f k x531000 x531001 x531002 x531003 x531004 x1).bind fun bt536 => ((ca_Level.f k x531000 x531001 x531002 x531003 x531004 x1 x1).bind fun bt541 => (if bt536.2.2 = 0 then (if bt541.2.2 = 0 then (if bt541.1 = bt541.2.1 then ((q4_Height.f bt541.1).bind fun t545 => (if t545 = true then (if (bt536.1.length : Int) = (x531002.length : Int) then ((q4_Cups.f bt536.2.1).bind fun t546 => (l4_CastleKept.j1 k x1 x2 bt536.1 bt536.2.1 (!t546) x531000 x531001 x531002 x531003 x531004 bt541.1 bt541.2.1)) else (l4_CastleKept.j1 k x1 x2 bt536.1 bt536.2.1 true x531000 x531001 x531002 x531003 x531004 bt541.1 bt541.2.1)) else (l4_CastleKept.j1 k x1 x2 bt536.1 bt536.2.1 true x531000 x531001 x531002 x531003 x531004 bt541.1 bt541.2.1))) else (l4_CastleKept.j1 k x1 x2 bt536.1 bt536.2.1 true x531000 x531001 x531002 x531003 x531004 bt541.1 bt541.2.1)) else (l4_CastleKept.j1 k x1 x2 bt536.1 bt536.2.1 true x531000 x531001 x531002 x531003 x531004 bt541.1 bt541.2.1)) else (l4_CastleKept.j1 k x1 x2 bt536.1 bt536.2.1 true x531000 x531001 x531002 x531003 x531004 bt541.1 bt541.2.1))))
def l4_CastleKept.j1 : Nat → Int → Int → List Int → Int → Bool → List (S126) → Int → List (S64) → Int → Int → Int → Int → Option (Bool)
 | 0,_,_,_,_,_,_,_,_,_,_,_,_ => none
 | k + 1,x1,x2,x7,x8,x90,x531000,x531001,x531002,x531003,x531004,x545000,x545001 => if x90 = true then (none) else ((l4_sum.f k x7).bind fun t547 => (if t547 < 0 then (l4_CastleKept.j2 k x1 x2 x7 true x531000 x531001 x531002 x531003 x531004 x545000 x545001) else (l4_CastleKept.j2 k x1 x2 x7 ((wrap64 (t547 + x8)) != x1) x531000 x531001 x531002 x531003 x531004 x545000 x545001)))
def l4_CastleKept.j2 : Nat → Int → Int → List Int → Bool → List (S126) → Int → List (S64) → Int → Int → Int → Int → Option (Bool)
 | 0,_,_,_,_,_,_,_,_,_,_,_ => none
 | k + 1,x1,x2,x7,x101,x531000,x531001,x531002,x531003,x531004,x545000,x545001 => if x101 = true then (none) else ((ca_Out.f k x531000 x531001 x531002 x531003 x531004 x2).bind fun bt548 => (if bt548.2.2 = 0 then ((q4_Cups.f bt548.2.1).bind fun t553 => (l4_CastleKept.j3 k x1 x2 x7 bt548.1 bt548.2.1 (!t553) x531000 x531001 x531002 x531003 x531004 x545000 x545001)) else (l4_CastleKept.j3 k x1 x2 x7 bt548.1 bt548.2.1 true x531000 x531001 x531002 x531003 x531004 x545000 x545001)))
def l4_CastleKept.j3 : Nat → Int → Int → List Int → List Int → Int → Bool → List (S126) → Int → List (S64) → Int → Int → Int → Int → Option (Bool)
 | 0,_,_,_,_,_,_,_,_,_,_,_,_,_ => none
 | k + 1,x1,x2,x7,x13,x14,x115,x531000,x531001,x531002,x531003,x531004,x545000,x545001 => if x115 = true then (none) else ((l4_sum.f k x13).bind fun t554 => (if t554 < 0 then (l4_CastleKept.j4 k x7 true x531000 x531001 x531002 x531003 x531004 x545000 x545001) else (l4_CastleKept.j4 k x7 ((decide ((wrap64 (t554 + x14)) ≤ x1)) != (decide (x2 ≤ x545000))) x531000 x531001 x531002 x531003 x531004 x545000 x545001)))
def l4_CastleKept.j4 : Nat → List Int → Bool → List (S126) → Int → List (S64) → Int → Int → Int → Int → Option (Bool)
 | 0,_,_,_,_,_,_,_,_,_ => none
 | k + 1,x7,x131,x531000,x531001,x531002,x531003,x531004,x545000,x545001 => if x131 = true then (none) else ((ca_Out.f k x531000 x531001 x531002 x531003 x531004 x545000).bind fun bt555 => ((ca_Out.f k x531000 x531001 x531002 x531003 x531004 (mn 40 (wrap64 (x545000 + 1)))).bind fun bt560 => (if bt555.2.2 = 0 then (if bt560.2.2 = 0 then (if (bt555.1.length : Int) = (x7.length : Int) then (l4_CastleKept.j5 k x7 bt555.1 bt560.1 ((bt560.1.length : Int) != (x7.length : Int))) else (l4_CastleKept.j5 k x7 bt555.1 bt560.1 true)) else (l4_CastleKept.j5 k x7 bt555.1 bt560.1 true)) else (l4_CastleKept.j5 k x7 bt555.1 bt560.1 true))))
def l4_CastleKept.j5 : Nat → List Int → List Int → List Int → Bool → Option (Bool)
 | 0,_,_,_,_ => none
 | k + 1,x7,x17,x20,x169 => if x169 = true then (none) else (l4_CastleKept.l0 k x7 x17 x20 true 0)
def l4_CastleKept.l0 : Nat → List Int → List Int → List Int → Bool → Int → Option (Bool)
 | 0,_,_,_,_,_ => none
 | k + 1,x7,x17,x20,x23,x24 => if x24 < (x7.length : Int) then (if 0 ≤ x24 then (if x24 < (x17.length : Int) then (if (rd x7 x24) < (rd x17 x24) then (none) else (if x24 < (x20.length : Int) then (if (rd x7 x24) > (rd x20 x24) then (none) else (if x23 = true then (l4_CastleKept.l0 k x7 x17 x20 ((rd x7 x24) == (rd x20 x24)) (wrap64 (x24 + 1))) else (if (rd x7 x24) = (rd x17 x24) then (l4_CastleKept.l0 k x7 x17 x20 false (wrap64 (x24 + 1))) else (none)))) else (none))) else (none)) else (none)) else ((l4_known.f).bind fun t573 => (some t573))
end
def l4_CastleKept.f (k : Nat) (l0_0 : List (S126)) (a0_1 : Int) (l0_2 : List (S64)) (a0_3 : Int) (a0_4 : Int) (a1 : Int) (a2 : Int) : Option (Bool) := (l4_short.f l0_0 a0_1 l0_2 a0_3 a0_4).bind fun t531 => (if t531 = true then ((q4_Basin.f k l0_0 a0_1 l0_2 a0_3 a0_4).bind fun t532 => (if t532 = true then ((q4_Cups.f a1).bind fun t533 => (if t533 = true then ((q4_Height.f a2).bind fun t534 => (l4_CastleKept.j0 k a1 a2 (!t534) l0_0 a0_1 l0_2 a0_3 a0_4)) else (l4_CastleKept.j0 k a1 a2 true l0_0 a0_1 l0_2 a0_3 a0_4))) else (l4_CastleKept.j0 k a1 a2 true l0_0 a0_1 l0_2 a0_3 a0_4))) else (l4_CastleKept.j0 k a1 a2 true l0_0 a0_1 l0_2 a0_3 a0_4))
theorem l4_CastleKept.calls (k : Nat) (A0_0 : Option Addr) (c0_0 : Nat) (l0_0 : List (S126)) (a0_1 : Int) (A0_2 : Option Addr) (c0_2 : Nat) (l0_2 : List (S64)) (a0_3 : Int) (a0_4 : Int) (a1 : Int) (a2 : Int) (r : Bool) (w : World) (hr0_0 : Kd.C k126 w A0_0 l0_0.length l0_0) (hc0_0 : l0_0.length ≤ c0_0) (hr0_2 : Kd.C k64 w A0_2 l0_2.length l0_2) (hc0_2 : l0_2.length ≤ c0_2) (h : l4_CastleKept.f k l0_0 a0_1 l0_2 a0_3 a0_4 a1 a2 = some r) :
 Calls Tryz.prog 4 #[.agg #[.slice A0_0 l0_0.length c0_0,.int .i64 a0_1,.slice A0_2 l0_2.length c0_2,.int .i64 a0_3,.int .i64 a0_4],.int .i64 a1,.int .i64 a2] w fun e w' => e = .returned (.bool r) ∧ Below w.heap.size w w' := by
 have hu27 := Tryz.underlying27
 have hu40 := Tryz.underlying40
 have HR0_0 := am hr0_0
 have HC0_0 := am hc0_0
 clear hr0_0 hc0_0
 have HR0_2 := am hr0_2
 have HC0_2 := am hc0_2
 clear hr0_2 hc0_2
 have HB := am (Below.refl w.heap.size w)
 have H : ((l4_short.f l0_0 a0_1 l0_2 a0_3 a0_4).bind fun t531 => (if t531 = true then ((q4_Basin.f k l0_0 a0_1 l0_2 a0_3 a0_4).bind fun t532 => (if t532 = true then ((q4_Cups.f a1).bind fun t533 => (if t533 = true then ((q4_Height.f a2).bind fun t534 => (l4_CastleKept.j0 k a1 a2 (!t534) l0_0 a0_1 l0_2 a0_3 a0_4)) else (l4_CastleKept.j0 k a1 a2 true l0_0 a0_1 l0_2 a0_3 a0_4))) else (l4_CastleKept.j0 k a1 a2 true l0_0 a0_1 l0_2 a0_3 a0_4))) else (l4_CastleKept.j0 k a1 a2 true l0_0 a0_1 l0_2 a0_3 a0_4))) = some r := h
 clear h
 have HC4 := am H
 clear H
 go_enter Tryz.func4,Tryz.ntmps4
 go_upto_region 1 with (first | ((with_reducible refine gate_dst (N := 3) rfl ?_);(try (refine gate_guard (by rfl) ?_;dsimp only));refine box_event ?hg (N := 3) ?hd (cs := #[.slice A0_0 l0_0.length c0_0,.int .i64 a0_1,.slice A0_2 l0_2.length c0_2,.int .i64 a0_3,.int .i64 a0_4]) (t := 27) ?hr ?_;(case hd => rfl);(case hg => rfl);(case hr => go_simp;try rfl);intro gb530 hg w5 hbox hb;have BK530 := am (hbox);have GW530 := am (ge_new (by repeat (first | (with_reducible first | exact HB.out | apply below_alloc | apply pw_below_drewN) | exact HB.out)) hg);have GE530 := am (ge_new (by repeat (first | (with_reducible first | exact HB.out | apply below_alloc | apply pw_below_drewN) | exact HB.out)) hg);replace HB := am (below_step (by repeat (first | (with_reducible first | exact HB.out | apply below_alloc | apply pw_below_drewN) | exact HB.out)) hb);clear hb hbox hg))
 repeat (go_quiet (first | ((with_reducible refine gate_dst (N := 3) rfl ?_);(try (refine gate_guard (by rfl) ?_;dsimp only));refine box_event ?hg (N := 3) ?hd (cs := #[.slice A0_0 l0_0.length c0_0,.int .i64 a0_1,.slice A0_2 l0_2.length c0_2,.int .i64 a0_3,.int .i64 a0_4]) (t := 27) ?hr ?_;(case hd => rfl);(case hg => rfl);(case hr => go_simp;try rfl);intro gb530 hg w5 hbox hb;have BK530 := am (hbox);have GW530 := am (ge_new (by repeat (first | (with_reducible first | exact HB.out | apply below_alloc | apply pw_below_drewN) | exact HB.out)) hg);have GE530 := am (ge_new (by repeat (first | (with_reducible first | exact HB.out | apply below_alloc | apply pw_below_drewN) | exact HB.out)) hg);replace HB := am (below_step (by repeat (first | (with_reducible first | exact HB.out | apply below_alloc | apply pw_below_drewN) | exact HB.out)) hb);clear hb hbox hg));go_upto_region 1 with (first | ((with_reducible refine gate_dst (N := 3) rfl ?_);(try (refine gate_guard (by rfl) ?_;dsimp only));refine box_event ?hg (N := 3) ?hd (cs := #[.slice A0_0 l0_0.length c0_0,.int .i64 a0_1,.slice A0_2 l0_2.length c0_2,.int .i64 a0_3,.int .i64 a0_4]) (t := 27) ?hr ?_;(case hd => rfl);(case hg => rfl);(case hr => go_simp;try rfl);intro gb530 hg w5 hbox hb;have BK530 := am (hbox);have GW530 := am (ge_new (by repeat (first | (with_reducible first | exact HB.out | apply below_alloc | apply pw_below_drewN) | exact HB.out)) hg);have GE530 := am (ge_new (by repeat (first | (with_reducible first | exact HB.out | apply below_alloc | apply pw_below_drewN) | exact HB.out)) hg);replace HB := am (below_step (by repeat (first | (with_reducible first | exact HB.out | apply below_alloc | apply pw_below_drewN) | exact HB.out)) hb);clear hb hbox hg)))
 (try simp only [Act.put,List.setIfInBounds_toArray,List.set_cons_zero,List.set_cons_succ])
 go_cut [42] (fun v42 wc => ∃ (kq : Nat) (x42_3 : Bool),v42 = .bool x42_3 ∧ Aside0 (l4_CastleKept.j0 kq a1 a2 x42_3 l0_0 a0_1 l0_2 a0_3 a0_4 = some r) ∧ Aside0 (kq ≤ k) ∧ Aside0 (wc.heap[gb530]? = some (.cells #[(.slice A0_0 l0_0.length c0_0),.int .i64 a0_1,(.slice A0_2 l0_2.length c0_2),.int .i64 a0_3,.int .i64 a0_4] 27 (0,0))) ∧ Aside0 (Below w.heap.size w wc))
 case first =>
  as_aux_lemma =>
   have H := HC4.out
   clear HC4
   replace H := obm H
   obtain ⟨t531,A60,H⟩ := H
   replace H : (if t531 = true then ((q4_Basin.f k l0_0 a0_1 l0_2 a0_3 a0_4).bind fun t532 => (if t532 = true then ((q4_Cups.f a1).bind fun t533 => (if t533 = true then ((q4_Height.f a2).bind fun t534 => (l4_CastleKept.j0 k a1 a2 (!t534) l0_0 a0_1 l0_2 a0_3 a0_4)) else (l4_CastleKept.j0 k a1 a2 true l0_0 a0_1 l0_2 a0_3 a0_4))) else (l4_CastleKept.j0 k a1 a2 true l0_0 a0_1 l0_2 a0_3 a0_4))) else (l4_CastleKept.j0 k a1 a2 true l0_0 a0_1 l0_2 a0_3 a0_4)) = some r := H
   have A6 := am A60
   clear A60
   by_cases c7 : t531 = true
   case neg =>
    as_aux_lemma =>
     replace c7 := Bool.eq_false_iff.mpr c7
     subst c7
     replace H : (l4_CastleKept.j0 k a1 a2 true l0_0 a0_1 l0_2 a0_3 a0_4) = some r := by rw [if_neg (show ¬ (false = true) by decide)] at H;exact H
     replace H' := am H
     obtain ⟨hcz25_0,hcz25_1,hcz25_2,hcz25_3,hcz25_4⟩ := cO5 BK530.out
     have hfz25_0 := blk_frozen BK530.out 0
     have hfz25_1 := blk_frozen BK530.out 1
     have hfz25_2 := blk_frozen BK530.out 2
     have hfz25_3 := blk_frozen BK530.out 3
     have hfz25_4 := blk_frozen BK530.out 4
     go_wp2_with (first | (go_at_call 14;(with_reducible refine (l4_short.calls _ _ l0_0 a0_1 _ _ l0_2 a0_3 a0_4 false _ ?side1 ?side2 ?side3 ?side4 A6.out).mono ?_);(case side1 => repeat (first | exact (kC HR0_0.out HB.out) | (with_reducible refine Kd.C_alloc ?_ _) | (with_reducible refine Kd.C_drewN ?_ _) | (with_reducible refine Kd.C_drew ?_)));(case side2 => exact HC0_0.out);(case side3 => repeat (first | exact (kC HR0_2.out HB.out) | (with_reducible refine Kd.C_alloc ?_ _) | (with_reducible refine Kd.C_drewN ?_ _) | (with_reducible refine Kd.C_drew ?_)));(case side4 => exact HC0_2.out);rintro e w26 ⟨rfl,hb⟩;replace BK530 := am (blk_below (g := gb530) (o := .cells #[.slice A0_0 l0_0.length c0_0,.int .i64 a0_1,.slice A0_2 l0_2.length c0_2,.int .i64 a0_3,.int .i64 a0_4] 27 (0,0)) (by (with_reducible repeat (first | refine blk_drewN ?_ _ | refine blk_drew ?_ | refine blk_alloc ?_ _));exact BK530.out) hb);replace HB := am (below_step (by repeat (first | (with_reducible first | exact HB.out | refine below_set ?_ GE530.out | apply below_alloc | apply pw_below_drewN) | exact HB.out)) hb);(try clear hb);(try clear hb2);(try clear hk);(try clear hi)))
     repeat (go_quiet (first | (go_at_call 14;(with_reducible refine (l4_short.calls _ _ l0_0 a0_1 _ _ l0_2 a0_3 a0_4 false _ ?side1 ?side2 ?side3 ?side4 A6.out).mono ?_);(case side1 => repeat (first | exact (kC HR0_0.out HB.out) | (with_reducible refine Kd.C_alloc ?_ _) | (with_reducible refine Kd.C_drewN ?_ _) | (with_reducible refine Kd.C_drew ?_)));(case side2 => exact HC0_0.out);(case side3 => repeat (first | exact (kC HR0_2.out HB.out) | (with_reducible refine Kd.C_alloc ?_ _) | (with_reducible refine Kd.C_drewN ?_ _) | (with_reducible refine Kd.C_drew ?_)));(case side4 => exact HC0_2.out);rintro e w26 ⟨rfl,hb⟩;replace BK530 := am (blk_below (g := gb530) (o := .cells #[.slice A0_0 l0_0.length c0_0,.int .i64 a0_1,.slice A0_2 l0_2.length c0_2,.int .i64 a0_3,.int .i64 a0_4] 27 (0,0)) (by (with_reducible repeat (first | refine blk_drewN ?_ _ | refine blk_drew ?_ | refine blk_alloc ?_ _));exact BK530.out) hb);replace HB := am (below_step (by repeat (first | (with_reducible first | exact HB.out | refine below_set ?_ GE530.out | apply below_alloc | apply pw_below_drewN) | exact HB.out)) hb);(try clear hb);(try clear hb2);(try clear hk);(try clear hi)));try go_wp2_with (first | (go_at_call 14;(with_reducible refine (l4_short.calls _ _ l0_0 a0_1 _ _ l0_2 a0_3 a0_4 false _ ?side1 ?side2 ?side3 ?side4 A6.out).mono ?_);(case side1 => repeat (first | exact (kC HR0_0.out HB.out) | (with_reducible refine Kd.C_alloc ?_ _) | (with_reducible refine Kd.C_drewN ?_ _) | (with_reducible refine Kd.C_drew ?_)));(case side2 => exact HC0_0.out);(case side3 => repeat (first | exact (kC HR0_2.out HB.out) | (with_reducible refine Kd.C_alloc ?_ _) | (with_reducible refine Kd.C_drewN ?_ _) | (with_reducible refine Kd.C_drew ?_)));(case side4 => exact HC0_2.out);rintro e w26 ⟨rfl,hb⟩;replace BK530 := am (blk_below (g := gb530) (o := .cells #[.slice A0_0 l0_0.length c0_0,.int .i64 a0_1,.slice A0_2 l0_2.length c0_2,.int .i64 a0_3,.int .i64 a0_4] 27 (0,0)) (by (with_reducible repeat (first | refine blk_drewN ?_ _ | refine blk_drew ?_ | refine blk_alloc ?_ _));exact BK530.out) hb);replace HB := am (below_step (by repeat (first | (with_reducible first | exact HB.out | refine below_set ?_ GE530.out | apply below_alloc | apply pw_below_drewN) | exact HB.out)) hb);(try clear hb);(try clear hb2);(try clear hk);(try clear hi))))
     go_meet
     case rel => exact ⟨_,(true),(by first | rfl | (simp;done) | (simp [*];done)),H',⟨by first | omega | exact Nat.le_refl _⟩,⟨by (with_reducible repeat (first | refine blk_drewN ?_ _ | refine blk_drew ?_ | refine blk_alloc ?_ _));exact BK530.out⟩,⟨by repeat (first | (with_reducible first | exact HB.out | refine below_set ?_ GE530.out | apply below_alloc | apply pw_below_drewN) | exact HB.out)⟩⟩
   as_aux_lemma =>
    subst c7
    replace H : ((q4_Basin.f k l0_0 a0_1 l0_2 a0_3 a0_4).bind fun t532 => (if t532 = true then ((q4_Cups.f a1).bind fun t533 => (if t533 = true then ((q4_Height.f a2).bind fun t534 => (l4_CastleKept.j0 k a1 a2 (!t534) l0_0 a0_1 l0_2 a0_3 a0_4)) else (l4_CastleKept.j0 k a1 a2 true l0_0 a0_1 l0_2 a0_3 a0_4))) else (l4_CastleKept.j0 k a1 a2 true l0_0 a0_1 l0_2 a0_3 a0_4))) = some r := by rw [if_pos rfl] at H;exact H
    replace H := obm H
    obtain ⟨t532,A80,H⟩ := H
    replace H : (if t532 = true then ((q4_Cups.f a1).bind fun t533 => (if t533 = true then ((q4_Height.f a2).bind fun t534 => (l4_CastleKept.j0 k a1 a2 (!t534) l0_0 a0_1 l0_2 a0_3 a0_4)) else (l4_CastleKept.j0 k a1 a2 true l0_0 a0_1 l0_2 a0_3 a0_4))) else (l4_CastleKept.j0 k a1 a2 true l0_0 a0_1 l0_2 a0_3 a0_4)) = some r := H
    have A8 := am A80
    clear A80
    by_cases c9 : t532 = true
    case neg =>
     as_aux_lemma =>
      replace c9 := Bool.eq_false_iff.mpr c9
      subst c9
      replace H : (l4_CastleKept.j0 k a1 a2 true l0_0 a0_1 l0_2 a0_3 a0_4) = some r := by rw [if_neg (show ¬ (false = true) by decide)] at H;exact H
      replace H' := am H
      obtain ⟨hcz21_0,hcz21_1,hcz21_2,hcz21_3,hcz21_4⟩ := cO5 BK530.out
      have hfz21_0 := blk_frozen BK530.out 0
      have hfz21_1 := blk_frozen BK530.out 1
      have hfz21_2 := blk_frozen BK530.out 2
      have hfz21_3 := blk_frozen BK530.out 3
      have hfz21_4 := blk_frozen BK530.out 4
      go_wp2_with (first | (go_at_call 14;(with_reducible refine (l4_short.calls _ _ l0_0 a0_1 _ _ l0_2 a0_3 a0_4 true _ ?side1 ?side2 ?side3 ?side4 A6.out).mono ?_);(case side1 => repeat (first | exact (kC HR0_0.out HB.out) | (with_reducible refine Kd.C_alloc ?_ _) | (with_reducible refine Kd.C_drewN ?_ _) | (with_reducible refine Kd.C_drew ?_)));(case side2 => exact HC0_0.out);(case side3 => repeat (first | exact (kC HR0_2.out HB.out) | (with_reducible refine Kd.C_alloc ?_ _) | (with_reducible refine Kd.C_drewN ?_ _) | (with_reducible refine Kd.C_drew ?_)));(case side4 => exact HC0_2.out);rintro e w22 ⟨rfl,hb⟩;replace BK530 := am (blk_below (g := gb530) (o := .cells #[.slice A0_0 l0_0.length c0_0,.int .i64 a0_1,.slice A0_2 l0_2.length c0_2,.int .i64 a0_3,.int .i64 a0_4] 27 (0,0)) (by (with_reducible repeat (first | refine blk_drewN ?_ _ | refine blk_drew ?_ | refine blk_alloc ?_ _));exact BK530.out) hb);replace HB := am (below_step (by repeat (first | (with_reducible first | exact HB.out | refine below_set ?_ GE530.out | apply below_alloc | apply pw_below_drewN) | exact HB.out)) hb);(try clear hb);(try clear hb2);(try clear hk);(try clear hi);obtain ⟨hcz23_0,hcz23_1,hcz23_2,hcz23_3,hcz23_4⟩ := cO5 BK530.out;have hfz23_0 := blk_frozen BK530.out 0;have hfz23_1 := blk_frozen BK530.out 1;have hfz23_2 := blk_frozen BK530.out 2;have hfz23_3 := blk_frozen BK530.out 3;have hfz23_4 := blk_frozen BK530.out 4) | (go_at_call 17;(with_reducible refine (q4_Basin.calls k _ _ l0_0 a0_1 _ _ l0_2 a0_3 a0_4 false _ ?side1 ?side2 ?side3 ?side4 A8.out).mono ?_);(case side1 => repeat (first | exact (kC HR0_0.out HB.out) | (with_reducible refine Kd.C_alloc ?_ _) | (with_reducible refine Kd.C_drewN ?_ _) | (with_reducible refine Kd.C_drew ?_)));(case side2 => exact HC0_0.out);(case side3 => repeat (first | exact (kC HR0_2.out HB.out) | (with_reducible refine Kd.C_alloc ?_ _) | (with_reducible refine Kd.C_drewN ?_ _) | (with_reducible refine Kd.C_drew ?_)));(case side4 => exact HC0_2.out);rintro e w24 ⟨rfl,hb⟩;replace BK530 := am (blk_below (g := gb530) (o := .cells #[.slice A0_0 l0_0.length c0_0,.int .i64 a0_1,.slice A0_2 l0_2.length c0_2,.int .i64 a0_3,.int .i64 a0_4] 27 (0,0)) (by (with_reducible repeat (first | refine blk_drewN ?_ _ | refine blk_drew ?_ | refine blk_alloc ?_ _));exact BK530.out) hb);replace HB := am (below_step (by repeat (first | (with_reducible first | exact HB.out | refine below_set ?_ GE530.out | apply below_alloc | apply pw_below_drewN) | exact HB.out)) hb);(try clear hb);(try clear hb2);(try clear hk);(try clear hi)))
      repeat (go_quiet (first | (go_at_call 14;(with_reducible refine (l4_short.calls _ _ l0_0 a0_1 _ _ l0_2 a0_3 a0_4 true _ ?side1 ?side2 ?side3 ?side4 A6.out).mono ?_);(case side1 => repeat (first | exact (kC HR0_0.out HB.out) | (with_reducible refine Kd.C_alloc ?_ _) | (with_reducible refine Kd.C_drewN ?_ _) | (with_reducible refine Kd.C_drew ?_)));(case side2 => exact HC0_0.out);(case side3 => repeat (first | exact (kC HR0_2.out HB.out) | (with_reducible refine Kd.C_alloc ?_ _) | (with_reducible refine Kd.C_drewN ?_ _) | (with_reducible refine Kd.C_drew ?_)));(case side4 => exact HC0_2.out);rintro e w22 ⟨rfl,hb⟩;replace BK530 := am (blk_below (g := gb530) (o := .cells #[.slice A0_0 l0_0.length c0_0,.int .i64 a0_1,.slice A0_2 l0_2.length c0_2,.int .i64 a0_3,.int .i64 a0_4] 27 (0,0)) (by (with_reducible repeat (first | refine blk_drewN ?_ _ | refine blk_drew ?_ | refine blk_alloc ?_ _));exact BK530.out) hb);replace HB := am (below_step (by repeat (first | (with_reducible first | exact HB.out | refine below_set ?_ GE530.out | apply below_alloc | apply pw_below_drewN) | exact HB.out)) hb);(try clear hb);(try clear hb2);(try clear hk);(try clear hi);obtain ⟨hcz23_0,hcz23_1,hcz23_2,hcz23_3,hcz23_4⟩ := cO5 BK530.out;have hfz23_0 := blk_frozen BK530.out 0;have hfz23_1 := blk_frozen BK530.out 1;have hfz23_2 := blk_frozen BK530.out 2;have hfz23_3 := blk_frozen BK530.out 3;have hfz23_4 := blk_frozen BK530.out 4) | (go_at_call 17;(with_reducible refine (q4_Basin.calls k _ _ l0_0 a0_1 _ _ l0_2 a0_3 a0_4 false _ ?side1 ?side2 ?side3 ?side4 A8.out).mono ?_);(case side1 => repeat (first | exact (kC HR0_0.out HB.out) | (with_reducible refine Kd.C_alloc ?_ _) | (with_reducible refine Kd.C_drewN ?_ _) | (with_reducible refine Kd.C_drew ?_)));(case side2 => exact HC0_0.out);(case side3 => repeat (first | exact (kC HR0_2.out HB.out) | (with_reducible refine Kd.C_alloc ?_ _) | (with_reducible refine Kd.C_drewN ?_ _) | (with_reducible refine Kd.C_drew ?_)));(case side4 => exact HC0_2.out);rintro e w24 ⟨rfl,hb⟩;replace BK530 := am (blk_below (g := gb530) (o := .cells #[.slice A0_0 l0_0.length c0_0,.int .i64 a0_1,.slice A0_2 l0_2.length c0_2,.int .i64 a0_3,.int .i64 a0_4] 27 (0,0)) (by (with_reducible repeat (first | refine blk_drewN ?_ _ | refine blk_drew ?_ | refine blk_alloc ?_ _));exact BK530.out) hb);replace HB := am (below_step (by repeat (first | (with_reducible first | exact HB.out | refine below_set ?_ GE530.out | apply below_alloc | apply pw_below_drewN) | exact HB.out)) hb);(try clear hb);(try clear hb2);(try clear hk);(try clear hi)));try go_wp2_with (first | (go_at_call 14;(with_reducible refine (l4_short.calls _ _ l0_0 a0_1 _ _ l0_2 a0_3 a0_4 true _ ?side1 ?side2 ?side3 ?side4 A6.out).mono ?_);(case side1 => repeat (first | exact (kC HR0_0.out HB.out) | (with_reducible refine Kd.C_alloc ?_ _) | (with_reducible refine Kd.C_drewN ?_ _) | (with_reducible refine Kd.C_drew ?_)));(case side2 => exact HC0_0.out);(case side3 => repeat (first | exact (kC HR0_2.out HB.out) | (with_reducible refine Kd.C_alloc ?_ _) | (with_reducible refine Kd.C_drewN ?_ _) | (with_reducible refine Kd.C_drew ?_)));(case side4 => exact HC0_2.out);rintro e w22 ⟨rfl,hb⟩;replace BK530 := am (blk_below (g := gb530) (o := .cells #[.slice A0_0 l0_0.length c0_0,.int .i64 a0_1,.slice A0_2 l0_2.length c0_2,.int .i64 a0_3,.int .i64 a0_4] 27 (0,0)) (by (with_reducible repeat (first | refine blk_drewN ?_ _ | refine blk_drew ?_ | refine blk_alloc ?_ _));exact BK530.out) hb);replace HB := am (below_step (by repeat (first | (with_reducible first | exact HB.out | refine below_set ?_ GE530.out | apply below_alloc | apply pw_below_drewN) | exact HB.out)) hb);(try clear hb);(try clear hb2);(try clear hk);(try clear hi);obtain ⟨hcz23_0,hcz23_1,hcz23_2,hcz23_3,hcz23_4⟩ := cO5 BK530.out;have hfz23_0 := blk_frozen BK530.out 0;have hfz23_1 := blk_frozen BK530.out 1;have hfz23_2 := blk_frozen BK530.out 2;have hfz23_3 := blk_frozen BK530.out 3;have hfz23_4 := blk_frozen BK530.out 4) | (go_at_call 17;(with_reducible refine (q4_Basin.calls k _ _ l0_0 a0_1 _ _ l0_2 a0_3 a0_4 false _ ?side1 ?side2 ?side3 ?side4 A8.out).mono ?_);(case side1 => repeat (first | exact (kC HR0_0.out HB.out) | (with_reducible refine Kd.C_alloc ?_ _) | (with_reducible refine Kd.C_drewN ?_ _) | (with_reducible refine Kd.C_drew ?_)));(case side2 => exact HC0_0.out);(case side3 => repeat (first | exact (kC HR0_2.out HB.out) | (with_reducible refine Kd.C_alloc ?_ _) | (with_reducible refine Kd.C_drewN ?_ _) | (with_reducible refine Kd.C_drew ?_)));(case side4 => exact HC0_2.out);rintro e w24 ⟨rfl,hb⟩;replace BK530 := am (blk_below (g := gb530) (o := .cells #[.slice A0_0 l0_0.length c0_0,.int .i64 a0_1,.slice A0_2 l0_2.length c0_2,.int .i64 a0_3,.int .i64 a0_4] 27 (0,0)) (by (with_reducible repeat (first | refine blk_drewN ?_ _ | refine blk_drew ?_ | refine blk_alloc ?_ _));exact BK530.out) hb);replace HB := am (below_step (by repeat (first | (with_reducible first | exact HB.out | refine below_set ?_ GE530.out | apply below_alloc | apply pw_below_drewN) | exact HB.out)) hb);(try clear hb);(try clear hb2);(try clear hk);(try clear hi))))
      go_meet
      case rel => exact ⟨_,(true),(by first | rfl | (simp;done) | (simp [*];done)),H',⟨by first | omega | exact Nat.le_refl _⟩,⟨by (with_reducible repeat (first | refine blk_drewN ?_ _ | refine blk_drew ?_ | refine blk_alloc ?_ _));exact BK530.out⟩,⟨by repeat (first | (with_reducible first | exact HB.out | refine below_set ?_ GE530.out | apply below_alloc | apply pw_below_drewN) | exact HB.out)⟩⟩
    as_aux_lemma =>
     subst c9
     replace H : ((q4_Cups.f a1).bind fun t533 => (if t533 = true then ((q4_Height.f a2).bind fun t534 => (l4_CastleKept.j0 k a1 a2 (!t534) l0_0 a0_1 l0_2 a0_3 a0_4)) else (l4_CastleKept.j0 k a1 a2 true l0_0 a0_1 l0_2 a0_3 a0_4))) = some r := by rw [if_pos rfl] at H;exact H
     replace H := obm H
     obtain ⟨t533,A100,H⟩ := H
     replace H : (if t533 = true then ((q4_Height.f a2).bind fun t534 => (l4_CastleKept.j0 k a1 a2 (!t534) l0_0 a0_1 l0_2 a0_3 a0_4)) else (l4_CastleKept.j0 k a1 a2 true l0_0 a0_1 l0_2 a0_3 a0_4)) = some r := H
     have A10 := am A100
     clear A100
     by_cases c11 : t533 = true
     case neg =>
      as_aux_lemma =>
       replace c11 := Bool.eq_false_iff.mpr c11
       subst c11
       replace H : (l4_CastleKept.j0 k a1 a2 true l0_0 a0_1 l0_2 a0_3 a0_4) = some r := by rw [if_neg (show ¬ (false = true) by decide)] at H;exact H
       replace H' := am H
       obtain ⟨hcz17_0,hcz17_1,hcz17_2,hcz17_3,hcz17_4⟩ := cO5 BK530.out
       have hfz17_0 := blk_frozen BK530.out 0
       have hfz17_1 := blk_frozen BK530.out 1
       have hfz17_2 := blk_frozen BK530.out 2
       have hfz17_3 := blk_frozen BK530.out 3
       have hfz17_4 := blk_frozen BK530.out 4
       go_wp2_with (first | (go_at_call 14;(with_reducible refine (l4_short.calls _ _ l0_0 a0_1 _ _ l0_2 a0_3 a0_4 true _ ?side1 ?side2 ?side3 ?side4 A6.out).mono ?_);(case side1 => repeat (first | exact (kC HR0_0.out HB.out) | (with_reducible refine Kd.C_alloc ?_ _) | (with_reducible refine Kd.C_drewN ?_ _) | (with_reducible refine Kd.C_drew ?_)));(case side2 => exact HC0_0.out);(case side3 => repeat (first | exact (kC HR0_2.out HB.out) | (with_reducible refine Kd.C_alloc ?_ _) | (with_reducible refine Kd.C_drewN ?_ _) | (with_reducible refine Kd.C_drew ?_)));(case side4 => exact HC0_2.out);rintro e w18 ⟨rfl,hb⟩;replace BK530 := am (blk_below (g := gb530) (o := .cells #[.slice A0_0 l0_0.length c0_0,.int .i64 a0_1,.slice A0_2 l0_2.length c0_2,.int .i64 a0_3,.int .i64 a0_4] 27 (0,0)) (by (with_reducible repeat (first | refine blk_drewN ?_ _ | refine blk_drew ?_ | refine blk_alloc ?_ _));exact BK530.out) hb);replace HB := am (below_step (by repeat (first | (with_reducible first | exact HB.out | refine below_set ?_ GE530.out | apply below_alloc | apply pw_below_drewN) | exact HB.out)) hb);(try clear hb);(try clear hb2);(try clear hk);(try clear hi);obtain ⟨hcz19_0,hcz19_1,hcz19_2,hcz19_3,hcz19_4⟩ := cO5 BK530.out;have hfz19_0 := blk_frozen BK530.out 0;have hfz19_1 := blk_frozen BK530.out 1;have hfz19_2 := blk_frozen BK530.out 2;have hfz19_3 := blk_frozen BK530.out 3;have hfz19_4 := blk_frozen BK530.out 4) | (go_at_call 17;(with_reducible refine (q4_Basin.calls k _ _ l0_0 a0_1 _ _ l0_2 a0_3 a0_4 true _ ?side1 ?side2 ?side3 ?side4 A8.out).mono ?_);(case side1 => repeat (first | exact (kC HR0_0.out HB.out) | (with_reducible refine Kd.C_alloc ?_ _) | (with_reducible refine Kd.C_drewN ?_ _) | (with_reducible refine Kd.C_drew ?_)));(case side2 => exact HC0_0.out);(case side3 => repeat (first | exact (kC HR0_2.out HB.out) | (with_reducible refine Kd.C_alloc ?_ _) | (with_reducible refine Kd.C_drewN ?_ _) | (with_reducible refine Kd.C_drew ?_)));(case side4 => exact HC0_2.out);rintro e w20 ⟨rfl,hb⟩;replace BK530 := am (blk_below (g := gb530) (o := .cells #[.slice A0_0 l0_0.length c0_0,.int .i64 a0_1,.slice A0_2 l0_2.length c0_2,.int .i64 a0_3,.int .i64 a0_4] 27 (0,0)) (by (with_reducible repeat (first | refine blk_drewN ?_ _ | refine blk_drew ?_ | refine blk_alloc ?_ _));exact BK530.out) hb);replace HB := am (below_step (by repeat (first | (with_reducible first | exact HB.out | refine below_set ?_ GE530.out | apply below_alloc | apply pw_below_drewN) | exact HB.out)) hb);(try clear hb);(try clear hb2);(try clear hk);(try clear hi)) | (go_at_call 18;(with_reducible refine (q4_Cups.calls a1 false _ A10.out).mono ?_);rintro e w' ⟨rfl,⟨nd,rfl⟩⟩;(try first | exact ⟨rfl,_,World.drewN_drewN _ _ _⟩ | exact ⟨rfl,_,Eq.trans (World.drewN_drewN _ _ _) (congrArg (World.drewN _) (Nat.add_assoc _ _ _))⟩)))
       repeat (go_quiet (first | (go_at_call 14;(with_reducible refine (l4_short.calls _ _ l0_0 a0_1 _ _ l0_2 a0_3 a0_4 true _ ?side1 ?side2 ?side3 ?side4 A6.out).mono ?_);(case side1 => repeat (first | exact (kC HR0_0.out HB.out) | (with_reducible refine Kd.C_alloc ?_ _) | (with_reducible refine Kd.C_drewN ?_ _) | (with_reducible refine Kd.C_drew ?_)));(case side2 => exact HC0_0.out);(case side3 => repeat (first | exact (kC HR0_2.out HB.out) | (with_reducible refine Kd.C_alloc ?_ _) | (with_reducible refine Kd.C_drewN ?_ _) | (with_reducible refine Kd.C_drew ?_)));(case side4 => exact HC0_2.out);rintro e w18 ⟨rfl,hb⟩;replace BK530 := am (blk_below (g := gb530) (o := .cells #[.slice A0_0 l0_0.length c0_0,.int .i64 a0_1,.slice A0_2 l0_2.length c0_2,.int .i64 a0_3,.int .i64 a0_4] 27 (0,0)) (by (with_reducible repeat (first | refine blk_drewN ?_ _ | refine blk_drew ?_ | refine blk_alloc ?_ _));exact BK530.out) hb);replace HB := am (below_step (by repeat (first | (with_reducible first | exact HB.out | refine below_set ?_ GE530.out | apply below_alloc | apply pw_below_drewN) | exact HB.out)) hb);(try clear hb);(try clear hb2);(try clear hk);(try clear hi);obtain ⟨hcz19_0,hcz19_1,hcz19_2,hcz19_3,hcz19_4⟩ := cO5 BK530.out;have hfz19_0 := blk_frozen BK530.out 0;have hfz19_1 := blk_frozen BK530.out 1;have hfz19_2 := blk_frozen BK530.out 2;have hfz19_3 := blk_frozen BK530.out 3;have hfz19_4 := blk_frozen BK530.out 4) | (go_at_call 17;(with_reducible refine (q4_Basin.calls k _ _ l0_0 a0_1 _ _ l0_2 a0_3 a0_4 true _ ?side1 ?side2 ?side3 ?side4 A8.out).mono ?_);(case side1 => repeat (first | exact (kC HR0_0.out HB.out) | (with_reducible refine Kd.C_alloc ?_ _) | (with_reducible refine Kd.C_drewN ?_ _) | (with_reducible refine Kd.C_drew ?_)));(case side2 => exact HC0_0.out);(case side3 => repeat (first | exact (kC HR0_2.out HB.out) | (with_reducible refine Kd.C_alloc ?_ _) | (with_reducible refine Kd.C_drewN ?_ _) | (with_reducible refine Kd.C_drew ?_)));(case side4 => exact HC0_2.out);rintro e w20 ⟨rfl,hb⟩;replace BK530 := am (blk_below (g := gb530) (o := .cells #[.slice A0_0 l0_0.length c0_0,.int .i64 a0_1,.slice A0_2 l0_2.length c0_2,.int .i64 a0_3,.int .i64 a0_4] 27 (0,0)) (by (with_reducible repeat (first | refine blk_drewN ?_ _ | refine blk_drew ?_ | refine blk_alloc ?_ _));exact BK530.out) hb);replace HB := am (below_step (by repeat (first | (with_reducible first | exact HB.out | refine below_set ?_ GE530.out | apply below_alloc | apply pw_below_drewN) | exact HB.out)) hb);(try clear hb);(try clear hb2);(try clear hk);(try clear hi)) | (go_at_call 18;(with_reducible refine (q4_Cups.calls a1 false _ A10.out).mono ?_);rintro e w' ⟨rfl,⟨nd,rfl⟩⟩;(try first | exact ⟨rfl,_,World.drewN_drewN _ _ _⟩ | exact ⟨rfl,_,Eq.trans (World.drewN_drewN _ _ _) (congrArg (World.drewN _) (Nat.add_assoc _ _ _))⟩)));try go_wp2_with (first | (go_at_call 14;(with_reducible refine (l4_short.calls _ _ l0_0 a0_1 _ _ l0_2 a0_3 a0_4 true _ ?side1 ?side2 ?side3 ?side4 A6.out).mono ?_);(case side1 => repeat (first | exact (kC HR0_0.out HB.out) | (with_reducible refine Kd.C_alloc ?_ _) | (with_reducible refine Kd.C_drewN ?_ _) | (with_reducible refine Kd.C_drew ?_)));(case side2 => exact HC0_0.out);(case side3 => repeat (first | exact (kC HR0_2.out HB.out) | (with_reducible refine Kd.C_alloc ?_ _) | (with_reducible refine Kd.C_drewN ?_ _) | (with_reducible refine Kd.C_drew ?_)));(case side4 => exact HC0_2.out);rintro e w18 ⟨rfl,hb⟩;replace BK530 := am (blk_below (g := gb530) (o := .cells #[.slice A0_0 l0_0.length c0_0,.int .i64 a0_1,.slice A0_2 l0_2.length c0_2,.int .i64 a0_3,.int .i64 a0_4] 27 (0,0)) (by (with_reducible repeat (first | refine blk_drewN ?_ _ | refine blk_drew ?_ | refine blk_alloc ?_ _));exact BK530.out) hb);replace HB := am (below_step (by repeat (first | (with_reducible first | exact HB.out | refine below_set ?_ GE530.out | apply below_alloc | apply pw_below_drewN) | exact HB.out)) hb);(try clear hb);(try clear hb2);(try clear hk);(try clear hi);obtain ⟨hcz19_0,hcz19_1,hcz19_2,hcz19_3,hcz19_4⟩ := cO5 BK530.out;have hfz19_0 := blk_frozen BK530.out 0;have hfz19_1 := blk_frozen BK530.out 1;have hfz19_2 := blk_frozen BK530.out 2;have hfz19_3 := blk_frozen BK530.out 3;have hfz19_4 := blk_frozen BK530.out 4) | (go_at_call 17;(with_reducible refine (q4_Basin.calls k _ _ l0_0 a0_1 _ _ l0_2 a0_3 a0_4 true _ ?side1 ?side2 ?side3 ?side4 A8.out).mono ?_);(case side1 => repeat (first | exact (kC HR0_0.out HB.out) | (with_reducible refine Kd.C_alloc ?_ _) | (with_reducible refine Kd.C_drewN ?_ _) | (with_reducible refine Kd.C_drew ?_)));(case side2 => exact HC0_0.out);(case side3 => repeat (first | exact (kC HR0_2.out HB.out) | (with_reducible refine Kd.C_alloc ?_ _) | (with_reducible refine Kd.C_drewN ?_ _) | (with_reducible refine Kd.C_drew ?_)));(case side4 => exact HC0_2.out);rintro e w20 ⟨rfl,hb⟩;replace BK530 := am (blk_below (g := gb530) (o := .cells #[.slice A0_0 l0_0.length c0_0,.int .i64 a0_1,.slice A0_2 l0_2.length c0_2,.int .i64 a0_3,.int .i64 a0_4] 27 (0,0)) (by (with_reducible repeat (first | refine blk_drewN ?_ _ | refine blk_drew ?_ | refine blk_alloc ?_ _));exact BK530.out) hb);replace HB := am (below_step (by repeat (first | (with_reducible first | exact HB.out | refine below_set ?_ GE530.out | apply below_alloc | apply pw_below_drewN) | exact HB.out)) hb);(try clear hb);(try clear hb2);(try clear hk);(try clear hi)) | (go_at_call 18;(with_reducible refine (q4_Cups.calls a1 false _ A10.out).mono ?_);rintro e w' ⟨rfl,⟨nd,rfl⟩⟩;(try first | exact ⟨rfl,_,World.drewN_drewN _ _ _⟩ | exact ⟨rfl,_,Eq.trans (World.drewN_drewN _ _ _) (congrArg (World.drewN _) (Nat.add_assoc _ _ _))⟩))))
       go_meet
       case rel => exact ⟨_,(true),(by first | rfl | (simp;done) | (simp [*];done)),H',⟨by first | omega | exact Nat.le_refl _⟩,⟨by (with_reducible repeat (first | refine blk_drewN ?_ _ | refine blk_drew ?_ | refine blk_alloc ?_ _));exact BK530.out⟩,⟨by repeat (first | (with_reducible first | exact HB.out | refine below_set ?_ GE530.out | apply below_alloc | apply pw_below_drewN) | exact HB.out)⟩⟩
     as_aux_lemma =>
      subst c11
      replace H : ((q4_Height.f a2).bind fun t534 => (l4_CastleKept.j0 k a1 a2 (!t534) l0_0 a0_1 l0_2 a0_3 a0_4)) = some r := by rw [if_pos rfl] at H;exact H
      replace H := obm H
      obtain ⟨t534,A120,H⟩ := H
      replace H : (l4_CastleKept.j0 k a1 a2 (!t534) l0_0 a0_1 l0_2 a0_3 a0_4) = some r := H
      have A12 := am A120
      clear A120
      replace H' := am H
      obtain ⟨hcz13_0,hcz13_1,hcz13_2,hcz13_3,hcz13_4⟩ := cO5 BK530.out
      have hfz13_0 := blk_frozen BK530.out 0
      have hfz13_1 := blk_frozen BK530.out 1
      have hfz13_2 := blk_frozen BK530.out 2
      have hfz13_3 := blk_frozen BK530.out 3
      have hfz13_4 := blk_frozen BK530.out 4
      go_wp2_with (first | (go_at_call 14;(with_reducible refine (l4_short.calls _ _ l0_0 a0_1 _ _ l0_2 a0_3 a0_4 true _ ?side1 ?side2 ?side3 ?side4 A6.out).mono ?_);(case side1 => repeat (first | exact (kC HR0_0.out HB.out) | (with_reducible refine Kd.C_alloc ?_ _) | (with_reducible refine Kd.C_drewN ?_ _) | (with_reducible refine Kd.C_drew ?_)));(case side2 => exact HC0_0.out);(case side3 => repeat (first | exact (kC HR0_2.out HB.out) | (with_reducible refine Kd.C_alloc ?_ _) | (with_reducible refine Kd.C_drewN ?_ _) | (with_reducible refine Kd.C_drew ?_)));(case side4 => exact HC0_2.out);rintro e w14 ⟨rfl,hb⟩;replace BK530 := am (blk_below (g := gb530) (o := .cells #[.slice A0_0 l0_0.length c0_0,.int .i64 a0_1,.slice A0_2 l0_2.length c0_2,.int .i64 a0_3,.int .i64 a0_4] 27 (0,0)) (by (with_reducible repeat (first | refine blk_drewN ?_ _ | refine blk_drew ?_ | refine blk_alloc ?_ _));exact BK530.out) hb);replace HB := am (below_step (by repeat (first | (with_reducible first | exact HB.out | refine below_set ?_ GE530.out | apply below_alloc | apply pw_below_drewN) | exact HB.out)) hb);(try clear hb);(try clear hb2);(try clear hk);(try clear hi);obtain ⟨hcz15_0,hcz15_1,hcz15_2,hcz15_3,hcz15_4⟩ := cO5 BK530.out;have hfz15_0 := blk_frozen BK530.out 0;have hfz15_1 := blk_frozen BK530.out 1;have hfz15_2 := blk_frozen BK530.out 2;have hfz15_3 := blk_frozen BK530.out 3;have hfz15_4 := blk_frozen BK530.out 4) | (go_at_call 17;(with_reducible refine (q4_Basin.calls k _ _ l0_0 a0_1 _ _ l0_2 a0_3 a0_4 true _ ?side1 ?side2 ?side3 ?side4 A8.out).mono ?_);(case side1 => repeat (first | exact (kC HR0_0.out HB.out) | (with_reducible refine Kd.C_alloc ?_ _) | (with_reducible refine Kd.C_drewN ?_ _) | (with_reducible refine Kd.C_drew ?_)));(case side2 => exact HC0_0.out);(case side3 => repeat (first | exact (kC HR0_2.out HB.out) | (with_reducible refine Kd.C_alloc ?_ _) | (with_reducible refine Kd.C_drewN ?_ _) | (with_reducible refine Kd.C_drew ?_)));(case side4 => exact HC0_2.out);rintro e w16 ⟨rfl,hb⟩;replace BK530 := am (blk_below (g := gb530) (o := .cells #[.slice A0_0 l0_0.length c0_0,.int .i64 a0_1,.slice A0_2 l0_2.length c0_2,.int .i64 a0_3,.int .i64 a0_4] 27 (0,0)) (by (with_reducible repeat (first | refine blk_drewN ?_ _ | refine blk_drew ?_ | refine blk_alloc ?_ _));exact BK530.out) hb);replace HB := am (below_step (by repeat (first | (with_reducible first | exact HB.out | refine below_set ?_ GE530.out | apply below_alloc | apply pw_below_drewN) | exact HB.out)) hb);(try clear hb);(try clear hb2);(try clear hk);(try clear hi)) | (go_at_call 18;(with_reducible refine (q4_Cups.calls a1 true _ A10.out).mono ?_);rintro e w' ⟨rfl,⟨nd,rfl⟩⟩;(try first | exact ⟨rfl,_,World.drewN_drewN _ _ _⟩ | exact ⟨rfl,_,Eq.trans (World.drewN_drewN _ _ _) (congrArg (World.drewN _) (Nat.add_assoc _ _ _))⟩)) | (go_at_call 21;(with_reducible refine (q4_Height.calls a2 t534 _ A12.out).mono ?_);rintro e w' ⟨rfl,⟨nd,rfl⟩⟩;(try first | exact ⟨rfl,_,World.drewN_drewN _ _ _⟩ | exact ⟨rfl,_,Eq.trans (World.drewN_drewN _ _ _) (congrArg (World.drewN _) (Nat.add_assoc _ _ _))⟩)))
      repeat (go_quiet (first | (go_at_call 14;(with_reducible refine (l4_short.calls _ _ l0_0 a0_1 _ _ l0_2 a0_3 a0_4 true _ ?side1 ?side2 ?side3 ?side4 A6.out).mono ?_);(case side1 => repeat (first | exact (kC HR0_0.out HB.out) | (with_reducible refine Kd.C_alloc ?_ _) | (with_reducible refine Kd.C_drewN ?_ _) | (with_reducible refine Kd.C_drew ?_)));(case side2 => exact HC0_0.out);(case side3 => repeat (first | exact (kC HR0_2.out HB.out) | (with_reducible refine Kd.C_alloc ?_ _) | (with_reducible refine Kd.C_drewN ?_ _) | (with_reducible refine Kd.C_drew ?_)));(case side4 => exact HC0_2.out);rintro e w14 ⟨rfl,hb⟩;replace BK530 := am (blk_below (g := gb530) (o := .cells #[.slice A0_0 l0_0.length c0_0,.int .i64 a0_1,.slice A0_2 l0_2.length c0_2,.int .i64 a0_3,.int .i64 a0_4] 27 (0,0)) (by (with_reducible repeat (first | refine blk_drewN ?_ _ | refine blk_drew ?_ | refine blk_alloc ?_ _));exact BK530.out) hb);replace HB := am (below_step (by repeat (first | (with_reducible first | exact HB.out | refine below_set ?_ GE530.out | apply below_alloc | apply pw_below_drewN) | exact HB.out)) hb);(try clear hb);(try clear hb2);(try clear hk);(try clear hi);obtain ⟨hcz15_0,hcz15_1,hcz15_2,hcz15_3,hcz15_4⟩ := cO5 BK530.out;have hfz15_0 := blk_frozen BK530.out 0;have hfz15_1 := blk_frozen BK530.out 1;have hfz15_2 := blk_frozen BK530.out 2;have hfz15_3 := blk_frozen BK530.out 3;have hfz15_4 := blk_frozen BK530.out 4) | (go_at_call 17;(with_reducible refine (q4_Basin.calls k _ _ l0_0 a0_1 _ _ l0_2 a0_3 a0_4 true _ ?side1 ?side2 ?side3 ?side4 A8.out).mono ?_);(case side1 => repeat (first | exact (kC HR0_0.out HB.out) | (with_reducible refine Kd.C_alloc ?_ _) | (with_reducible refine Kd.C_drewN ?_ _) | (with_reducible refine Kd.C_drew ?_)));(case side2 => exact HC0_0.out);(case side3 => repeat (first | exact (kC HR0_2.out HB.out) | (with_reducible refine Kd.C_alloc ?_ _) | (with_reducible refine Kd.C_drewN ?_ _) | (with_reducible refine Kd.C_drew ?_)));(case side4 => exact HC0_2.out);rintro e w16 ⟨rfl,hb⟩;replace BK530 := am (blk_below (g := gb530) (o := .cells #[.slice A0_0 l0_0.length c0_0,.int .i64 a0_1,.slice A0_2 l0_2.length c0_2,.int .i64 a0_3,.int .i64 a0_4] 27 (0,0)) (by (with_reducible repeat (first | refine blk_drewN ?_ _ | refine blk_drew ?_ | refine blk_alloc ?_ _));exact BK530.out) hb);replace HB := am (below_step (by repeat (first | (with_reducible first | exact HB.out | refine below_set ?_ GE530.out | apply below_alloc | apply pw_below_drewN) | exact HB.out)) hb);(try clear hb);(try clear hb2);(try clear hk);(try clear hi)) | (go_at_call 18;(with_reducible refine (q4_Cups.calls a1 true _ A10.out).mono ?_);rintro e w' ⟨rfl,⟨nd,rfl⟩⟩;(try first | exact ⟨rfl,_,World.drewN_drewN _ _ _⟩ | exact ⟨rfl,_,Eq.trans (World.drewN_drewN _ _ _) (congrArg (World.drewN _) (Nat.add_assoc _ _ _))⟩)) | (go_at_call 21;(with_reducible refine (q4_Height.calls a2 t534 _ A12.out).mono ?_);rintro e w' ⟨rfl,⟨nd,rfl⟩⟩;(try first | exact ⟨rfl,_,World.drewN_drewN _ _ _⟩ | exact ⟨rfl,_,Eq.trans (World.drewN_drewN _ _ _) (congrArg (World.drewN _) (Nat.add_assoc _ _ _))⟩)));try go_wp2_with (first | (go_at_call 14;(with_reducible refine (l4_short.calls _ _ l0_0 a0_1 _ _ l0_2 a0_3 a0_4 true _ ?side1 ?side2 ?side3 ?side4 A6.out).mono ?_);(case side1 => repeat (first | exact (kC HR0_0.out HB.out) | (with_reducible refine Kd.C_alloc ?_ _) | (with_reducible refine Kd.C_drewN ?_ _) | (with_reducible refine Kd.C_drew ?_)));(case side2 => exact HC0_0.out);(case side3 => repeat (first | exact (kC HR0_2.out HB.out) | (with_reducible refine Kd.C_alloc ?_ _) | (with_reducible refine Kd.C_drewN ?_ _) | (with_reducible refine Kd.C_drew ?_)));(case side4 => exact HC0_2.out);rintro e w14 ⟨rfl,hb⟩;replace BK530 := am (blk_below (g := gb530) (o := .cells #[.slice A0_0 l0_0.length c0_0,.int .i64 a0_1,.slice A0_2 l0_2.length c0_2,.int .i64 a0_3,.int .i64 a0_4] 27 (0,0)) (by (with_reducible repeat (first | refine blk_drewN ?_ _ | refine blk_drew ?_ | refine blk_alloc ?_ _));exact BK530.out) hb);replace HB := am (below_step (by repeat (first | (with_reducible first | exact HB.out | refine below_set ?_ GE530.out | apply below_alloc | apply pw_below_drewN) | exact HB.out)) hb);(try clear hb);(try clear hb2);(try clear hk);(try clear hi);obtain ⟨hcz15_0,hcz15_1,hcz15_2,hcz15_3,hcz15_4⟩ := cO5 BK530.out;have hfz15_0 := blk_frozen BK530.out 0;have hfz15_1 := blk_frozen BK530.out 1;have hfz15_2 := blk_frozen BK530.out 2;have hfz15_3 := blk_frozen BK530.out 3;have hfz15_4 := blk_frozen BK530.out 4) | (go_at_call 17;(with_reducible refine (q4_Basin.calls k _ _ l0_0 a0_1 _ _ l0_2 a0_3 a0_4 true _ ?side1 ?side2 ?side3 ?side4 A8.out).mono ?_);(case side1 => repeat (first | exact (kC HR0_0.out HB.out) | (with_reducible refine Kd.C_alloc ?_ _) | (with_reducible refine Kd.C_drewN ?_ _) | (with_reducible refine Kd.C_drew ?_)));(case side2 => exact HC0_0.out);(case side3 => repeat (first | exact (kC HR0_2.out HB.out) | (with_reducible refine Kd.C_alloc ?_ _) | (with_reducible refine Kd.C_drewN ?_ _) | (with_reducible refine Kd.C_drew ?_)));(case side4 => exact HC0_2.out);rintro e w16 ⟨rfl,hb⟩;replace BK530 := am (blk_below (g := gb530) (o := .cells #[.slice A0_0 l0_0.length c0_0,.int .i64 a0_1,.slice A0_2 l0_2.length c0_2,.int .i64 a0_3,.int .i64 a0_4] 27 (0,0)) (by (with_reducible repeat (first | refine blk_drewN ?_ _ | refine blk_drew ?_ | refine blk_alloc ?_ _));exact BK530.out) hb);replace HB := am (below_step (by repeat (first | (with_reducible first | exact HB.out | refine below_set ?_ GE530.out | apply below_alloc | apply pw_below_drewN) | exact HB.out)) hb);(try clear hb);(try clear hb2);(try clear hk);(try clear hi)) | (go_at_call 18;(with_reducible refine (q4_Cups.calls a1 true _ A10.out).mono ?_);rintro e w' ⟨rfl,⟨nd,rfl⟩⟩;(try first | exact ⟨rfl,_,World.drewN_drewN _ _ _⟩ | exact ⟨rfl,_,Eq.trans (World.drewN_drewN _ _ _) (congrArg (World.drewN _) (Nat.add_assoc _ _ _))⟩)) | (go_at_call 21;(with_reducible refine (q4_Height.calls a2 t534 _ A12.out).mono ?_);rintro e w' ⟨rfl,⟨nd,rfl⟩⟩;(try first | exact ⟨rfl,_,World.drewN_drewN _ _ _⟩ | exact ⟨rfl,_,Eq.trans (World.drewN_drewN _ _ _) (congrArg (World.drewN _) (Nat.add_assoc _ _ _))⟩))))
      go_meet
      case rel => exact ⟨_,(!t534),(by first | rfl | (simp;done) | (simp [*];done)),H',⟨by first | omega | exact Nat.le_refl _⟩,⟨by (with_reducible repeat (first | refine blk_drewN ?_ _ | refine blk_drew ?_ | refine blk_alloc ?_ _));exact BK530.out⟩,⟨by repeat (first | (with_reducible first | exact HB.out | refine below_set ?_ GE530.out | apply below_alloc | apply pw_below_drewN) | exact HB.out)⟩⟩
 case rest =>
  as_aux_lemma =>
   clear HC4
   try clear c1
   try clear p2
   try clear c4
   try clear c7
   try clear c9
   try clear c11
   try clear hcz13_0
   try clear hcz13_1
   try clear hcz13_2
   try clear hcz13_3
   try clear hcz13_4
   try clear hcz15_0
   try clear hcz15_1
   try clear hcz15_2
   try clear hcz15_3
   try clear hcz15_4
   try clear hcz17_0
   try clear hcz17_1
   try clear hcz17_2
   try clear hcz17_3
   try clear hcz17_4
   try clear hcz19_0
   try clear hcz19_1
   try clear hcz19_2
   try clear hcz19_3
   try clear hcz19_4
   try clear hcz21_0
   try clear hcz21_1
   try clear hcz21_2
   try clear hcz21_3
   try clear hcz21_4
   try clear hcz23_0
   try clear hcz23_1
   try clear hcz23_2
   try clear hcz23_3
   try clear hcz23_4
   try clear hcz25_0
   try clear hcz25_1
   try clear hcz25_2
   try clear hcz25_3
   try clear hcz25_4
   try clear hfz13_0
   try clear hfz13_1
   try clear hfz13_2
   try clear hfz13_3
   try clear hfz13_4
   try clear hfz15_0
   try clear hfz15_1
   try clear hfz15_2
   try clear hfz15_3
   try clear hfz15_4
   try clear hfz17_0
   try clear hfz17_1
   try clear hfz17_2
   try clear hfz17_3
   try clear hfz17_4
   try clear hfz19_0
   try clear hfz19_1
   try clear hfz19_2
   try clear hfz19_3
   try clear hfz19_4
   try clear hfz21_0
   try clear hfz21_1
   try clear hfz21_2
   try clear hfz21_3
   try clear hfz21_4
   try clear hfz23_0
   try clear hfz23_1
   try clear hfz23_2
   try clear hfz23_3
   try clear hfz23_4
   try clear hfz25_0
   try clear hfz25_1
   try clear hfz25_2
   try clear hfz25_3
   try clear hfz25_4
   obtain ⟨kq,x42_3,rfl,HA,HJ3,BK530,HB⟩ := hcut
   cases kq with
   | zero => exact absurd HA.out (by simp [l4_CastleKept.j0])
   | succ kj3 =>
    have H := HA.out
    clear HA
    simp only [l4_CastleKept.j0] at H
    by_cases c27 : x42_3 = true
    · subst c27
      replace H : ((l4_known.f).bind fun t535 => (some t535)) = some r := by rw [if_pos rfl] at H;exact H
      replace H := obm H
      obtain ⟨t535,A280,H⟩ := H
      replace H : (some t535) = some r := H
      have A28 := am A280
      clear A280
      obtain rfl := Option.some.inj H
      go_wp2_with (first | (go_at_call 15;(with_reducible refine (l4_known.calls  t535 _ A28.out).mono ?_);rintro e w29 ⟨rfl,hb⟩;replace BK530 := am (blk_below (g := gb530) (o := .cells #[.slice A0_0 l0_0.length c0_0,.int .i64 a0_1,.slice A0_2 l0_2.length c0_2,.int .i64 a0_3,.int .i64 a0_4] 27 (0,0)) (by (with_reducible repeat (first | refine blk_drewN ?_ _ | refine blk_drew ?_ | refine blk_alloc ?_ _));exact BK530.out) hb);replace HB := am (below_step (by repeat (first | (with_reducible first | exact HB.out | refine below_set ?_ GE530.out | apply below_alloc | apply pw_below_drewN) | exact HB.out)) hb);(try clear hb);(try clear hb2);(try clear hk);(try clear hi)))
      repeat (go_quiet (first | (go_at_call 15;(with_reducible refine (l4_known.calls  t535 _ A28.out).mono ?_);rintro e w29 ⟨rfl,hb⟩;replace BK530 := am (blk_below (g := gb530) (o := .cells #[.slice A0_0 l0_0.length c0_0,.int .i64 a0_1,.slice A0_2 l0_2.length c0_2,.int .i64 a0_3,.int .i64 a0_4] 27 (0,0)) (by (with_reducible repeat (first | refine blk_drewN ?_ _ | refine blk_drew ?_ | refine blk_alloc ?_ _));exact BK530.out) hb);replace HB := am (below_step (by repeat (first | (with_reducible first | exact HB.out | refine below_set ?_ GE530.out | apply below_alloc | apply pw_below_drewN) | exact HB.out)) hb);(try clear hb);(try clear hb2);(try clear hk);(try clear hi)));try go_wp2_with (first | (go_at_call 15;(with_reducible refine (l4_known.calls  t535 _ A28.out).mono ?_);rintro e w29 ⟨rfl,hb⟩;replace BK530 := am (blk_below (g := gb530) (o := .cells #[.slice A0_0 l0_0.length c0_0,.int .i64 a0_1,.slice A0_2 l0_2.length c0_2,.int .i64 a0_3,.int .i64 a0_4] 27 (0,0)) (by (with_reducible repeat (first | refine blk_drewN ?_ _ | refine blk_drew ?_ | refine blk_alloc ?_ _));exact BK530.out) hb);replace HB := am (below_step (by repeat (first | (with_reducible first | exact HB.out | refine below_set ?_ GE530.out | apply below_alloc | apply pw_below_drewN) | exact HB.out)) hb);(try clear hb);(try clear hb2);(try clear hk);(try clear hi))))
      go_ret
      exact ⟨by first | rfl | (simp [*] <;> rfl),by repeat (first | (with_reducible first | exact HB.out | refine below_set ?_ GE530.out | apply below_alloc | apply pw_below_drewN) | exact HB.out)⟩
    · as_aux_lemma =>
       replace c27 := Bool.eq_false_iff.mpr c27
       subst c27
       replace H : ((ca_Shares.f kj3 l0_0 a0_1 l0_2 a0_3 a0_4 a1).bind fun bt536 => ((ca_Level.f kj3 l0_0 a0_1 l0_2 a0_3 a0_4 a1 a1).bind fun bt541 => (if bt536.2.2 = 0 then (if bt541.2.2 = 0 then (if bt541.1 = bt541.2.1 then ((q4_Height.f bt541.1).bind fun t545 => (if t545 = true then (if (bt536.1.length : Int) = (l0_2.length : Int) then ((q4_Cups.f bt536.2.1).bind fun t546 => (l4_CastleKept.j1 kj3 a1 a2 bt536.1 bt536.2.1 (!t546) l0_0 a0_1 l0_2 a0_3 a0_4 bt541.1 bt541.2.1)) else (l4_CastleKept.j1 kj3 a1 a2 bt536.1 bt536.2.1 true l0_0 a0_1 l0_2 a0_3 a0_4 bt541.1 bt541.2.1)) else (l4_CastleKept.j1 kj3 a1 a2 bt536.1 bt536.2.1 true l0_0 a0_1 l0_2 a0_3 a0_4 bt541.1 bt541.2.1))) else (l4_CastleKept.j1 kj3 a1 a2 bt536.1 bt536.2.1 true l0_0 a0_1 l0_2 a0_3 a0_4 bt541.1 bt541.2.1)) else (l4_CastleKept.j1 kj3 a1 a2 bt536.1 bt536.2.1 true l0_0 a0_1 l0_2 a0_3 a0_4 bt541.1 bt541.2.1)) else (l4_CastleKept.j1 kj3 a1 a2 bt536.1 bt536.2.1 true l0_0 a0_1 l0_2 a0_3 a0_4 bt541.1 bt541.2.1)))) = some r := by rw [if_neg (show ¬ (false = true) by decide)] at H;exact H
       replace H := obm H
       obtain ⟨⟨t536,t539,t540⟩,A300,H⟩ := H
       replace H : ((ca_Level.f kj3 l0_0 a0_1 l0_2 a0_3 a0_4 a1 a1).bind fun bt541 => (if t540 = 0 then (if bt541.2.2 = 0 then (if bt541.1 = bt541.2.1 then ((q4_Height.f bt541.1).bind fun t545 => (if t545 = true then (if (t536.length : Int) = (l0_2.length : Int) then ((q4_Cups.f t539).bind fun t546 => (l4_CastleKept.j1 kj3 a1 a2 t536 t539 (!t546) l0_0 a0_1 l0_2 a0_3 a0_4 bt541.1 bt541.2.1)) else (l4_CastleKept.j1 kj3 a1 a2 t536 t539 true l0_0 a0_1 l0_2 a0_3 a0_4 bt541.1 bt541.2.1)) else (l4_CastleKept.j1 kj3 a1 a2 t536 t539 true l0_0 a0_1 l0_2 a0_3 a0_4 bt541.1 bt541.2.1))) else (l4_CastleKept.j1 kj3 a1 a2 t536 t539 true l0_0 a0_1 l0_2 a0_3 a0_4 bt541.1 bt541.2.1)) else (l4_CastleKept.j1 kj3 a1 a2 t536 t539 true l0_0 a0_1 l0_2 a0_3 a0_4 bt541.1 bt541.2.1)) else (l4_CastleKept.j1 kj3 a1 a2 t536 t539 true l0_0 a0_1 l0_2 a0_3 a0_4 bt541.1 bt541.2.1))) = some r := H
       have A30 := am A300
       clear A300
       replace H := obm H
       obtain ⟨⟨t541,t542,t543⟩,A310,H⟩ := H
       replace H : (if t540 = 0 then (if t543 = 0 then (if t541 = t542 then ((q4_Height.f t541).bind fun t545 => (if t545 = true then (if (t536.length : Int) = (l0_2.length : Int) then ((q4_Cups.f t539).bind fun t546 => (l4_CastleKept.j1 kj3 a1 a2 t536 t539 (!t546) l0_0 a0_1 l0_2 a0_3 a0_4 t541 t542)) else (l4_CastleKept.j1 kj3 a1 a2 t536 t539 true l0_0 a0_1 l0_2 a0_3 a0_4 t541 t542)) else (l4_CastleKept.j1 kj3 a1 a2 t536 t539 true l0_0 a0_1 l0_2 a0_3 a0_4 t541 t542))) else (l4_CastleKept.j1 kj3 a1 a2 t536 t539 true l0_0 a0_1 l0_2 a0_3 a0_4 t541 t542)) else (l4_CastleKept.j1 kj3 a1 a2 t536 t539 true l0_0 a0_1 l0_2 a0_3 a0_4 t541 t542)) else (l4_CastleKept.j1 kj3 a1 a2 t536 t539 true l0_0 a0_1 l0_2 a0_3 a0_4 t541 t542)) = some r := H
       have A31 := am A310
       clear A310
       have HC32 := am H
       clear H
       obtain ⟨hcz33_0,hcz33_1,hcz33_2,hcz33_3,hcz33_4⟩ := cO5 BK530.out
       have hfz33_0 := blk_frozen BK530.out 0
       have hfz33_1 := blk_frozen BK530.out 1
       have hfz33_2 := blk_frozen BK530.out 2
       have hfz33_3 := blk_frozen BK530.out 3
       have hfz33_4 := blk_frozen BK530.out 4
       go_upto_region 5 with (first | (go_at_call 16;(with_reducible refine (ca_Shares.calls kj3 _ _ l0_0 a0_1 _ _ l0_2 a0_3 a0_4 a1 t536 t539 t540 _ ?side1 ?side2 ?side3 ?side4 A30.out).mono ?_);(case side1 => repeat (first | exact (kC HR0_0.out HB.out) | (with_reducible refine Kd.C_alloc ?_ _) | (with_reducible refine Kd.C_drewN ?_ _) | (with_reducible refine Kd.C_drew ?_)));(case side2 => exact HC0_0.out);(case side3 => repeat (first | exact (kC HR0_2.out HB.out) | (with_reducible refine Kd.C_alloc ?_ _) | (with_reducible refine Kd.C_drewN ?_ _) | (with_reducible refine Kd.C_drew ?_)));(case side4 => exact HC0_2.out);rintro e w34 ⟨v537,rfl,ho0,hb⟩;have HO538 := am (Kd.R_lower ho0 (below_size (by repeat (first | (with_reducible first | exact HB.out | refine below_set ?_ GE530.out | apply below_alloc | apply pw_below_drewN) | exact HB.out))));replace BK530 := am (blk_below (g := gb530) (o := .cells #[.slice A0_0 l0_0.length c0_0,.int .i64 a0_1,.slice A0_2 l0_2.length c0_2,.int .i64 a0_3,.int .i64 a0_4] 27 (0,0)) (by (with_reducible repeat (first | refine blk_drewN ?_ _ | refine blk_drew ?_ | refine blk_alloc ?_ _));exact BK530.out) hb);replace HB := am (below_step (by repeat (first | (with_reducible first | exact HB.out | refine below_set ?_ GE530.out | apply below_alloc | apply pw_below_drewN) | exact HB.out)) hb);(try clear hb);(try clear hb2);(try clear hk);(try clear hi);(try clear ho0);obtain ⟨hcz35_0,hcz35_1,hcz35_2,hcz35_3,hcz35_4⟩ := cO5 BK530.out;have hfz35_0 := blk_frozen BK530.out 0;have hfz35_1 := blk_frozen BK530.out 1;have hfz35_2 := blk_frozen BK530.out 2;have hfz35_3 := blk_frozen BK530.out 3;have hfz35_4 := blk_frozen BK530.out 4) | (go_at_call 22;(with_reducible refine (ca_Level.calls kj3 _ _ l0_0 a0_1 _ _ l0_2 a0_3 a0_4 a1 a1 t541 t542 t543 _ ?side1 ?side2 ?side3 ?side4 A31.out).mono ?_);(case side1 => repeat (first | exact (kC HR0_0.out HB.out) | (with_reducible refine Kd.C_alloc ?_ _) | (with_reducible refine Kd.C_drewN ?_ _) | (with_reducible refine Kd.C_drew ?_)));(case side2 => exact HC0_0.out);(case side3 => repeat (first | exact (kC HR0_2.out HB.out) | (with_reducible refine Kd.C_alloc ?_ _) | (with_reducible refine Kd.C_drewN ?_ _) | (with_reducible refine Kd.C_drew ?_)));(case side4 => exact HC0_2.out);rintro e w36 ⟨rfl,hb⟩;replace HO538 := am (Kd.R_below (by (with_reducible repeat (first | apply Kd.R_alloc | apply Kd.R_drewN | apply Kd.R_drew));exact HO538.out) hb);replace BK530 := am (blk_below (g := gb530) (o := .cells #[.slice A0_0 l0_0.length c0_0,.int .i64 a0_1,.slice A0_2 l0_2.length c0_2,.int .i64 a0_3,.int .i64 a0_4] 27 (0,0)) (by (with_reducible repeat (first | refine blk_drewN ?_ _ | refine blk_drew ?_ | refine blk_alloc ?_ _));exact BK530.out) hb);replace HB := am (below_step (by repeat (first | (with_reducible first | exact HB.out | refine below_set ?_ GE530.out | apply below_alloc | apply pw_below_drewN) | exact HB.out)) hb);(try clear hb);(try clear hb2);(try clear hk);(try clear hi)) | ((with_reducible refine gate_dst (N := 10) rfl ?_);(try (refine gate_guard (by rfl) ?_;dsimp only));refine box_event ?hg (N := 10) ?hd (cs := #[.int .i64 0,.int .i64 0]) (t := 40) ?hr ?_;(case hd => rfl);(case hg => rfl);(case hr => go_simp;try rfl);intro gb544 hg w37 hbox hb;have BK544 := am (hbox);have GW544 := am (ge_new (by repeat (first | (with_reducible first | exact HB.out | refine below_set ?_ GE530.out | apply below_alloc | apply pw_below_drewN) | exact HB.out)) hg);have GE544 := am (ge_new (by repeat (first | (with_reducible first | exact HB.out | refine below_set ?_ GE530.out | apply below_alloc | apply pw_below_drewN) | exact HB.out)) hg);have NB530_544 := am ((by rw [hg];exact Nat.ne_of_lt (blk_lt (g := gb530) (o := .cells #[.slice A0_0 l0_0.length c0_0,.int .i64 a0_1,.slice A0_2 l0_2.length c0_2,.int .i64 a0_3,.int .i64 a0_4] 27 (0,0)) (by (with_reducible repeat (first | refine blk_drewN ?_ _ | refine blk_drew ?_ | refine blk_alloc ?_ _));exact BK530.out)) : gb530 ≠ gb544));have NB544_530 := am ((by rw [hg];exact Nat.ne_of_gt (blk_lt (g := gb530) (o := .cells #[.slice A0_0 l0_0.length c0_0,.int .i64 a0_1,.slice A0_2 l0_2.length c0_2,.int .i64 a0_3,.int .i64 a0_4] 27 (0,0)) (by (with_reducible repeat (first | refine blk_drewN ?_ _ | refine blk_drew ?_ | refine blk_alloc ?_ _));exact BK530.out)) : gb544 ≠ gb530));replace HO538 := am (Kd.R_below (by (with_reducible repeat (first | apply Kd.R_alloc | apply Kd.R_drewN | apply Kd.R_drew));exact HO538.out) hb);replace BK530 := am (blk_below (g := gb530) (o := .cells #[.slice A0_0 l0_0.length c0_0,.int .i64 a0_1,.slice A0_2 l0_2.length c0_2,.int .i64 a0_3,.int .i64 a0_4] 27 (0,0)) (by (with_reducible repeat (first | refine blk_drewN ?_ _ | refine blk_drew ?_ | refine blk_alloc ?_ _));exact BK530.out) hb);replace HB := am (below_step (by repeat (first | (with_reducible first | exact HB.out | refine below_set ?_ GE530.out | apply below_alloc | apply pw_below_drewN) | exact HB.out)) hb);clear hb hbox hg;have hnb38 := NB544_530.out;have hnc38 := NB530_544.out;obtain ⟨hcz39_0,hcz39_1⟩ := cO2 BK544.out;have hfz39_0 := blk_frozen BK544.out 0;have hfz39_1 := blk_frozen BK544.out 1))
       repeat (go_quiet (first | (go_at_call 16;(with_reducible refine (ca_Shares.calls kj3 _ _ l0_0 a0_1 _ _ l0_2 a0_3 a0_4 a1 t536 t539 t540 _ ?side1 ?side2 ?side3 ?side4 A30.out).mono ?_);(case side1 => repeat (first | exact (kC HR0_0.out HB.out) | (with_reducible refine Kd.C_alloc ?_ _) | (with_reducible refine Kd.C_drewN ?_ _) | (with_reducible refine Kd.C_drew ?_)));(case side2 => exact HC0_0.out);(case side3 => repeat (first | exact (kC HR0_2.out HB.out) | (with_reducible refine Kd.C_alloc ?_ _) | (with_reducible refine Kd.C_drewN ?_ _) | (with_reducible refine Kd.C_drew ?_)));(case side4 => exact HC0_2.out);rintro e w34 ⟨v537,rfl,ho0,hb⟩;have HO538 := am (Kd.R_lower ho0 (below_size (by repeat (first | (with_reducible first | exact HB.out | refine below_set ?_ GE530.out | apply below_alloc | apply pw_below_drewN) | exact HB.out))));replace BK530 := am (blk_below (g := gb530) (o := .cells #[.slice A0_0 l0_0.length c0_0,.int .i64 a0_1,.slice A0_2 l0_2.length c0_2,.int .i64 a0_3,.int .i64 a0_4] 27 (0,0)) (by (with_reducible repeat (first | refine blk_drewN ?_ _ | refine blk_drew ?_ | refine blk_alloc ?_ _));exact BK530.out) hb);replace HB := am (below_step (by repeat (first | (with_reducible first | exact HB.out | refine below_set ?_ GE530.out | apply below_alloc | apply pw_below_drewN) | exact HB.out)) hb);(try clear hb);(try clear hb2);(try clear hk);(try clear hi);(try clear ho0);obtain ⟨hcz35_0,hcz35_1,hcz35_2,hcz35_3,hcz35_4⟩ := cO5 BK530.out;have hfz35_0 := blk_frozen BK530.out 0;have hfz35_1 := blk_frozen BK530.out 1;have hfz35_2 := blk_frozen BK530.out 2;have hfz35_3 := blk_frozen BK530.out 3;have hfz35_4 := blk_frozen BK530.out 4) | (go_at_call 22;(with_reducible refine (ca_Level.calls kj3 _ _ l0_0 a0_1 _ _ l0_2 a0_3 a0_4 a1 a1 t541 t542 t543 _ ?side1 ?side2 ?side3 ?side4 A31.out).mono ?_);(case side1 => repeat (first | exact (kC HR0_0.out HB.out) | (with_reducible refine Kd.C_alloc ?_ _) | (with_reducible refine Kd.C_drewN ?_ _) | (with_reducible refine Kd.C_drew ?_)));(case side2 => exact HC0_0.out);(case side3 => repeat (first | exact (kC HR0_2.out HB.out) | (with_reducible refine Kd.C_alloc ?_ _) | (with_reducible refine Kd.C_drewN ?_ _) | (with_reducible refine Kd.C_drew ?_)));(case side4 => exact HC0_2.out);rintro e w36 ⟨rfl,hb⟩;replace HO538 := am (Kd.R_below (by (with_reducible repeat (first | apply Kd.R_alloc | apply Kd.R_drewN | apply Kd.R_drew));exact HO538.out) hb);replace BK530 := am (blk_below (g := gb530) (o := .cells #[.slice A0_0 l0_0.length c0_0,.int .i64 a0_1,.slice A0_2 l0_2.length c0_2,.int .i64 a0_3,.int .i64 a0_4] 27 (0,0)) (by (with_reducible repeat (first | refine blk_drewN ?_ _ | refine blk_drew ?_ | refine blk_alloc ?_ _));exact BK530.out) hb);replace HB := am (below_step (by repeat (first | (with_reducible first | exact HB.out | refine below_set ?_ GE530.out | apply below_alloc | apply pw_below_drewN) | exact HB.out)) hb);(try clear hb);(try clear hb2);(try clear hk);(try clear hi)) | ((with_reducible refine gate_dst (N := 10) rfl ?_);(try (refine gate_guard (by rfl) ?_;dsimp only));refine box_event ?hg (N := 10) ?hd (cs := #[.int .i64 0,.int .i64 0]) (t := 40) ?hr ?_;(case hd => rfl);(case hg => rfl);(case hr => go_simp;try rfl);intro gb544 hg w37 hbox hb;have BK544 := am (hbox);have GW544 := am (ge_new (by repeat (first | (with_reducible first | exact HB.out | refine below_set ?_ GE530.out | apply below_alloc | apply pw_below_drewN) | exact HB.out)) hg);have GE544 := am (ge_new (by repeat (first | (with_reducible first | exact HB.out | refine below_set ?_ GE530.out | apply below_alloc | apply pw_below_drewN) | exact HB.out)) hg);have NB530_544 := am ((by rw [hg];exact Nat.ne_of_lt (blk_lt (g := gb530) (o := .cells #[.slice A0_0 l0_0.length c0_0,.int .i64 a0_1,.slice A0_2 l0_2.length c0_2,.int .i64 a0_3,.int .i64 a0_4] 27 (0,0)) (by (with_reducible repeat (first | refine blk_drewN ?_ _ | refine blk_drew ?_ | refine blk_alloc ?_ _));exact BK530.out)) : gb530 ≠ gb544));have NB544_530 := am ((by rw [hg];exact Nat.ne_of_gt (blk_lt (g := gb530) (o := .cells #[.slice A0_0 l0_0.length c0_0,.int .i64 a0_1,.slice A0_2 l0_2.length c0_2,.int .i64 a0_3,.int .i64 a0_4] 27 (0,0)) (by (with_reducible repeat (first | refine blk_drewN ?_ _ | refine blk_drew ?_ | refine blk_alloc ?_ _));exact BK530.out)) : gb544 ≠ gb530));replace HO538 := am (Kd.R_below (by (with_reducible repeat (first | apply Kd.R_alloc | apply Kd.R_drewN | apply Kd.R_drew));exact HO538.out) hb);replace BK530 := am (blk_below (g := gb530) (o := .cells #[.slice A0_0 l0_0.length c0_0,.int .i64 a0_1,.slice A0_2 l0_2.length c0_2,.int .i64 a0_3,.int .i64 a0_4] 27 (0,0)) (by (with_reducible repeat (first | refine blk_drewN ?_ _ | refine blk_drew ?_ | refine blk_alloc ?_ _));exact BK530.out) hb);replace HB := am (below_step (by repeat (first | (with_reducible first | exact HB.out | refine below_set ?_ GE530.out | apply below_alloc | apply pw_below_drewN) | exact HB.out)) hb);clear hb hbox hg;have hnb38 := NB544_530.out;have hnc38 := NB530_544.out;obtain ⟨hcz39_0,hcz39_1⟩ := cO2 BK544.out;have hfz39_0 := blk_frozen BK544.out 0;have hfz39_1 := blk_frozen BK544.out 1));go_upto_region 5 with (first | (go_at_call 16;(with_reducible refine (ca_Shares.calls kj3 _ _ l0_0 a0_1 _ _ l0_2 a0_3 a0_4 a1 t536 t539 t540 _ ?side1 ?side2 ?side3 ?side4 A30.out).mono ?_);(case side1 => repeat (first | exact (kC HR0_0.out HB.out) | (with_reducible refine Kd.C_alloc ?_ _) | (with_reducible refine Kd.C_drewN ?_ _) | (with_reducible refine Kd.C_drew ?_)));(case side2 => exact HC0_0.out);(case side3 => repeat (first | exact (kC HR0_2.out HB.out) | (with_reducible refine Kd.C_alloc ?_ _) | (with_reducible refine Kd.C_drewN ?_ _) | (with_reducible refine Kd.C_drew ?_)));(case side4 => exact HC0_2.out);rintro e w34 ⟨v537,rfl,ho0,hb⟩;have HO538 := am (Kd.R_lower ho0 (below_size (by repeat (first | (with_reducible first | exact HB.out | refine below_set ?_ GE530.out | apply below_alloc | apply pw_below_drewN) | exact HB.out))));replace BK530 := am (blk_below (g := gb530) (o := .cells #[.slice A0_0 l0_0.length c0_0,.int .i64 a0_1,.slice A0_2 l0_2.length c0_2,.int .i64 a0_3,.int .i64 a0_4] 27 (0,0)) (by (with_reducible repeat (first | refine blk_drewN ?_ _ | refine blk_drew ?_ | refine blk_alloc ?_ _));exact BK530.out) hb);replace HB := am (below_step (by repeat (first | (with_reducible first | exact HB.out | refine below_set ?_ GE530.out | apply below_alloc | apply pw_below_drewN) | exact HB.out)) hb);(try clear hb);(try clear hb2);(try clear hk);(try clear hi);(try clear ho0);obtain ⟨hcz35_0,hcz35_1,hcz35_2,hcz35_3,hcz35_4⟩ := cO5 BK530.out;have hfz35_0 := blk_frozen BK530.out 0;have hfz35_1 := blk_frozen BK530.out 1;have hfz35_2 := blk_frozen BK530.out 2;have hfz35_3 := blk_frozen BK530.out 3;have hfz35_4 := blk_frozen BK530.out 4) | (go_at_call 22;(with_reducible refine (ca_Level.calls kj3 _ _ l0_0 a0_1 _ _ l0_2 a0_3 a0_4 a1 a1 t541 t542 t543 _ ?side1 ?side2 ?side3 ?side4 A31.out).mono ?_);(case side1 => repeat (first | exact (kC HR0_0.out HB.out) | (with_reducible refine Kd.C_alloc ?_ _) | (with_reducible refine Kd.C_drewN ?_ _) | (with_reducible refine Kd.C_drew ?_)));(case side2 => exact HC0_0.out);(case side3 => repeat (first | exact (kC HR0_2.out HB.out) | (with_reducible refine Kd.C_alloc ?_ _) | (with_reducible refine Kd.C_drewN ?_ _) | (with_reducible refine Kd.C_drew ?_)));(case side4 => exact HC0_2.out);rintro e w36 ⟨rfl,hb⟩;replace HO538 := am (Kd.R_below (by (with_reducible repeat (first | apply Kd.R_alloc | apply Kd.R_drewN | apply Kd.R_drew));exact HO538.out) hb);replace BK530 := am (blk_below (g := gb530) (o := .cells #[.slice A0_0 l0_0.length c0_0,.int .i64 a0_1,.slice A0_2 l0_2.length c0_2,.int .i64 a0_3,.int .i64 a0_4] 27 (0,0)) (by (with_reducible repeat (first | refine blk_drewN ?_ _ | refine blk_drew ?_ | refine blk_alloc ?_ _));exact BK530.out) hb);replace HB := am (below_step (by repeat (first | (with_reducible first | exact HB.out | refine below_set ?_ GE530.out | apply below_alloc | apply pw_below_drewN) | exact HB.out)) hb);(try clear hb);(try clear hb2);(try clear hk);(try clear hi)) | ((with_reducible refine gate_dst (N := 10) rfl ?_);(try (refine gate_guard (by rfl) ?_;dsimp only));refine box_event ?hg (N := 10) ?hd (cs := #[.int .i64 0,.int .i64 0]) (t := 40) ?hr ?_;(case hd => rfl);(case hg => rfl);(case hr => go_simp;try rfl);intro gb544 hg w37 hbox hb;have BK544 := am (hbox);have GW544 := am (ge_new (by repeat (first | (with_reducible first | exact HB.out | refine below_set ?_ GE530.out | apply below_alloc | apply pw_below_drewN) | exact HB.out)) hg);have GE544 := am (ge_new (by repeat (first | (with_reducible first | exact HB.out | refine below_set ?_ GE530.out | apply below_alloc | apply pw_below_drewN) | exact HB.out)) hg);have NB530_544 := am ((by rw [hg];exact Nat.ne_of_lt (blk_lt (g := gb530) (o := .cells #[.slice A0_0 l0_0.length c0_0,.int .i64 a0_1,.slice A0_2 l0_2.length c0_2,.int .i64 a0_3,.int .i64 a0_4] 27 (0,0)) (by (with_reducible repeat (first | refine blk_drewN ?_ _ | refine blk_drew ?_ | refine blk_alloc ?_ _));exact BK530.out)) : gb530 ≠ gb544));have NB544_530 := am ((by rw [hg];exact Nat.ne_of_gt (blk_lt (g := gb530) (o := .cells #[.slice A0_0 l0_0.length c0_0,.int .i64 a0_1,.slice A0_2 l0_2.length c0_2,.int .i64 a0_3,.int .i64 a0_4] 27 (0,0)) (by (with_reducible repeat (first | refine blk_drewN ?_ _ | refine blk_drew ?_ | refine blk_alloc ?_ _));exact BK530.out)) : gb544 ≠ gb530));replace HO538 := am (Kd.R_below (by (with_reducible repeat (first | apply Kd.R_alloc | apply Kd.R_drewN | apply Kd.R_drew));exact HO538.out) hb);replace BK530 := am (blk_below (g := gb530) (o := .cells #[.slice A0_0 l0_0.length c0_0,.int .i64 a0_1,.slice A0_2 l0_2.length c0_2,.int .i64 a0_3,.int .i64 a0_4] 27 (0,0)) (by (with_reducible repeat (first | refine blk_drewN ?_ _ | refine blk_drew ?_ | refine blk_alloc ?_ _));exact BK530.out) hb);replace HB := am (below_step (by repeat (first | (with_reducible first | exact HB.out | refine below_set ?_ GE530.out | apply below_alloc | apply pw_below_drewN) | exact HB.out)) hb);clear hb hbox hg;have hnb38 := NB544_530.out;have hnc38 := NB530_544.out;obtain ⟨hcz39_0,hcz39_1⟩ := cO2 BK544.out;have hfz39_0 := blk_frozen BK544.out 0;have hfz39_1 := blk_frozen BK544.out 1)))
       (try simp only [Act.put,List.setIfInBounds_toArray,List.set_cons_zero,List.set_cons_succ])
       go_cut [90] (fun v90 wc => ∃ (kq : Nat) (x90_31 : Bool),v90 = .bool x90_31 ∧ Aside0 (l4_CastleKept.j1 kq a1 a2 t536 t539 x90_31 l0_0 a0_1 l0_2 a0_3 a0_4 t541 t542 = some r) ∧ Aside0 (kq ≤ kj3) ∧ Aside0 (Kd.R (Kd.int .i64) 3 wc w.heap.size (fun _ => True) v537 t536) ∧ Aside0 (wc.heap[gb530]? = some (.cells #[(.slice A0_0 l0_0.length c0_0),.int .i64 a0_1,(.slice A0_2 l0_2.length c0_2),.int .i64 a0_3,.int .i64 a0_4] 27 (0,0))) ∧ Aside0 (wc.heap[gb544]? = some (.cells #[.int .i64 t541,.int .i64 t542] 40 (0,0))) ∧ Aside0 (Below w.heap.size w wc))
       case first =>
        as_aux_lemma =>
         have H := HC32.out
         clear HC32
         by_cases c40 : t540 = 0
         case neg =>
          rw [if_neg c40] at H
          have c40b0 : (t540 == 0) = false := beq_eq_false_iff_ne.mpr c40
          have c40b1 : (t540 != 0) = true := bne_iff_ne.mpr c40
          (first | rw [c40b0] | (simp only [i64_w,i32_w];rw [c40b0]) | skip)
          replace H' := am H
          go_wp2
          repeat (go_quiet (fail);try go_wp2)
          go_meet
          case rel => exact ⟨_,(true),(by first | rfl | (simp;done) | (simp [*];done)),H',⟨by have := HJ3.out;first | omega | exact Nat.le_refl _⟩,⟨by (with_reducible repeat (first | apply Kd.R_alloc | apply Kd.R_drewN | apply Kd.R_drew));exact Kd.R_mono (Kd.R_far (p := ⟨gb544,1,none⟩) (Kd.R_far (p := ⟨gb544,0,none⟩) (Kd.R_types HO538.out BK544.out (by decide)) (fun _ hk => hk.2) (.int .i64 t541)) (fun _ hk => hk.2) (.int .i64 t542)) (fun _ hk => trivial)⟩,⟨by (with_reducible repeat (first | refine blk_drewN ?_ _ | refine blk_drew ?_ | refine blk_alloc ?_ _));refine blk_far ?_ NB530_544.out _;(with_reducible repeat (first | refine blk_drewN ?_ _ | refine blk_drew ?_ | refine blk_alloc ?_ _));refine blk_far ?_ NB530_544.out _;(with_reducible repeat (first | refine blk_drewN ?_ _ | refine blk_drew ?_ | refine blk_alloc ?_ _));exact BK530.out⟩,⟨by (with_reducible repeat (first | refine blk_drewN ?_ _ | refine blk_drew ?_ | refine blk_alloc ?_ _));refine blk_put (cs := #[.int .i64 t541,.int .i64 0]) ?_ 1 _ rfl;(with_reducible repeat (first | refine blk_drewN ?_ _ | refine blk_drew ?_ | refine blk_alloc ?_ _));refine blk_put (cs := #[.int .i64 0,.int .i64 0]) ?_ 0 _ rfl;(with_reducible repeat (first | refine blk_drewN ?_ _ | refine blk_drew ?_ | refine blk_alloc ?_ _));exact BK544.out⟩,⟨by repeat (first | (with_reducible first | exact HB.out | refine below_set ?_ (Aside0.out (by assumption)) | apply below_alloc | apply pw_below_drewN) | exact HB.out)⟩⟩
         as_aux_lemma =>
          rw [if_pos c40] at H
          have c40b0 : (t540 == 0) = true := beq_iff_eq.mpr c40
          have c40b1 : (t540 != 0) = false := bne_eq_false_iff_eq.mpr c40
          clear c40
          (first | rw [c40b0] | (simp only [i64_w,i32_w];rw [c40b0]) | skip)
          by_cases c41 : t543 = 0
          case neg =>
           rw [if_neg c41] at H
           have c41b0 : (t543 == 0) = false := beq_eq_false_iff_ne.mpr c41
           have c41b1 : (t543 != 0) = true := bne_iff_ne.mpr c41
           replace H' := am H
           go_wp2
           repeat (go_quiet (fail);try go_wp2)
           go_meet
           case rel => exact ⟨_,(true),(by first | rfl | (simp;done) | (simp [*];done)),H',⟨by have := HJ3.out;first | omega | exact Nat.le_refl _⟩,⟨by (with_reducible repeat (first | apply Kd.R_alloc | apply Kd.R_drewN | apply Kd.R_drew));exact Kd.R_mono (Kd.R_far (p := ⟨gb544,1,none⟩) (Kd.R_far (p := ⟨gb544,0,none⟩) (Kd.R_types HO538.out BK544.out (by decide)) (fun _ hk => hk.2) (.int .i64 t541)) (fun _ hk => hk.2) (.int .i64 t542)) (fun _ hk => trivial)⟩,⟨by (with_reducible repeat (first | refine blk_drewN ?_ _ | refine blk_drew ?_ | refine blk_alloc ?_ _));refine blk_far ?_ NB530_544.out _;(with_reducible repeat (first | refine blk_drewN ?_ _ | refine blk_drew ?_ | refine blk_alloc ?_ _));refine blk_far ?_ NB530_544.out _;(with_reducible repeat (first | refine blk_drewN ?_ _ | refine blk_drew ?_ | refine blk_alloc ?_ _));exact BK530.out⟩,⟨by (with_reducible repeat (first | refine blk_drewN ?_ _ | refine blk_drew ?_ | refine blk_alloc ?_ _));refine blk_put (cs := #[.int .i64 t541,.int .i64 0]) ?_ 1 _ rfl;(with_reducible repeat (first | refine blk_drewN ?_ _ | refine blk_drew ?_ | refine blk_alloc ?_ _));refine blk_put (cs := #[.int .i64 0,.int .i64 0]) ?_ 0 _ rfl;(with_reducible repeat (first | refine blk_drewN ?_ _ | refine blk_drew ?_ | refine blk_alloc ?_ _));exact BK544.out⟩,⟨by repeat (first | (with_reducible first | exact HB.out | refine below_set ?_ (Aside0.out (by assumption)) | apply below_alloc | apply pw_below_drewN) | exact HB.out)⟩⟩
          as_aux_lemma =>
           rw [if_pos c41] at H
           have c41b0 : (t543 == 0) = true := beq_iff_eq.mpr c41
           have c41b1 : (t543 != 0) = false := bne_eq_false_iff_eq.mpr c41
           clear c41
           by_cases c42 : t541 = t542
           case neg =>
            rw [if_neg c42] at H
            have c42b0 : (t541 == t542) = false := beq_eq_false_iff_ne.mpr c42
            have c42b1 : (t541 != t542) = true := bne_iff_ne.mpr c42
            replace H' := am H
            have hnb57 := NB544_530.out
            have hnc57 := NB530_544.out
            obtain ⟨hcz58_0,hcz58_1⟩ := cO2 BK544.out
            have hfz58_0 := blk_frozen BK544.out 0
            have hfz58_1 := blk_frozen BK544.out 1
            go_wp2
            repeat (go_quiet (fail);try go_wp2)
            go_meet
            case rel => exact ⟨_,(true),(by first | rfl | (simp;done) | (simp [*];done)),H',⟨by have := HJ3.out;first | omega | exact Nat.le_refl _⟩,⟨by (with_reducible repeat (first | apply Kd.R_alloc | apply Kd.R_drewN | apply Kd.R_drew));exact Kd.R_mono (Kd.R_far (p := ⟨gb544,1,none⟩) (Kd.R_far (p := ⟨gb544,0,none⟩) (Kd.R_types HO538.out BK544.out (by decide)) (fun _ hk => hk.2) (.int .i64 t541)) (fun _ hk => hk.2) (.int .i64 t542)) (fun _ hk => trivial)⟩,⟨by (with_reducible repeat (first | refine blk_drewN ?_ _ | refine blk_drew ?_ | refine blk_alloc ?_ _));refine blk_far ?_ NB530_544.out _;(with_reducible repeat (first | refine blk_drewN ?_ _ | refine blk_drew ?_ | refine blk_alloc ?_ _));refine blk_far ?_ NB530_544.out _;(with_reducible repeat (first | refine blk_drewN ?_ _ | refine blk_drew ?_ | refine blk_alloc ?_ _));exact BK530.out⟩,⟨by (with_reducible repeat (first | refine blk_drewN ?_ _ | refine blk_drew ?_ | refine blk_alloc ?_ _));refine blk_put (cs := #[.int .i64 t541,.int .i64 0]) ?_ 1 _ rfl;(with_reducible repeat (first | refine blk_drewN ?_ _ | refine blk_drew ?_ | refine blk_alloc ?_ _));refine blk_put (cs := #[.int .i64 0,.int .i64 0]) ?_ 0 _ rfl;(with_reducible repeat (first | refine blk_drewN ?_ _ | refine blk_drew ?_ | refine blk_alloc ?_ _));exact BK544.out⟩,⟨by repeat (first | (with_reducible first | exact HB.out | refine below_set ?_ (Aside0.out (by assumption)) | apply below_alloc | apply pw_below_drewN) | exact HB.out)⟩⟩
           as_aux_lemma =>
            rw [if_pos c42] at H
            have c42b0 : (t541 == t542) = true := beq_iff_eq.mpr c42
            have c42b1 : (t541 != t542) = false := bne_eq_false_iff_eq.mpr c42
            clear c42
            replace H := obm H
            obtain ⟨t545,A430,H⟩ := H
            replace H : (if t545 = true then (if (t536.length : Int) = (l0_2.length : Int) then ((q4_Cups.f t539).bind fun t546 => (l4_CastleKept.j1 kj3 a1 a2 t536 t539 (!t546) l0_0 a0_1 l0_2 a0_3 a0_4 t541 t542)) else (l4_CastleKept.j1 kj3 a1 a2 t536 t539 true l0_0 a0_1 l0_2 a0_3 a0_4 t541 t542)) else (l4_CastleKept.j1 kj3 a1 a2 t536 t539 true l0_0 a0_1 l0_2 a0_3 a0_4 t541 t542)) = some r := H
            have A43 := am A430
            clear A430
            by_cases c44 : t545 = true
            case neg =>
             replace c44 := Bool.eq_false_iff.mpr c44
             subst c44
             replace H : (l4_CastleKept.j1 kj3 a1 a2 t536 t539 true l0_0 a0_1 l0_2 a0_3 a0_4 t541 t542) = some r := by rw [if_neg (show ¬ (false = true) by decide)] at H;exact H
             replace H' := am H
             have hnb55 := NB544_530.out
             have hnc55 := NB530_544.out
             obtain ⟨hcz56_0,hcz56_1⟩ := cO2 BK544.out
             have hfz56_0 := blk_frozen BK544.out 0
             have hfz56_1 := blk_frozen BK544.out 1
             go_wp2_with (first | (go_at_call 21;(with_reducible refine (q4_Height.calls t541 false _ A43.out).mono ?_);rintro e w' ⟨rfl,⟨nd,rfl⟩⟩;(try first | exact ⟨rfl,_,World.drewN_drewN _ _ _⟩ | exact ⟨rfl,_,Eq.trans (World.drewN_drewN _ _ _) (congrArg (World.drewN _) (Nat.add_assoc _ _ _))⟩)))
             repeat (go_quiet (first | (go_at_call 21;(with_reducible refine (q4_Height.calls t541 false _ A43.out).mono ?_);rintro e w' ⟨rfl,⟨nd,rfl⟩⟩;(try first | exact ⟨rfl,_,World.drewN_drewN _ _ _⟩ | exact ⟨rfl,_,Eq.trans (World.drewN_drewN _ _ _) (congrArg (World.drewN _) (Nat.add_assoc _ _ _))⟩)));try go_wp2_with (first | (go_at_call 21;(with_reducible refine (q4_Height.calls t541 false _ A43.out).mono ?_);rintro e w' ⟨rfl,⟨nd,rfl⟩⟩;(try first | exact ⟨rfl,_,World.drewN_drewN _ _ _⟩ | exact ⟨rfl,_,Eq.trans (World.drewN_drewN _ _ _) (congrArg (World.drewN _) (Nat.add_assoc _ _ _))⟩))))
             go_meet
             case rel => exact ⟨_,(true),(by first | rfl | (simp;done) | (simp [*];done)),H',⟨by have := HJ3.out;first | omega | exact Nat.le_refl _⟩,⟨by (with_reducible repeat (first | apply Kd.R_alloc | apply Kd.R_drewN | apply Kd.R_drew));exact Kd.R_mono (Kd.R_far (p := ⟨gb544,1,none⟩) (Kd.R_far (p := ⟨gb544,0,none⟩) (Kd.R_types HO538.out BK544.out (by decide)) (fun _ hk => hk.2) (.int .i64 t541)) (fun _ hk => hk.2) (.int .i64 t542)) (fun _ hk => trivial)⟩,⟨by (with_reducible repeat (first | refine blk_drewN ?_ _ | refine blk_drew ?_ | refine blk_alloc ?_ _));refine blk_far ?_ NB530_544.out _;(with_reducible repeat (first | refine blk_drewN ?_ _ | refine blk_drew ?_ | refine blk_alloc ?_ _));refine blk_far ?_ NB530_544.out _;(with_reducible repeat (first | refine blk_drewN ?_ _ | refine blk_drew ?_ | refine blk_alloc ?_ _));exact BK530.out⟩,⟨by (with_reducible repeat (first | refine blk_drewN ?_ _ | refine blk_drew ?_ | refine blk_alloc ?_ _));refine blk_put (cs := #[.int .i64 t541,.int .i64 0]) ?_ 1 _ rfl;(with_reducible repeat (first | refine blk_drewN ?_ _ | refine blk_drew ?_ | refine blk_alloc ?_ _));refine blk_put (cs := #[.int .i64 0,.int .i64 0]) ?_ 0 _ rfl;(with_reducible repeat (first | refine blk_drewN ?_ _ | refine blk_drew ?_ | refine blk_alloc ?_ _));exact BK544.out⟩,⟨by repeat (first | (with_reducible first | exact HB.out | refine below_set ?_ (Aside0.out (by assumption)) | apply below_alloc | apply pw_below_drewN) | exact HB.out)⟩⟩
            as_aux_lemma =>
             subst c44
             replace H : (if (t536.length : Int) = (l0_2.length : Int) then ((q4_Cups.f t539).bind fun t546 => (l4_CastleKept.j1 kj3 a1 a2 t536 t539 (!t546) l0_0 a0_1 l0_2 a0_3 a0_4 t541 t542)) else (l4_CastleKept.j1 kj3 a1 a2 t536 t539 true l0_0 a0_1 l0_2 a0_3 a0_4 t541 t542)) = some r := by rw [if_pos rfl] at H;exact H
             by_cases c45 : (t536.length : Int) = (l0_2.length : Int)
             case neg =>
              rw [if_neg c45] at H
              have c45b0 : ((t536.length : Int) == (l0_2.length : Int)) = false := beq_eq_false_iff_ne.mpr c45
              have c45b1 : ((t536.length : Int) != (l0_2.length : Int)) = true := bne_iff_ne.mpr c45
              have c45b2 : (t536.length == l0_2.length) = false := by first | simpa using c45 | (simp at c45 ⊢;omega)
              replace H' := am H
              have hnb51 := NB544_530.out
              have hnc51 := NB530_544.out
              obtain ⟨hcz52_0,hcz52_1⟩ := cO2 BK544.out
              have hfz52_0 := blk_frozen BK544.out 0
              have hfz52_1 := blk_frozen BK544.out 1
              go_wp2_with (first | (go_at_call 21;(with_reducible refine (q4_Height.calls t541 true _ A43.out).mono ?_);rintro e w' ⟨rfl,⟨nd,rfl⟩⟩;(try first | exact ⟨rfl,_,World.drewN_drewN _ _ _⟩ | exact ⟨rfl,_,Eq.trans (World.drewN_drewN _ _ _) (congrArg (World.drewN _) (Nat.add_assoc _ _ _))⟩);obtain ⟨Ao53,co53,eo53⟩ := Kd.R_slice HO538.out;subst eo53;obtain ⟨hcz54_0,hcz54_1,hcz54_2,hcz54_3,hcz54_4⟩ := cO5 BK530.out;have hfz54_0 := blk_frozen BK530.out 0;have hfz54_1 := blk_frozen BK530.out 1;have hfz54_2 := blk_frozen BK530.out 2;have hfz54_3 := blk_frozen BK530.out 3;have hfz54_4 := blk_frozen BK530.out 4))
              repeat (go_quiet (first | (go_at_call 21;(with_reducible refine (q4_Height.calls t541 true _ A43.out).mono ?_);rintro e w' ⟨rfl,⟨nd,rfl⟩⟩;(try first | exact ⟨rfl,_,World.drewN_drewN _ _ _⟩ | exact ⟨rfl,_,Eq.trans (World.drewN_drewN _ _ _) (congrArg (World.drewN _) (Nat.add_assoc _ _ _))⟩);obtain ⟨Ao53,co53,eo53⟩ := Kd.R_slice HO538.out;subst eo53;obtain ⟨hcz54_0,hcz54_1,hcz54_2,hcz54_3,hcz54_4⟩ := cO5 BK530.out;have hfz54_0 := blk_frozen BK530.out 0;have hfz54_1 := blk_frozen BK530.out 1;have hfz54_2 := blk_frozen BK530.out 2;have hfz54_3 := blk_frozen BK530.out 3;have hfz54_4 := blk_frozen BK530.out 4));try go_wp2_with (first | (go_at_call 21;(with_reducible refine (q4_Height.calls t541 true _ A43.out).mono ?_);rintro e w' ⟨rfl,⟨nd,rfl⟩⟩;(try first | exact ⟨rfl,_,World.drewN_drewN _ _ _⟩ | exact ⟨rfl,_,Eq.trans (World.drewN_drewN _ _ _) (congrArg (World.drewN _) (Nat.add_assoc _ _ _))⟩);obtain ⟨Ao53,co53,eo53⟩ := Kd.R_slice HO538.out;subst eo53;obtain ⟨hcz54_0,hcz54_1,hcz54_2,hcz54_3,hcz54_4⟩ := cO5 BK530.out;have hfz54_0 := blk_frozen BK530.out 0;have hfz54_1 := blk_frozen BK530.out 1;have hfz54_2 := blk_frozen BK530.out 2;have hfz54_3 := blk_frozen BK530.out 3;have hfz54_4 := blk_frozen BK530.out 4)))
              go_meet
              case rel => exact ⟨_,(true),(by first | rfl | (simp;done) | (simp [*];done)),H',⟨by have := HJ3.out;first | omega | exact Nat.le_refl _⟩,⟨by (with_reducible repeat (first | apply Kd.R_alloc | apply Kd.R_drewN | apply Kd.R_drew));exact Kd.R_mono (Kd.R_far (p := ⟨gb544,1,none⟩) (Kd.R_far (p := ⟨gb544,0,none⟩) (Kd.R_types HO538.out BK544.out (by decide)) (fun _ hk => hk.2) (.int .i64 t541)) (fun _ hk => hk.2) (.int .i64 t542)) (fun _ hk => trivial)⟩,⟨by (with_reducible repeat (first | refine blk_drewN ?_ _ | refine blk_drew ?_ | refine blk_alloc ?_ _));refine blk_far ?_ NB530_544.out _;(with_reducible repeat (first | refine blk_drewN ?_ _ | refine blk_drew ?_ | refine blk_alloc ?_ _));refine blk_far ?_ NB530_544.out _;(with_reducible repeat (first | refine blk_drewN ?_ _ | refine blk_drew ?_ | refine blk_alloc ?_ _));exact BK530.out⟩,⟨by (with_reducible repeat (first | refine blk_drewN ?_ _ | refine blk_drew ?_ | refine blk_alloc ?_ _));refine blk_put (cs := #[.int .i64 t541,.int .i64 0]) ?_ 1 _ rfl;(with_reducible repeat (first | refine blk_drewN ?_ _ | refine blk_drew ?_ | refine blk_alloc ?_ _));refine blk_put (cs := #[.int .i64 0,.int .i64 0]) ?_ 0 _ rfl;(with_reducible repeat (first | refine blk_drewN ?_ _ | refine blk_drew ?_ | refine blk_alloc ?_ _));exact BK544.out⟩,⟨by repeat (first | (with_reducible first | exact HB.out | refine below_set ?_ (Aside0.out (by assumption)) | apply below_alloc | apply pw_below_drewN) | exact HB.out)⟩⟩
             as_aux_lemma =>
              rw [if_pos c45] at H
              have c45b0 : ((t536.length : Int) == (l0_2.length : Int)) = true := beq_iff_eq.mpr c45
              have c45b1 : ((t536.length : Int) != (l0_2.length : Int)) = false := bne_eq_false_iff_eq.mpr c45
              have c45b2 : (t536.length == l0_2.length) = true := by first | simpa using c45 | (simp at c45 ⊢;omega)
              clear c45
              replace H := obm H
              obtain ⟨t546,A460,H⟩ := H
              replace H : (l4_CastleKept.j1 kj3 a1 a2 t536 t539 (!t546) l0_0 a0_1 l0_2 a0_3 a0_4 t541 t542) = some r := H
              have A46 := am A460
              clear A460
              replace H' := am H
              have hnb47 := NB544_530.out
              have hnc47 := NB530_544.out
              obtain ⟨hcz48_0,hcz48_1⟩ := cO2 BK544.out
              have hfz48_0 := blk_frozen BK544.out 0
              have hfz48_1 := blk_frozen BK544.out 1
              go_wp2_with (first | (go_at_call 21;(with_reducible refine (q4_Height.calls t541 true _ A43.out).mono ?_);rintro e w' ⟨rfl,⟨nd,rfl⟩⟩;(try first | exact ⟨rfl,_,World.drewN_drewN _ _ _⟩ | exact ⟨rfl,_,Eq.trans (World.drewN_drewN _ _ _) (congrArg (World.drewN _) (Nat.add_assoc _ _ _))⟩);obtain ⟨Ao49,co49,eo49⟩ := Kd.R_slice HO538.out;subst eo49;obtain ⟨hcz50_0,hcz50_1,hcz50_2,hcz50_3,hcz50_4⟩ := cO5 BK530.out;have hfz50_0 := blk_frozen BK530.out 0;have hfz50_1 := blk_frozen BK530.out 1;have hfz50_2 := blk_frozen BK530.out 2;have hfz50_3 := blk_frozen BK530.out 3;have hfz50_4 := blk_frozen BK530.out 4) | (go_at_call 18;(with_reducible refine (q4_Cups.calls t539 t546 _ A46.out).mono ?_);rintro e w' ⟨rfl,⟨nd,rfl⟩⟩;(try first | exact ⟨rfl,_,World.drewN_drewN _ _ _⟩ | exact ⟨rfl,_,Eq.trans (World.drewN_drewN _ _ _) (congrArg (World.drewN _) (Nat.add_assoc _ _ _))⟩)))
              repeat (go_quiet (first | (go_at_call 21;(with_reducible refine (q4_Height.calls t541 true _ A43.out).mono ?_);rintro e w' ⟨rfl,⟨nd,rfl⟩⟩;(try first | exact ⟨rfl,_,World.drewN_drewN _ _ _⟩ | exact ⟨rfl,_,Eq.trans (World.drewN_drewN _ _ _) (congrArg (World.drewN _) (Nat.add_assoc _ _ _))⟩);obtain ⟨Ao49,co49,eo49⟩ := Kd.R_slice HO538.out;subst eo49;obtain ⟨hcz50_0,hcz50_1,hcz50_2,hcz50_3,hcz50_4⟩ := cO5 BK530.out;have hfz50_0 := blk_frozen BK530.out 0;have hfz50_1 := blk_frozen BK530.out 1;have hfz50_2 := blk_frozen BK530.out 2;have hfz50_3 := blk_frozen BK530.out 3;have hfz50_4 := blk_frozen BK530.out 4) | (go_at_call 18;(with_reducible refine (q4_Cups.calls t539 t546 _ A46.out).mono ?_);rintro e w' ⟨rfl,⟨nd,rfl⟩⟩;(try first | exact ⟨rfl,_,World.drewN_drewN _ _ _⟩ | exact ⟨rfl,_,Eq.trans (World.drewN_drewN _ _ _) (congrArg (World.drewN _) (Nat.add_assoc _ _ _))⟩)));try go_wp2_with (first | (go_at_call 21;(with_reducible refine (q4_Height.calls t541 true _ A43.out).mono ?_);rintro e w' ⟨rfl,⟨nd,rfl⟩⟩;(try first | exact ⟨rfl,_,World.drewN_drewN _ _ _⟩ | exact ⟨rfl,_,Eq.trans (World.drewN_drewN _ _ _) (congrArg (World.drewN _) (Nat.add_assoc _ _ _))⟩);obtain ⟨Ao49,co49,eo49⟩ := Kd.R_slice HO538.out;subst eo49;obtain ⟨hcz50_0,hcz50_1,hcz50_2,hcz50_3,hcz50_4⟩ := cO5 BK530.out;have hfz50_0 := blk_frozen BK530.out 0;have hfz50_1 := blk_frozen BK530.out 1;have hfz50_2 := blk_frozen BK530.out 2;have hfz50_3 := blk_frozen BK530.out 3;have hfz50_4 := blk_frozen BK530.out 4) | (go_at_call 18;(with_reducible refine (q4_Cups.calls t539 t546 _ A46.out).mono ?_);rintro e w' ⟨rfl,⟨nd,rfl⟩⟩;(try first | exact ⟨rfl,_,World.drewN_drewN _ _ _⟩ | exact ⟨rfl,_,Eq.trans (World.drewN_drewN _ _ _) (congrArg (World.drewN _) (Nat.add_assoc _ _ _))⟩))))
              go_meet
              case rel => exact ⟨_,(!t546),(by first | rfl | (simp;done) | (simp [*];done)),H',⟨by have := HJ3.out;first | omega | exact Nat.le_refl _⟩,⟨by (with_reducible repeat (first | apply Kd.R_alloc | apply Kd.R_drewN | apply Kd.R_drew));exact Kd.R_mono (Kd.R_far (p := ⟨gb544,1,none⟩) (Kd.R_far (p := ⟨gb544,0,none⟩) (Kd.R_types HO538.out BK544.out (by decide)) (fun _ hk => hk.2) (.int .i64 t541)) (fun _ hk => hk.2) (.int .i64 t542)) (fun _ hk => trivial)⟩,⟨by (with_reducible repeat (first | refine blk_drewN ?_ _ | refine blk_drew ?_ | refine blk_alloc ?_ _));refine blk_far ?_ NB530_544.out _;(with_reducible repeat (first | refine blk_drewN ?_ _ | refine blk_drew ?_ | refine blk_alloc ?_ _));refine blk_far ?_ NB530_544.out _;(with_reducible repeat (first | refine blk_drewN ?_ _ | refine blk_drew ?_ | refine blk_alloc ?_ _));exact BK530.out⟩,⟨by (with_reducible repeat (first | refine blk_drewN ?_ _ | refine blk_drew ?_ | refine blk_alloc ?_ _));refine blk_put (cs := #[.int .i64 t541,.int .i64 0]) ?_ 1 _ rfl;(with_reducible repeat (first | refine blk_drewN ?_ _ | refine blk_drew ?_ | refine blk_alloc ?_ _));refine blk_put (cs := #[.int .i64 0,.int .i64 0]) ?_ 0 _ rfl;(with_reducible repeat (first | refine blk_drewN ?_ _ | refine blk_drew ?_ | refine blk_alloc ?_ _));exact BK544.out⟩,⟨by repeat (first | (with_reducible first | exact HB.out | refine below_set ?_ (Aside0.out (by assumption)) | apply below_alloc | apply pw_below_drewN) | exact HB.out)⟩⟩
       case rest =>
        as_aux_lemma =>
         clear HC32
         try clear c1
         try clear c2
         try clear p2
         try clear c3
         try clear c4
         try clear c5
         try clear c7
         try clear c9
         try clear c11
         try clear c27
         try clear c38
         try clear c40
         try clear c40b0
         try clear c40b1
         try clear c41
         try clear c41b0
         try clear c41b1
         try clear c42
         try clear c42b0
         try clear c42b1
         try clear c44
         try clear c45
         try clear c45b0
         try clear c45b1
         try clear c45b2
         try clear c47
         try clear c51
         try clear c55
         try clear c57
         try clear hcz13_0
         try clear hcz13_1
         try clear hcz13_2
         try clear hcz13_3
         try clear hcz13_4
         try clear hcz15_0
         try clear hcz15_1
         try clear hcz15_2
         try clear hcz15_3
         try clear hcz15_4
         try clear hcz17_0
         try clear hcz17_1
         try clear hcz17_2
         try clear hcz17_3
         try clear hcz17_4
         try clear hcz19_0
         try clear hcz19_1
         try clear hcz19_2
         try clear hcz19_3
         try clear hcz19_4
         try clear hcz21_0
         try clear hcz21_1
         try clear hcz21_2
         try clear hcz21_3
         try clear hcz21_4
         try clear hcz23_0
         try clear hcz23_1
         try clear hcz23_2
         try clear hcz23_3
         try clear hcz23_4
         try clear hcz25_0
         try clear hcz25_1
         try clear hcz25_2
         try clear hcz25_3
         try clear hcz25_4
         try clear hcz33_0
         try clear hcz33_1
         try clear hcz33_2
         try clear hcz33_3
         try clear hcz33_4
         try clear hcz35_0
         try clear hcz35_1
         try clear hcz35_2
         try clear hcz35_3
         try clear hcz35_4
         try clear hcz39_0
         try clear hcz39_1
         try clear hcz48_0
         try clear hcz48_1
         try clear hcz50_0
         try clear hcz50_1
         try clear hcz50_2
         try clear hcz50_3
         try clear hcz50_4
         try clear hcz52_0
         try clear hcz52_1
         try clear hcz54_0
         try clear hcz54_1
         try clear hcz54_2
         try clear hcz54_3
         try clear hcz54_4
         try clear hcz56_0
         try clear hcz56_1
         try clear hcz58_0
         try clear hcz58_1
         try clear hfz13_0
         try clear hfz13_1
         try clear hfz13_2
         try clear hfz13_3
         try clear hfz13_4
         try clear hfz15_0
         try clear hfz15_1
         try clear hfz15_2
         try clear hfz15_3
         try clear hfz15_4
         try clear hfz17_0
         try clear hfz17_1
         try clear hfz17_2
         try clear hfz17_3
         try clear hfz17_4
         try clear hfz19_0
         try clear hfz19_1
         try clear hfz19_2
         try clear hfz19_3
         try clear hfz19_4
         try clear hfz21_0
         try clear hfz21_1
         try clear hfz21_2
         try clear hfz21_3
         try clear hfz21_4
         try clear hfz23_0
         try clear hfz23_1
         try clear hfz23_2
         try clear hfz23_3
         try clear hfz23_4
         try clear hfz25_0
         try clear hfz25_1
         try clear hfz25_2
         try clear hfz25_3
         try clear hfz25_4
         try clear hfz33_0
         try clear hfz33_1
         try clear hfz33_2
         try clear hfz33_3
         try clear hfz33_4
         try clear hfz35_0
         try clear hfz35_1
         try clear hfz35_2
         try clear hfz35_3
         try clear hfz35_4
         try clear hfz39_0
         try clear hfz39_1
         try clear hfz48_0
         try clear hfz48_1
         try clear hfz50_0
         try clear hfz50_1
         try clear hfz50_2
         try clear hfz50_3
         try clear hfz50_4
         try clear hfz52_0
         try clear hfz52_1
         try clear hfz54_0
         try clear hfz54_1
         try clear hfz54_2
         try clear hfz54_3
         try clear hfz54_4
         try clear hfz56_0
         try clear hfz56_1
         try clear hfz58_0
         try clear hfz58_1
         try clear p2
         obtain ⟨kq,x90_31,rfl,HA,HJ31,HO_7,BK530,BK544,HB⟩ := hcut
         cases kq with
         | zero => exact absurd HA.out (by simp [l4_CastleKept.j1])
         | succ kj31 =>
          have H := HA.out
          clear HA
          simp only [l4_CastleKept.j1] at H
          by_cases c59 : x90_31 = true
          · subst c59
            replace H : (none) = some r := by rw [if_pos rfl] at H;exact H
            exact absurd H (by simp)
          · as_aux_lemma =>
             replace c59 := Bool.eq_false_iff.mpr c59
             subst c59
             replace H : ((l4_sum.f kj31 t536).bind fun t547 => (if t547 < 0 then (l4_CastleKept.j2 kj31 a1 a2 t536 true l0_0 a0_1 l0_2 a0_3 a0_4 t541 t542) else (l4_CastleKept.j2 kj31 a1 a2 t536 ((wrap64 (t547 + t539)) != a1) l0_0 a0_1 l0_2 a0_3 a0_4 t541 t542))) = some r := by rw [if_neg (show ¬ (false = true) by decide)] at H;exact H
             replace H := obm H
             obtain ⟨t547,A600,H⟩ := H
             replace H : (if t547 < 0 then (l4_CastleKept.j2 kj31 a1 a2 t536 true l0_0 a0_1 l0_2 a0_3 a0_4 t541 t542) else (l4_CastleKept.j2 kj31 a1 a2 t536 ((wrap64 (t547 + t539)) != a1) l0_0 a0_1 l0_2 a0_3 a0_4 t541 t542)) = some r := H
             have A60 := am A600
             clear A600
             have HC61 := am H
             clear H
             obtain ⟨Ao62,co62,eo62⟩ := Kd.R_slice HO_7.out
             subst eo62
             go_upto_region 8 with (first | (go_at_call 23;(with_reducible refine (l4_sum.calls kj31 _ _ t536 t547 _ ?side1 ?side2 A60.out).mono ?_);(case side1 => repeat (first | exact (Kd.R_reads' HO_7.out).2.2 | (with_reducible refine Kd.C_alloc ?_ _) | (with_reducible refine Kd.C_drewN ?_ _) | (with_reducible refine Kd.C_drew ?_)));(case side2 => exact (Kd.R_reads' HO_7.out).2.1);rintro e w' ⟨rfl,⟨nd,rfl⟩⟩;(try first | exact ⟨rfl,_,World.drewN_drewN _ _ _⟩ | exact ⟨rfl,_,Eq.trans (World.drewN_drewN _ _ _) (congrArg (World.drewN _) (Nat.add_assoc _ _ _))⟩)))
             repeat (go_quiet (first | (go_at_call 23;(with_reducible refine (l4_sum.calls kj31 _ _ t536 t547 _ ?side1 ?side2 A60.out).mono ?_);(case side1 => repeat (first | exact (Kd.R_reads' HO_7.out).2.2 | (with_reducible refine Kd.C_alloc ?_ _) | (with_reducible refine Kd.C_drewN ?_ _) | (with_reducible refine Kd.C_drew ?_)));(case side2 => exact (Kd.R_reads' HO_7.out).2.1);rintro e w' ⟨rfl,⟨nd,rfl⟩⟩;(try first | exact ⟨rfl,_,World.drewN_drewN _ _ _⟩ | exact ⟨rfl,_,Eq.trans (World.drewN_drewN _ _ _) (congrArg (World.drewN _) (Nat.add_assoc _ _ _))⟩)));go_upto_region 8 with (first | (go_at_call 23;(with_reducible refine (l4_sum.calls kj31 _ _ t536 t547 _ ?side1 ?side2 A60.out).mono ?_);(case side1 => repeat (first | exact (Kd.R_reads' HO_7.out).2.2 | (with_reducible refine Kd.C_alloc ?_ _) | (with_reducible refine Kd.C_drewN ?_ _) | (with_reducible refine Kd.C_drew ?_)));(case side2 => exact (Kd.R_reads' HO_7.out).2.1);rintro e w' ⟨rfl,⟨nd,rfl⟩⟩;(try first | exact ⟨rfl,_,World.drewN_drewN _ _ _⟩ | exact ⟨rfl,_,Eq.trans (World.drewN_drewN _ _ _) (congrArg (World.drewN _) (Nat.add_assoc _ _ _))⟩))))
             (try simp only [Act.put,List.setIfInBounds_toArray,List.set_cons_zero,List.set_cons_succ])
             go_cut [101] (fun v101 wc => ∃ (kq : Nat) (x101_60 : Bool),v101 = .bool x101_60 ∧ Aside0 (l4_CastleKept.j2 kq a1 a2 t536 x101_60 l0_0 a0_1 l0_2 a0_3 a0_4 t541 t542 = some r) ∧ Aside0 (kq ≤ kj31) ∧ Aside0 (Kd.R (Kd.int .i64) 3 wc w.heap.size (fun _ => True) (.slice Ao62 t536.length co62) t536) ∧ Aside0 (wc.heap[gb530]? = some (.cells #[(.slice A0_0 l0_0.length c0_0),.int .i64 a0_1,(.slice A0_2 l0_2.length c0_2),.int .i64 a0_3,.int .i64 a0_4] 27 (0,0))) ∧ Aside0 (wc.heap[gb544]? = some (.cells #[.int .i64 t541,.int .i64 t542] 40 (0,0))) ∧ Aside0 (Below w.heap.size w wc))
             case first =>
              as_aux_lemma =>
               have H := HC61.out
               clear HC61
               by_cases c63 : t547 < 0
               · rw [if_pos c63] at H
                 have c63b0 : decide (t547 < 0) = true := decide_eq_true c63
                 clear c63
                 (first | rw [c63b0] | (simp only [i64_w,i32_w];rw [c63b0]) | skip)
                 replace H' := am H
                 go_wp2
                 repeat (go_quiet (fail);try go_wp2)
                 go_meet
                 case rel => exact ⟨_,(true),(by first | rfl | (simp;done) | (simp [*];done)),H',⟨by have := HJ3.out;have := HJ31.out;first | omega | exact Nat.le_refl _⟩,⟨by (with_reducible repeat (first | apply Kd.R_alloc | apply Kd.R_drewN | apply Kd.R_drew));exact HO_7.out⟩,⟨by (with_reducible repeat (first | refine blk_drewN ?_ _ | refine blk_drew ?_ | refine blk_alloc ?_ _));exact BK530.out⟩,⟨by (with_reducible repeat (first | refine blk_drewN ?_ _ | refine blk_drew ?_ | refine blk_alloc ?_ _));exact BK544.out⟩,⟨by repeat (first | (with_reducible first | exact HB.out | refine below_set ?_ (Aside0.out (by assumption)) | apply below_alloc | apply pw_below_drewN) | exact HB.out)⟩⟩
               · rw [if_neg c63] at H
                 have c63b0 : decide (t547 < 0) = false := decide_eq_false c63
                 clear c63
                 (first | rw [c63b0] | (simp only [i64_w,i32_w];rw [c63b0]) | skip)
                 replace H' := am H
                 go_wp2
                 repeat (go_quiet (fail);try go_wp2)
                 go_meet
                 case rel => exact ⟨_,(((wrap64 (t547 + t539)) != a1)),(by first | rfl | (simp;done) | (simp [*];done)),H',⟨by have := HJ3.out;have := HJ31.out;first | omega | exact Nat.le_refl _⟩,⟨by (with_reducible repeat (first | apply Kd.R_alloc | apply Kd.R_drewN | apply Kd.R_drew));exact HO_7.out⟩,⟨by (with_reducible repeat (first | refine blk_drewN ?_ _ | refine blk_drew ?_ | refine blk_alloc ?_ _));exact BK530.out⟩,⟨by (with_reducible repeat (first | refine blk_drewN ?_ _ | refine blk_drew ?_ | refine blk_alloc ?_ _));exact BK544.out⟩,⟨by repeat (first | (with_reducible first | exact HB.out | refine below_set ?_ (Aside0.out (by assumption)) | apply below_alloc | apply pw_below_drewN) | exact HB.out)⟩⟩
             case rest =>
              as_aux_lemma =>
               clear HC61
               try clear c1
               try clear c2
               try clear p2
               try clear c3
               try clear c4
               try clear c5
               try clear c6
               try clear p6
               try clear c7
               try clear c9
               try clear c11
               try clear c27
               try clear c38
               try clear c40
               try clear c40b0
               try clear c40b1
               try clear c41
               try clear c41b0
               try clear c41b1
               try clear c42
               try clear c42b0
               try clear c42b1
               try clear c44
               try clear c45
               try clear c45b0
               try clear c45b1
               try clear c45b2
               try clear c47
               try clear c51
               try clear c55
               try clear c57
               try clear c59
               try clear c63
               try clear c63b0
               try clear hcz13_0
               try clear hcz13_1
               try clear hcz13_2
               try clear hcz13_3
               try clear hcz13_4
               try clear hcz15_0
               try clear hcz15_1
               try clear hcz15_2
               try clear hcz15_3
               try clear hcz15_4
               try clear hcz17_0
               try clear hcz17_1
               try clear hcz17_2
               try clear hcz17_3
               try clear hcz17_4
               try clear hcz19_0
               try clear hcz19_1
               try clear hcz19_2
               try clear hcz19_3
               try clear hcz19_4
               try clear hcz21_0
               try clear hcz21_1
               try clear hcz21_2
               try clear hcz21_3
               try clear hcz21_4
               try clear hcz23_0
               try clear hcz23_1
               try clear hcz23_2
               try clear hcz23_3
               try clear hcz23_4
               try clear hcz25_0
               try clear hcz25_1
               try clear hcz25_2
               try clear hcz25_3
               try clear hcz25_4
               try clear hcz33_0
               try clear hcz33_1
               try clear hcz33_2
               try clear hcz33_3
               try clear hcz33_4
               try clear hcz35_0
               try clear hcz35_1
               try clear hcz35_2
               try clear hcz35_3
               try clear hcz35_4
               try clear hcz39_0
               try clear hcz39_1
               try clear hcz48_0
               try clear hcz48_1
               try clear hcz50_0
               try clear hcz50_1
               try clear hcz50_2
               try clear hcz50_3
               try clear hcz50_4
               try clear hcz52_0
               try clear hcz52_1
               try clear hcz54_0
               try clear hcz54_1
               try clear hcz54_2
               try clear hcz54_3
               try clear hcz54_4
               try clear hcz56_0
               try clear hcz56_1
               try clear hcz58_0
               try clear hcz58_1
               try clear hfz13_0
               try clear hfz13_1
               try clear hfz13_2
               try clear hfz13_3
               try clear hfz13_4
               try clear hfz15_0
               try clear hfz15_1
               try clear hfz15_2
               try clear hfz15_3
               try clear hfz15_4
               try clear hfz17_0
               try clear hfz17_1
               try clear hfz17_2
               try clear hfz17_3
               try clear hfz17_4
               try clear hfz19_0
               try clear hfz19_1
               try clear hfz19_2
               try clear hfz19_3
               try clear hfz19_4
               try clear hfz21_0
               try clear hfz21_1
               try clear hfz21_2
               try clear hfz21_3
               try clear hfz21_4
               try clear hfz23_0
               try clear hfz23_1
               try clear hfz23_2
               try clear hfz23_3
               try clear hfz23_4
               try clear hfz25_0
               try clear hfz25_1
               try clear hfz25_2
               try clear hfz25_3
               try clear hfz25_4
               try clear hfz33_0
               try clear hfz33_1
               try clear hfz33_2
               try clear hfz33_3
               try clear hfz33_4
               try clear hfz35_0
               try clear hfz35_1
               try clear hfz35_2
               try clear hfz35_3
               try clear hfz35_4
               try clear hfz39_0
               try clear hfz39_1
               try clear hfz48_0
               try clear hfz48_1
               try clear hfz50_0
               try clear hfz50_1
               try clear hfz50_2
               try clear hfz50_3
               try clear hfz50_4
               try clear hfz52_0
               try clear hfz52_1
               try clear hfz54_0
               try clear hfz54_1
               try clear hfz54_2
               try clear hfz54_3
               try clear hfz54_4
               try clear hfz56_0
               try clear hfz56_1
               try clear hfz58_0
               try clear hfz58_1
               try clear p2
               obtain ⟨kq,x101_60,rfl,HA,HJ60,HO_7,BK530,BK544,HB⟩ := hcut
               cases kq with
               | zero => exact absurd HA.out (by simp [l4_CastleKept.j2])
               | succ kj60 =>
                have H := HA.out
                clear HA
                simp only [l4_CastleKept.j2] at H
                by_cases c64 : x101_60 = true
                · subst c64
                  replace H : (none) = some r := by rw [if_pos rfl] at H;exact H
                  exact absurd H (by simp)
                · as_aux_lemma =>
                   replace c64 := Bool.eq_false_iff.mpr c64
                   subst c64
                   replace H : ((ca_Out.f kj60 l0_0 a0_1 l0_2 a0_3 a0_4 a2).bind fun bt548 => (if bt548.2.2 = 0 then ((q4_Cups.f bt548.2.1).bind fun t553 => (l4_CastleKept.j3 kj60 a1 a2 t536 bt548.1 bt548.2.1 (!t553) l0_0 a0_1 l0_2 a0_3 a0_4 t541 t542)) else (l4_CastleKept.j3 kj60 a1 a2 t536 bt548.1 bt548.2.1 true l0_0 a0_1 l0_2 a0_3 a0_4 t541 t542))) = some r := by rw [if_neg (show ¬ (false = true) by decide)] at H;exact H
                   replace H := obm H
                   obtain ⟨⟨t548,t551,t552⟩,A650,H⟩ := H
                   replace H : (if t552 = 0 then ((q4_Cups.f t551).bind fun t553 => (l4_CastleKept.j3 kj60 a1 a2 t536 t548 t551 (!t553) l0_0 a0_1 l0_2 a0_3 a0_4 t541 t542)) else (l4_CastleKept.j3 kj60 a1 a2 t536 t548 t551 true l0_0 a0_1 l0_2 a0_3 a0_4 t541 t542)) = some r := H
                   have A65 := am A650
                   clear A650
                   have HC66 := am H
                   clear H
                   have hnb67 := NB530_544.out
                   have hnc67 := NB544_530.out
                   obtain ⟨hcz68_0,hcz68_1,hcz68_2,hcz68_3,hcz68_4⟩ := cO5 BK530.out
                   have hfz68_0 := blk_frozen BK530.out 0
                   have hfz68_1 := blk_frozen BK530.out 1
                   have hfz68_2 := blk_frozen BK530.out 2
                   have hfz68_3 := blk_frozen BK530.out 3
                   have hfz68_4 := blk_frozen BK530.out 4
                   go_upto_region 11 with (first | (go_at_call 24;(with_reducible refine (ca_Out.calls kj60 _ _ l0_0 a0_1 _ _ l0_2 a0_3 a0_4 a2 t548 t551 t552 _ ?side1 ?side2 ?side3 ?side4 A65.out).mono ?_);(case side1 => repeat (first | exact (kC HR0_0.out HB.out) | (with_reducible refine Kd.C_alloc ?_ _) | (with_reducible refine Kd.C_drewN ?_ _) | (with_reducible refine Kd.C_drew ?_)));(case side2 => exact HC0_0.out);(case side3 => repeat (first | exact (kC HR0_2.out HB.out) | (with_reducible refine Kd.C_alloc ?_ _) | (with_reducible refine Kd.C_drewN ?_ _) | (with_reducible refine Kd.C_drew ?_)));(case side4 => exact HC0_2.out);rintro e w69 ⟨v549,rfl,ho0,hb⟩;have HO550 := am (Kd.R_lower (Kd.R_new' ho0 (Kd.R_lt (by (with_reducible repeat (first | apply Kd.R_alloc | apply Kd.R_drewN | apply Kd.R_drew));exact HO_7.out))) (below_size (by repeat (first | (with_reducible first | exact HB.out | refine below_set ?_ (Aside0.out (by assumption)) | apply below_alloc | apply pw_below_drewN) | exact HB.out))));replace HO_7 := am (Kd.R_elder' (by (with_reducible repeat (first | apply Kd.R_alloc | apply Kd.R_drewN | apply Kd.R_drew));exact HO_7.out) (Kd.R_base ho0) hb);replace BK530 := am (blk_below (g := gb530) (o := .cells #[.slice A0_0 l0_0.length c0_0,.int .i64 a0_1,.slice A0_2 l0_2.length c0_2,.int .i64 a0_3,.int .i64 a0_4] 27 (0,0)) (by (with_reducible repeat (first | refine blk_drewN ?_ _ | refine blk_drew ?_ | refine blk_alloc ?_ _));exact BK530.out) hb);replace BK544 := am (blk_below (g := gb544) (o := .cells #[.int .i64 t541,.int .i64 t542] 40 (0,0)) (by (with_reducible repeat (first | refine blk_drewN ?_ _ | refine blk_drew ?_ | refine blk_alloc ?_ _));exact BK544.out) hb);replace HB := am (below_step (by repeat (first | (with_reducible first | exact HB.out | refine below_set ?_ (Aside0.out (by assumption)) | apply below_alloc | apply pw_below_drewN) | exact HB.out)) hb);(try clear hb);(try clear hb2);(try clear hk);(try clear hi);(try clear ho0)))
                   repeat (go_quiet (first | (go_at_call 24;(with_reducible refine (ca_Out.calls kj60 _ _ l0_0 a0_1 _ _ l0_2 a0_3 a0_4 a2 t548 t551 t552 _ ?side1 ?side2 ?side3 ?side4 A65.out).mono ?_);(case side1 => repeat (first | exact (kC HR0_0.out HB.out) | (with_reducible refine Kd.C_alloc ?_ _) | (with_reducible refine Kd.C_drewN ?_ _) | (with_reducible refine Kd.C_drew ?_)));(case side2 => exact HC0_0.out);(case side3 => repeat (first | exact (kC HR0_2.out HB.out) | (with_reducible refine Kd.C_alloc ?_ _) | (with_reducible refine Kd.C_drewN ?_ _) | (with_reducible refine Kd.C_drew ?_)));(case side4 => exact HC0_2.out);rintro e w69 ⟨v549,rfl,ho0,hb⟩;have HO550 := am (Kd.R_lower (Kd.R_new' ho0 (Kd.R_lt (by (with_reducible repeat (first | apply Kd.R_alloc | apply Kd.R_drewN | apply Kd.R_drew));exact HO_7.out))) (below_size (by repeat (first | (with_reducible first | exact HB.out | refine below_set ?_ (Aside0.out (by assumption)) | apply below_alloc | apply pw_below_drewN) | exact HB.out))));replace HO_7 := am (Kd.R_elder' (by (with_reducible repeat (first | apply Kd.R_alloc | apply Kd.R_drewN | apply Kd.R_drew));exact HO_7.out) (Kd.R_base ho0) hb);replace BK530 := am (blk_below (g := gb530) (o := .cells #[.slice A0_0 l0_0.length c0_0,.int .i64 a0_1,.slice A0_2 l0_2.length c0_2,.int .i64 a0_3,.int .i64 a0_4] 27 (0,0)) (by (with_reducible repeat (first | refine blk_drewN ?_ _ | refine blk_drew ?_ | refine blk_alloc ?_ _));exact BK530.out) hb);replace BK544 := am (blk_below (g := gb544) (o := .cells #[.int .i64 t541,.int .i64 t542] 40 (0,0)) (by (with_reducible repeat (first | refine blk_drewN ?_ _ | refine blk_drew ?_ | refine blk_alloc ?_ _));exact BK544.out) hb);replace HB := am (below_step (by repeat (first | (with_reducible first | exact HB.out | refine below_set ?_ (Aside0.out (by assumption)) | apply below_alloc | apply pw_below_drewN) | exact HB.out)) hb);(try clear hb);(try clear hb2);(try clear hk);(try clear hi);(try clear ho0)));go_upto_region 11 with (first | (go_at_call 24;(with_reducible refine (ca_Out.calls kj60 _ _ l0_0 a0_1 _ _ l0_2 a0_3 a0_4 a2 t548 t551 t552 _ ?side1 ?side2 ?side3 ?side4 A65.out).mono ?_);(case side1 => repeat (first | exact (kC HR0_0.out HB.out) | (with_reducible refine Kd.C_alloc ?_ _) | (with_reducible refine Kd.C_drewN ?_ _) | (with_reducible refine Kd.C_drew ?_)));(case side2 => exact HC0_0.out);(case side3 => repeat (first | exact (kC HR0_2.out HB.out) | (with_reducible refine Kd.C_alloc ?_ _) | (with_reducible refine Kd.C_drewN ?_ _) | (with_reducible refine Kd.C_drew ?_)));(case side4 => exact HC0_2.out);rintro e w69 ⟨v549,rfl,ho0,hb⟩;have HO550 := am (Kd.R_lower (Kd.R_new' ho0 (Kd.R_lt (by (with_reducible repeat (first | apply Kd.R_alloc | apply Kd.R_drewN | apply Kd.R_drew));exact HO_7.out))) (below_size (by repeat (first | (with_reducible first | exact HB.out | refine below_set ?_ (Aside0.out (by assumption)) | apply below_alloc | apply pw_below_drewN) | exact HB.out))));replace HO_7 := am (Kd.R_elder' (by (with_reducible repeat (first | apply Kd.R_alloc | apply Kd.R_drewN | apply Kd.R_drew));exact HO_7.out) (Kd.R_base ho0) hb);replace BK530 := am (blk_below (g := gb530) (o := .cells #[.slice A0_0 l0_0.length c0_0,.int .i64 a0_1,.slice A0_2 l0_2.length c0_2,.int .i64 a0_3,.int .i64 a0_4] 27 (0,0)) (by (with_reducible repeat (first | refine blk_drewN ?_ _ | refine blk_drew ?_ | refine blk_alloc ?_ _));exact BK530.out) hb);replace BK544 := am (blk_below (g := gb544) (o := .cells #[.int .i64 t541,.int .i64 t542] 40 (0,0)) (by (with_reducible repeat (first | refine blk_drewN ?_ _ | refine blk_drew ?_ | refine blk_alloc ?_ _));exact BK544.out) hb);replace HB := am (below_step (by repeat (first | (with_reducible first | exact HB.out | refine below_set ?_ (Aside0.out (by assumption)) | apply below_alloc | apply pw_below_drewN) | exact HB.out)) hb);(try clear hb);(try clear hb2);(try clear hk);(try clear hi);(try clear ho0))))
                   (try simp only [Act.put,List.setIfInBounds_toArray,List.set_cons_zero,List.set_cons_succ])
                   go_cut [115] (fun v115 wc => ∃ (kq : Nat) (x115_65 : Bool),v115 = .bool x115_65 ∧ Aside0 (l4_CastleKept.j3 kq a1 a2 t536 t548 t551 x115_65 l0_0 a0_1 l0_2 a0_3 a0_4 t541 t542 = some r) ∧ Aside0 (kq ≤ kj60) ∧ Aside0 (Kd.R (Kd.int .i64) 3 wc w.heap.size (fun k_ => some k_ ≠ (v549 : Value).ownBlock) (.slice Ao62 t536.length co62) t536) ∧ Aside0 (Kd.R (Kd.int .i64) 3 wc w.heap.size (fun k_ => some k_ ≠ ((.slice Ao62 t536.length co62) : Value).ownBlock) v549 t548) ∧ Aside0 (wc.heap[gb530]? = some (.cells #[(.slice A0_0 l0_0.length c0_0),.int .i64 a0_1,(.slice A0_2 l0_2.length c0_2),.int .i64 a0_3,.int .i64 a0_4] 27 (0,0))) ∧ Aside0 (wc.heap[gb544]? = some (.cells #[.int .i64 t541,.int .i64 t542] 40 (0,0))) ∧ Aside0 (Below w.heap.size w wc))
                   case first =>
                    as_aux_lemma =>
                     have H := HC66.out
                     clear HC66
                     by_cases c70 : t552 = 0
                     case neg =>
                      rw [if_neg c70] at H
                      have c70b0 : (t552 == 0) = false := beq_eq_false_iff_ne.mpr c70
                      have c70b1 : (t552 != 0) = true := bne_iff_ne.mpr c70
                      (first | rw [c70b0] | (simp only [i64_w,i32_w];rw [c70b0]) | skip)
                      replace H' := am H
                      go_wp2
                      repeat (go_quiet (fail);try go_wp2)
                      go_meet
                      case rel => exact ⟨_,(true),(by first | rfl | (simp;done) | (simp [*];done)),H',⟨by have := HJ3.out;have := HJ31.out;have := HJ60.out;first | omega | exact Nat.le_refl _⟩,⟨by (with_reducible repeat (first | apply Kd.R_alloc | apply Kd.R_drewN | apply Kd.R_drew));exact Kd.R_mono HO_7.out (fun _ hk => hk.2)⟩,⟨by (with_reducible repeat (first | apply Kd.R_alloc | apply Kd.R_drewN | apply Kd.R_drew));exact Kd.R_mono HO550.out (fun _ hk => hk.2)⟩,⟨by (with_reducible repeat (first | refine blk_drewN ?_ _ | refine blk_drew ?_ | refine blk_alloc ?_ _));exact BK530.out⟩,⟨by (with_reducible repeat (first | refine blk_drewN ?_ _ | refine blk_drew ?_ | refine blk_alloc ?_ _));exact BK544.out⟩,⟨by repeat (first | (with_reducible first | exact HB.out | refine below_set ?_ (Aside0.out (by assumption)) | apply below_alloc | apply pw_below_drewN) | exact HB.out)⟩⟩
                     rw [if_pos c70] at H
                     have c70b0 : (t552 == 0) = true := beq_iff_eq.mpr c70
                     have c70b1 : (t552 != 0) = false := bne_eq_false_iff_eq.mpr c70
                     clear c70
                     (first | rw [c70b0] | (simp only [i64_w,i32_w];rw [c70b0]) | skip)
                     replace H := obm H
                     obtain ⟨t553,A710,H⟩ := H
                     replace H : (l4_CastleKept.j3 kj60 a1 a2 t536 t548 t551 (!t553) l0_0 a0_1 l0_2 a0_3 a0_4 t541 t542) = some r := H
                     have A71 := am A710
                     clear A710
                     replace H' := am H
                     go_wp2_with (first | (go_at_call 18;(with_reducible refine (q4_Cups.calls t551 t553 _ A71.out).mono ?_);rintro e w' ⟨rfl,⟨nd,rfl⟩⟩;(try first | exact ⟨rfl,_,World.drewN_drewN _ _ _⟩ | exact ⟨rfl,_,Eq.trans (World.drewN_drewN _ _ _) (congrArg (World.drewN _) (Nat.add_assoc _ _ _))⟩)))
                     repeat (go_quiet (first | (go_at_call 18;(with_reducible refine (q4_Cups.calls t551 t553 _ A71.out).mono ?_);rintro e w' ⟨rfl,⟨nd,rfl⟩⟩;(try first | exact ⟨rfl,_,World.drewN_drewN _ _ _⟩ | exact ⟨rfl,_,Eq.trans (World.drewN_drewN _ _ _) (congrArg (World.drewN _) (Nat.add_assoc _ _ _))⟩)));try go_wp2_with (first | (go_at_call 18;(with_reducible refine (q4_Cups.calls t551 t553 _ A71.out).mono ?_);rintro e w' ⟨rfl,⟨nd,rfl⟩⟩;(try first | exact ⟨rfl,_,World.drewN_drewN _ _ _⟩ | exact ⟨rfl,_,Eq.trans (World.drewN_drewN _ _ _) (congrArg (World.drewN _) (Nat.add_assoc _ _ _))⟩))))
                     go_meet
                     case rel => exact ⟨_,(!t553),(by first | rfl | (simp;done) | (simp [*];done)),H',⟨by have := HJ3.out;have := HJ31.out;have := HJ60.out;first | omega | exact Nat.le_refl _⟩,⟨by (with_reducible repeat (first | apply Kd.R_alloc | apply Kd.R_drewN | apply Kd.R_drew));exact Kd.R_mono HO_7.out (fun _ hk => hk.2)⟩,⟨by (with_reducible repeat (first | apply Kd.R_alloc | apply Kd.R_drewN | apply Kd.R_drew));exact Kd.R_mono HO550.out (fun _ hk => hk.2)⟩,⟨by (with_reducible repeat (first | refine blk_drewN ?_ _ | refine blk_drew ?_ | refine blk_alloc ?_ _));exact BK530.out⟩,⟨by (with_reducible repeat (first | refine blk_drewN ?_ _ | refine blk_drew ?_ | refine blk_alloc ?_ _));exact BK544.out⟩,⟨by repeat (first | (with_reducible first | exact HB.out | refine below_set ?_ (Aside0.out (by assumption)) | apply below_alloc | apply pw_below_drewN) | exact HB.out)⟩⟩
                   case rest =>
                    as_aux_lemma =>
                     clear HC66
                     try clear c1
                     try clear c2
                     try clear p2
                     try clear c3
                     try clear c4
                     try clear c5
                     try clear c6
                     try clear p6
                     try clear c7
                     try clear c9
                     try clear c11
                     try clear c27
                     try clear c38
                     try clear c40
                     try clear c40b0
                     try clear c40b1
                     try clear c41
                     try clear c41b0
                     try clear c41b1
                     try clear c42
                     try clear c42b0
                     try clear c42b1
                     try clear c44
                     try clear c45
                     try clear c45b0
                     try clear c45b1
                     try clear c45b2
                     try clear c47
                     try clear c51
                     try clear c55
                     try clear c57
                     try clear c59
                     try clear c63
                     try clear c63b0
                     try clear c64
                     try clear p64
                     try clear c67
                     try clear c70
                     try clear c70b0
                     try clear c70b1
                     try clear hcz13_0
                     try clear hcz13_1
                     try clear hcz13_2
                     try clear hcz13_3
                     try clear hcz13_4
                     try clear hcz15_0
                     try clear hcz15_1
                     try clear hcz15_2
                     try clear hcz15_3
                     try clear hcz15_4
                     try clear hcz17_0
                     try clear hcz17_1
                     try clear hcz17_2
                     try clear hcz17_3
                     try clear hcz17_4
                     try clear hcz19_0
                     try clear hcz19_1
                     try clear hcz19_2
                     try clear hcz19_3
                     try clear hcz19_4
                     try clear hcz21_0
                     try clear hcz21_1
                     try clear hcz21_2
                     try clear hcz21_3
                     try clear hcz21_4
                     try clear hcz23_0
                     try clear hcz23_1
                     try clear hcz23_2
                     try clear hcz23_3
                     try clear hcz23_4
                     try clear hcz25_0
                     try clear hcz25_1
                     try clear hcz25_2
                     try clear hcz25_3
                     try clear hcz25_4
                     try clear hcz33_0
                     try clear hcz33_1
                     try clear hcz33_2
                     try clear hcz33_3
                     try clear hcz33_4
                     try clear hcz35_0
                     try clear hcz35_1
                     try clear hcz35_2
                     try clear hcz35_3
                     try clear hcz35_4
                     try clear hcz39_0
                     try clear hcz39_1
                     try clear hcz48_0
                     try clear hcz48_1
                     try clear hcz50_0
                     try clear hcz50_1
                     try clear hcz50_2
                     try clear hcz50_3
                     try clear hcz50_4
                     try clear hcz52_0
                     try clear hcz52_1
                     try clear hcz54_0
                     try clear hcz54_1
                     try clear hcz54_2
                     try clear hcz54_3
                     try clear hcz54_4
                     try clear hcz56_0
                     try clear hcz56_1
                     try clear hcz58_0
                     try clear hcz58_1
                     try clear hcz68_0
                     try clear hcz68_1
                     try clear hcz68_2
                     try clear hcz68_3
                     try clear hcz68_4
                     try clear hfz13_0
                     try clear hfz13_1
                     try clear hfz13_2
                     try clear hfz13_3
                     try clear hfz13_4
                     try clear hfz15_0
                     try clear hfz15_1
                     try clear hfz15_2
                     try clear hfz15_3
                     try clear hfz15_4
                     try clear hfz17_0
                     try clear hfz17_1
                     try clear hfz17_2
                     try clear hfz17_3
                     try clear hfz17_4
                     try clear hfz19_0
                     try clear hfz19_1
                     try clear hfz19_2
                     try clear hfz19_3
                     try clear hfz19_4
                     try clear hfz21_0
                     try clear hfz21_1
                     try clear hfz21_2
                     try clear hfz21_3
                     try clear hfz21_4
                     try clear hfz23_0
                     try clear hfz23_1
                     try clear hfz23_2
                     try clear hfz23_3
                     try clear hfz23_4
                     try clear hfz25_0
                     try clear hfz25_1
                     try clear hfz25_2
                     try clear hfz25_3
                     try clear hfz25_4
                     try clear hfz33_0
                     try clear hfz33_1
                     try clear hfz33_2
                     try clear hfz33_3
                     try clear hfz33_4
                     try clear hfz35_0
                     try clear hfz35_1
                     try clear hfz35_2
                     try clear hfz35_3
                     try clear hfz35_4
                     try clear hfz39_0
                     try clear hfz39_1
                     try clear hfz48_0
                     try clear hfz48_1
                     try clear hfz50_0
                     try clear hfz50_1
                     try clear hfz50_2
                     try clear hfz50_3
                     try clear hfz50_4
                     try clear hfz52_0
                     try clear hfz52_1
                     try clear hfz54_0
                     try clear hfz54_1
                     try clear hfz54_2
                     try clear hfz54_3
                     try clear hfz54_4
                     try clear hfz56_0
                     try clear hfz56_1
                     try clear hfz58_0
                     try clear hfz58_1
                     try clear hfz68_0
                     try clear hfz68_1
                     try clear hfz68_2
                     try clear hfz68_3
                     try clear hfz68_4
                     try clear p2
                     try clear p6
                     obtain ⟨kq,x115_65,rfl,HA,HJ65,HO_7,HO_13,BK530,BK544,HB⟩ := hcut
                     cases kq with
                     | zero => exact absurd HA.out (by simp [l4_CastleKept.j3])
                     | succ kj65 =>
                      have H := HA.out
                      clear HA
                      simp only [l4_CastleKept.j3] at H
                      by_cases c72 : x115_65 = true
                      · subst c72
                        replace H : (none) = some r := by rw [if_pos rfl] at H;exact H
                        exact absurd H (by simp)
                      · as_aux_lemma =>
                         replace c72 := Bool.eq_false_iff.mpr c72
                         subst c72
                         replace H : ((l4_sum.f kj65 t548).bind fun t554 => (if t554 < 0 then (l4_CastleKept.j4 kj65 t536 true l0_0 a0_1 l0_2 a0_3 a0_4 t541 t542) else (l4_CastleKept.j4 kj65 t536 ((decide ((wrap64 (t554 + t551)) ≤ a1)) != (decide (a2 ≤ t541))) l0_0 a0_1 l0_2 a0_3 a0_4 t541 t542))) = some r := by rw [if_neg (show ¬ (false = true) by decide)] at H;exact H
                         replace H := obm H
                         obtain ⟨t554,A730,H⟩ := H
                         replace H : (if t554 < 0 then (l4_CastleKept.j4 kj65 t536 true l0_0 a0_1 l0_2 a0_3 a0_4 t541 t542) else (l4_CastleKept.j4 kj65 t536 ((decide ((wrap64 (t554 + t551)) ≤ a1)) != (decide (a2 ≤ t541))) l0_0 a0_1 l0_2 a0_3 a0_4 t541 t542)) = some r := H
                         have A73 := am A730
                         clear A730
                         have HC74 := am H
                         clear H
                         obtain ⟨Ao75,co75,eo75⟩ := Kd.R_slice HO_13.out
                         subst eo75
                         go_upto_region 14 with (first | (go_at_call 23;(with_reducible refine (l4_sum.calls kj65 _ _ t548 t554 _ ?side1 ?side2 A73.out).mono ?_);(case side1 => repeat (first | exact (Kd.R_reads' HO_13.out).2.2 | (with_reducible refine Kd.C_alloc ?_ _) | (with_reducible refine Kd.C_drewN ?_ _) | (with_reducible refine Kd.C_drew ?_)));(case side2 => exact (Kd.R_reads' HO_13.out).2.1);rintro e w' ⟨rfl,⟨nd,rfl⟩⟩;(try first | exact ⟨rfl,_,World.drewN_drewN _ _ _⟩ | exact ⟨rfl,_,Eq.trans (World.drewN_drewN _ _ _) (congrArg (World.drewN _) (Nat.add_assoc _ _ _))⟩)))
                         repeat (go_quiet (first | (go_at_call 23;(with_reducible refine (l4_sum.calls kj65 _ _ t548 t554 _ ?side1 ?side2 A73.out).mono ?_);(case side1 => repeat (first | exact (Kd.R_reads' HO_13.out).2.2 | (with_reducible refine Kd.C_alloc ?_ _) | (with_reducible refine Kd.C_drewN ?_ _) | (with_reducible refine Kd.C_drew ?_)));(case side2 => exact (Kd.R_reads' HO_13.out).2.1);rintro e w' ⟨rfl,⟨nd,rfl⟩⟩;(try first | exact ⟨rfl,_,World.drewN_drewN _ _ _⟩ | exact ⟨rfl,_,Eq.trans (World.drewN_drewN _ _ _) (congrArg (World.drewN _) (Nat.add_assoc _ _ _))⟩)));go_upto_region 14 with (first | (go_at_call 23;(with_reducible refine (l4_sum.calls kj65 _ _ t548 t554 _ ?side1 ?side2 A73.out).mono ?_);(case side1 => repeat (first | exact (Kd.R_reads' HO_13.out).2.2 | (with_reducible refine Kd.C_alloc ?_ _) | (with_reducible refine Kd.C_drewN ?_ _) | (with_reducible refine Kd.C_drew ?_)));(case side2 => exact (Kd.R_reads' HO_13.out).2.1);rintro e w' ⟨rfl,⟨nd,rfl⟩⟩;(try first | exact ⟨rfl,_,World.drewN_drewN _ _ _⟩ | exact ⟨rfl,_,Eq.trans (World.drewN_drewN _ _ _) (congrArg (World.drewN _) (Nat.add_assoc _ _ _))⟩))))
                         (try simp only [Act.put,List.setIfInBounds_toArray,List.set_cons_zero,List.set_cons_succ])
                         go_cut [131] (fun v131 wc => ∃ (kq : Nat) (x131_73 : Bool),v131 = .bool x131_73 ∧ Aside0 (l4_CastleKept.j4 kq t536 x131_73 l0_0 a0_1 l0_2 a0_3 a0_4 t541 t542 = some r) ∧ Aside0 (kq ≤ kj65) ∧ Aside0 (Kd.R (Kd.int .i64) 3 wc w.heap.size (fun _ => True) (.slice Ao62 t536.length co62) t536) ∧ Aside0 (wc.heap[gb530]? = some (.cells #[(.slice A0_0 l0_0.length c0_0),.int .i64 a0_1,(.slice A0_2 l0_2.length c0_2),.int .i64 a0_3,.int .i64 a0_4] 27 (0,0))) ∧ Aside0 (wc.heap[gb544]? = some (.cells #[.int .i64 t541,.int .i64 t542] 40 (0,0))) ∧ Aside0 (Below w.heap.size w wc))
                         case first =>
                          as_aux_lemma =>
                           have H := HC74.out
                           clear HC74
                           by_cases c76 : t554 < 0
                           · rw [if_pos c76] at H
                             have c76b0 : decide (t554 < 0) = true := decide_eq_true c76
                             clear c76
                             (first | rw [c76b0] | (simp only [i64_w,i32_w];rw [c76b0]) | skip)
                             replace H' := am H
                             go_wp2
                             repeat (go_quiet (fail);try go_wp2)
                             go_meet
                             case rel => exact ⟨_,(true),(by first | rfl | (simp;done) | (simp [*];done)),H',⟨by have := HJ3.out;have := HJ31.out;have := HJ60.out;have := HJ65.out;first | omega | exact Nat.le_refl _⟩,⟨by (with_reducible repeat (first | apply Kd.R_alloc | apply Kd.R_drewN | apply Kd.R_drew));exact Kd.R_mono HO_7.out (fun _ hk => trivial)⟩,⟨by (with_reducible repeat (first | refine blk_drewN ?_ _ | refine blk_drew ?_ | refine blk_alloc ?_ _));exact BK530.out⟩,⟨by (with_reducible repeat (first | refine blk_drewN ?_ _ | refine blk_drew ?_ | refine blk_alloc ?_ _));exact BK544.out⟩,⟨by repeat (first | (with_reducible first | exact HB.out | refine below_set ?_ (Aside0.out (by assumption)) | apply below_alloc | apply pw_below_drewN) | exact HB.out)⟩⟩
                           · rw [if_neg c76] at H
                             have c76b0 : decide (t554 < 0) = false := decide_eq_false c76
                             clear c76
                             (first | rw [c76b0] | (simp only [i64_w,i32_w];rw [c76b0]) | skip)
                             replace H' := am H
                             have hnb77 := NB544_530.out
                             have hnc77 := NB530_544.out
                             obtain ⟨hcz78_0,hcz78_1⟩ := cO2 BK544.out
                             have hfz78_0 := blk_frozen BK544.out 0
                             have hfz78_1 := blk_frozen BK544.out 1
                             go_wp2
                             repeat (go_quiet (fail);try go_wp2)
                             go_meet
                             case rel => exact ⟨_,(((decide ((wrap64 (t554 + t551)) ≤ a1)) != (decide (a2 ≤ t541)))),(by first | rfl | (simp;done) | (simp [*];done)),H',⟨by have := HJ3.out;have := HJ31.out;have := HJ60.out;have := HJ65.out;first | omega | exact Nat.le_refl _⟩,⟨by (with_reducible repeat (first | apply Kd.R_alloc | apply Kd.R_drewN | apply Kd.R_drew));exact Kd.R_mono HO_7.out (fun _ hk => trivial)⟩,⟨by (with_reducible repeat (first | refine blk_drewN ?_ _ | refine blk_drew ?_ | refine blk_alloc ?_ _));exact BK530.out⟩,⟨by (with_reducible repeat (first | refine blk_drewN ?_ _ | refine blk_drew ?_ | refine blk_alloc ?_ _));exact BK544.out⟩,⟨by repeat (first | (with_reducible first | exact HB.out | refine below_set ?_ (Aside0.out (by assumption)) | apply below_alloc | apply pw_below_drewN) | exact HB.out)⟩⟩
                         case rest =>
                          as_aux_lemma =>
                           clear HC74
                           try clear c1
                           try clear c2
                           try clear p2
                           try clear c3
                           try clear c4
                           try clear c5
                           try clear c6
                           try clear p6
                           try clear c7
                           try clear c9
                           try clear c11
                           try clear c27
                           try clear c38
                           try clear c40
                           try clear c40b0
                           try clear c40b1
                           try clear c41
                           try clear c41b0
                           try clear c41b1
                           try clear c42
                           try clear c42b0
                           try clear c42b1
                           try clear c44
                           try clear c45
                           try clear c45b0
                           try clear c45b1
                           try clear c45b2
                           try clear c47
                           try clear c51
                           try clear c55
                           try clear c57
                           try clear c59
                           try clear c63
                           try clear c63b0
                           try clear c64
                           try clear p64
                           try clear c67
                           try clear c70
                           try clear c70b0
                           try clear c70b1
                           try clear c72
                           try clear c76
                           try clear c76b0
                           try clear c77
                           try clear hcz13_0
                           try clear hcz13_1
                           try clear hcz13_2
                           try clear hcz13_3
                           try clear hcz13_4
                           try clear hcz15_0
                           try clear hcz15_1
                           try clear hcz15_2
                           try clear hcz15_3
                           try clear hcz15_4
                           try clear hcz17_0
                           try clear hcz17_1
                           try clear hcz17_2
                           try clear hcz17_3
                           try clear hcz17_4
                           try clear hcz19_0
                           try clear hcz19_1
                           try clear hcz19_2
                           try clear hcz19_3
                           try clear hcz19_4
                           try clear hcz21_0
                           try clear hcz21_1
                           try clear hcz21_2
                           try clear hcz21_3
                           try clear hcz21_4
                           try clear hcz23_0
                           try clear hcz23_1
                           try clear hcz23_2
                           try clear hcz23_3
                           try clear hcz23_4
                           try clear hcz25_0
                           try clear hcz25_1
                           try clear hcz25_2
                           try clear hcz25_3
                           try clear hcz25_4
                           try clear hcz33_0
                           try clear hcz33_1
                           try clear hcz33_2
                           try clear hcz33_3
                           try clear hcz33_4
                           try clear hcz35_0
                           try clear hcz35_1
                           try clear hcz35_2
                           try clear hcz35_3
                           try clear hcz35_4
                           try clear hcz39_0
                           try clear hcz39_1
                           try clear hcz48_0
                           try clear hcz48_1
                           try clear hcz50_0
                           try clear hcz50_1
                           try clear hcz50_2
                           try clear hcz50_3
                           try clear hcz50_4
                           try clear hcz52_0
                           try clear hcz52_1
                           try clear hcz54_0
                           try clear hcz54_1
                           try clear hcz54_2
                           try clear hcz54_3
                           try clear hcz54_4
                           try clear hcz56_0
                           try clear hcz56_1
                           try clear hcz58_0
                           try clear hcz58_1
                           try clear hcz68_0
                           try clear hcz68_1
                           try clear hcz68_2
                           try clear hcz68_3
                           try clear hcz68_4
                           try clear hcz78_0
                           try clear hcz78_1
                           try clear hfz13_0
                           try clear hfz13_1
                           try clear hfz13_2
                           try clear hfz13_3
                           try clear hfz13_4
                           try clear hfz15_0
                           try clear hfz15_1
                           try clear hfz15_2
                           try clear hfz15_3
                           try clear hfz15_4
                           try clear hfz17_0
                           try clear hfz17_1
                           try clear hfz17_2
                           try clear hfz17_3
                           try clear hfz17_4
                           try clear hfz19_0
                           try clear hfz19_1
                           try clear hfz19_2
                           try clear hfz19_3
                           try clear hfz19_4
                           try clear hfz21_0
                           try clear hfz21_1
                           try clear hfz21_2
                           try clear hfz21_3
                           try clear hfz21_4
                           try clear hfz23_0
                           try clear hfz23_1
                           try clear hfz23_2
                           try clear hfz23_3
                           try clear hfz23_4
                           try clear hfz25_0
                           try clear hfz25_1
                           try clear hfz25_2
                           try clear hfz25_3
                           try clear hfz25_4
                           try clear hfz33_0
                           try clear hfz33_1
                           try clear hfz33_2
                           try clear hfz33_3
                           try clear hfz33_4
                           try clear hfz35_0
                           try clear hfz35_1
                           try clear hfz35_2
                           try clear hfz35_3
                           try clear hfz35_4
                           try clear hfz39_0
                           try clear hfz39_1
                           try clear hfz48_0
                           try clear hfz48_1
                           try clear hfz50_0
                           try clear hfz50_1
                           try clear hfz50_2
                           try clear hfz50_3
                           try clear hfz50_4
                           try clear hfz52_0
                           try clear hfz52_1
                           try clear hfz54_0
                           try clear hfz54_1
                           try clear hfz54_2
                           try clear hfz54_3
                           try clear hfz54_4
                           try clear hfz56_0
                           try clear hfz56_1
                           try clear hfz58_0
                           try clear hfz58_1
                           try clear hfz68_0
                           try clear hfz68_1
                           try clear hfz68_2
                           try clear hfz68_3
                           try clear hfz68_4
                           try clear hfz78_0
                           try clear hfz78_1
                           try clear p2
                           try clear p6
                           try clear p64
                           obtain ⟨kq,x131_73,rfl,HA,HJ73,HO_7,BK530,BK544,HB⟩ := hcut
                           cases kq with
                           | zero => exact absurd HA.out (by simp [l4_CastleKept.j4])
                           | succ kj73 =>
                            have H := HA.out
                            clear HA
                            simp only [l4_CastleKept.j4] at H
                            by_cases c79 : x131_73 = true
                            · subst c79
                              replace H : (none) = some r := by rw [if_pos rfl] at H;exact H
                              exact absurd H (by simp)
                            · as_aux_lemma =>
                               replace c79 := Bool.eq_false_iff.mpr c79
                               subst c79
                               replace H : ((ca_Out.f kj73 l0_0 a0_1 l0_2 a0_3 a0_4 t541).bind fun bt555 => ((ca_Out.f kj73 l0_0 a0_1 l0_2 a0_3 a0_4 (mn 40 (wrap64 (t541 + 1)))).bind fun bt560 => (if bt555.2.2 = 0 then (if bt560.2.2 = 0 then (if (bt555.1.length : Int) = (t536.length : Int) then (l4_CastleKept.j5 kj73 t536 bt555.1 bt560.1 ((bt560.1.length : Int) != (t536.length : Int))) else (l4_CastleKept.j5 kj73 t536 bt555.1 bt560.1 true)) else (l4_CastleKept.j5 kj73 t536 bt555.1 bt560.1 true)) else (l4_CastleKept.j5 kj73 t536 bt555.1 bt560.1 true)))) = some r := by rw [if_neg (show ¬ (false = true) by decide)] at H;exact H
                               replace H := obm H
                               obtain ⟨⟨t555,t558,t559⟩,A800,H⟩ := H
                               replace H : ((ca_Out.f kj73 l0_0 a0_1 l0_2 a0_3 a0_4 (mn 40 (wrap64 (t541 + 1)))).bind fun bt560 => (if t559 = 0 then (if bt560.2.2 = 0 then (if (t555.length : Int) = (t536.length : Int) then (l4_CastleKept.j5 kj73 t536 t555 bt560.1 ((bt560.1.length : Int) != (t536.length : Int))) else (l4_CastleKept.j5 kj73 t536 t555 bt560.1 true)) else (l4_CastleKept.j5 kj73 t536 t555 bt560.1 true)) else (l4_CastleKept.j5 kj73 t536 t555 bt560.1 true))) = some r := H
                               have A80 := am A800
                               clear A800
                               obtain ⟨ji81,hji81⟩ : ∃ j_ : Int,(mn 40 (wrap64 (t541 + 1))) = j_ := ⟨_,rfl⟩
                               replace H : ((ca_Out.f kj73 l0_0 a0_1 l0_2 a0_3 a0_4 (ji81)).bind fun bt560 => (if t559 = 0 then (if bt560.2.2 = 0 then (if (t555.length : Int) = (t536.length : Int) then (l4_CastleKept.j5 kj73 t536 t555 bt560.1 ((bt560.1.length : Int) != (t536.length : Int))) else (l4_CastleKept.j5 kj73 t536 t555 bt560.1 true)) else (l4_CastleKept.j5 kj73 t536 t555 bt560.1 true)) else (l4_CastleKept.j5 kj73 t536 t555 bt560.1 true))) = some r := by first | (rw [hji81] at H;exact H) | (simp only [hji81] at H ⊢;exact H)
                               (try rw [hji81] at A80)
                               have hji81_ : (if (wrap64 (t541 + 1)) < 40 then (wrap64 (t541 + 1)) else 40) = ji81 := hji81
                               replace H := obm H
                               obtain ⟨⟨t560,t563,t564⟩,A820,H⟩ := H
                               replace H : (if t559 = 0 then (if t564 = 0 then (if (t555.length : Int) = (t536.length : Int) then (l4_CastleKept.j5 kj73 t536 t555 t560 ((t560.length : Int) != (t536.length : Int))) else (l4_CastleKept.j5 kj73 t536 t555 t560 true)) else (l4_CastleKept.j5 kj73 t536 t555 t560 true)) else (l4_CastleKept.j5 kj73 t536 t555 t560 true)) = some r := H
                               have A82 := am A820
                               clear A820
                               have HC83 := am H
                               clear H
                               have hnb84 := NB530_544.out
                               have hnc84 := NB544_530.out
                               obtain ⟨hcz85_0,hcz85_1,hcz85_2,hcz85_3,hcz85_4⟩ := cO5 BK530.out
                               have hfz85_0 := blk_frozen BK530.out 0
                               have hfz85_1 := blk_frozen BK530.out 1
                               have hfz85_2 := blk_frozen BK530.out 2
                               have hfz85_3 := blk_frozen BK530.out 3
                               have hfz85_4 := blk_frozen BK530.out 4
                               obtain ⟨hcz86_0,hcz86_1⟩ := cO2 BK544.out
                               have hfz86_0 := blk_frozen BK544.out 0
                               have hfz86_1 := blk_frozen BK544.out 1
                               go_upto_region 18 with (first | (go_at_call 24;(with_reducible refine (ca_Out.calls kj73 _ _ l0_0 a0_1 _ _ l0_2 a0_3 a0_4 t541 t555 t558 t559 _ ?side1 ?side2 ?side3 ?side4 A80.out).mono ?_);(case side1 => repeat (first | exact (kC HR0_0.out HB.out) | (with_reducible refine Kd.C_alloc ?_ _) | (with_reducible refine Kd.C_drewN ?_ _) | (with_reducible refine Kd.C_drew ?_)));(case side2 => exact HC0_0.out);(case side3 => repeat (first | exact (kC HR0_2.out HB.out) | (with_reducible refine Kd.C_alloc ?_ _) | (with_reducible refine Kd.C_drewN ?_ _) | (with_reducible refine Kd.C_drew ?_)));(case side4 => exact HC0_2.out);rintro e w87 ⟨v556,rfl,ho0,hb⟩;have HO557 := am (Kd.R_lower (Kd.R_new' ho0 (Kd.R_lt (by (with_reducible repeat (first | apply Kd.R_alloc | apply Kd.R_drewN | apply Kd.R_drew));exact HO_7.out))) (below_size (by repeat (first | (with_reducible first | exact HB.out | refine below_set ?_ (Aside0.out (by assumption)) | apply below_alloc | apply pw_below_drewN) | exact HB.out))));replace HO_7 := am (Kd.R_elder' (by (with_reducible repeat (first | apply Kd.R_alloc | apply Kd.R_drewN | apply Kd.R_drew));exact HO_7.out) (Kd.R_base ho0) hb);replace BK530 := am (blk_below (g := gb530) (o := .cells #[.slice A0_0 l0_0.length c0_0,.int .i64 a0_1,.slice A0_2 l0_2.length c0_2,.int .i64 a0_3,.int .i64 a0_4] 27 (0,0)) (by (with_reducible repeat (first | refine blk_drewN ?_ _ | refine blk_drew ?_ | refine blk_alloc ?_ _));exact BK530.out) hb);replace BK544 := am (blk_below (g := gb544) (o := .cells #[.int .i64 t541,.int .i64 t542] 40 (0,0)) (by (with_reducible repeat (first | refine blk_drewN ?_ _ | refine blk_drew ?_ | refine blk_alloc ?_ _));exact BK544.out) hb);replace HB := am (below_step (by repeat (first | (with_reducible first | exact HB.out | refine below_set ?_ (Aside0.out (by assumption)) | apply below_alloc | apply pw_below_drewN) | exact HB.out)) hb);(try clear hb);(try clear hb2);(try clear hk);(try clear hi);(try clear ho0);obtain ⟨hcz88_0,hcz88_1,hcz88_2,hcz88_3,hcz88_4⟩ := cO5 BK530.out;have hfz88_0 := blk_frozen BK530.out 0;have hfz88_1 := blk_frozen BK530.out 1;have hfz88_2 := blk_frozen BK530.out 2;have hfz88_3 := blk_frozen BK530.out 3;have hfz88_4 := blk_frozen BK530.out 4;obtain ⟨hcz89_0,hcz89_1⟩ := cO2 BK544.out;have hfz89_0 := blk_frozen BK544.out 0;have hfz89_1 := blk_frozen BK544.out 1) | (go_at_call 24;(with_reducible refine (ca_Out.calls kj73 _ _ l0_0 a0_1 _ _ l0_2 a0_3 a0_4 ji81 t560 t563 t564 _ ?side1 ?side2 ?side3 ?side4 A82.out).mono ?_);(case side1 => repeat (first | exact (kC HR0_0.out HB.out) | (with_reducible refine Kd.C_alloc ?_ _) | (with_reducible refine Kd.C_drewN ?_ _) | (with_reducible refine Kd.C_drew ?_)));(case side2 => exact HC0_0.out);(case side3 => repeat (first | exact (kC HR0_2.out HB.out) | (with_reducible refine Kd.C_alloc ?_ _) | (with_reducible refine Kd.C_drewN ?_ _) | (with_reducible refine Kd.C_drew ?_)));(case side4 => exact HC0_2.out);rintro e w90 ⟨v561,rfl,ho0,hb⟩;have HO562 := am (Kd.R_lower (Kd.R_new' (Kd.R_new' ho0 (Kd.R_lt (by (with_reducible repeat (first | apply Kd.R_alloc | apply Kd.R_drewN | apply Kd.R_drew));exact HO_7.out))) (Kd.R_lt (by (with_reducible repeat (first | apply Kd.R_alloc | apply Kd.R_drewN | apply Kd.R_drew));exact HO557.out))) (below_size (by repeat (first | (with_reducible first | exact HB.out | refine below_set ?_ (Aside0.out (by assumption)) | apply below_alloc | apply pw_below_drewN) | exact HB.out))));replace HO_7 := am (Kd.R_elder' (by (with_reducible repeat (first | apply Kd.R_alloc | apply Kd.R_drewN | apply Kd.R_drew));exact HO_7.out) (Kd.R_base ho0) hb);replace HO557 := am (Kd.R_elder' (by (with_reducible repeat (first | apply Kd.R_alloc | apply Kd.R_drewN | apply Kd.R_drew));exact HO557.out) (Kd.R_base ho0) hb);replace BK530 := am (blk_below (g := gb530) (o := .cells #[.slice A0_0 l0_0.length c0_0,.int .i64 a0_1,.slice A0_2 l0_2.length c0_2,.int .i64 a0_3,.int .i64 a0_4] 27 (0,0)) (by (with_reducible repeat (first | refine blk_drewN ?_ _ | refine blk_drew ?_ | refine blk_alloc ?_ _));exact BK530.out) hb);replace BK544 := am (blk_below (g := gb544) (o := .cells #[.int .i64 t541,.int .i64 t542] 40 (0,0)) (by (with_reducible repeat (first | refine blk_drewN ?_ _ | refine blk_drew ?_ | refine blk_alloc ?_ _));exact BK544.out) hb);replace HB := am (below_step (by repeat (first | (with_reducible first | exact HB.out | refine below_set ?_ (Aside0.out (by assumption)) | apply below_alloc | apply pw_below_drewN) | exact HB.out)) hb);(try clear hb);(try clear hb2);(try clear hk);(try clear hi);(try clear ho0)))
                               repeat (go_quiet (first | (go_at_call 24;(with_reducible refine (ca_Out.calls kj73 _ _ l0_0 a0_1 _ _ l0_2 a0_3 a0_4 t541 t555 t558 t559 _ ?side1 ?side2 ?side3 ?side4 A80.out).mono ?_);(case side1 => repeat (first | exact (kC HR0_0.out HB.out) | (with_reducible refine Kd.C_alloc ?_ _) | (with_reducible refine Kd.C_drewN ?_ _) | (with_reducible refine Kd.C_drew ?_)));(case side2 => exact HC0_0.out);(case side3 => repeat (first | exact (kC HR0_2.out HB.out) | (with_reducible refine Kd.C_alloc ?_ _) | (with_reducible refine Kd.C_drewN ?_ _) | (with_reducible refine Kd.C_drew ?_)));(case side4 => exact HC0_2.out);rintro e w87 ⟨v556,rfl,ho0,hb⟩;have HO557 := am (Kd.R_lower (Kd.R_new' ho0 (Kd.R_lt (by (with_reducible repeat (first | apply Kd.R_alloc | apply Kd.R_drewN | apply Kd.R_drew));exact HO_7.out))) (below_size (by repeat (first | (with_reducible first | exact HB.out | refine below_set ?_ (Aside0.out (by assumption)) | apply below_alloc | apply pw_below_drewN) | exact HB.out))));replace HO_7 := am (Kd.R_elder' (by (with_reducible repeat (first | apply Kd.R_alloc | apply Kd.R_drewN | apply Kd.R_drew));exact HO_7.out) (Kd.R_base ho0) hb);replace BK530 := am (blk_below (g := gb530) (o := .cells #[.slice A0_0 l0_0.length c0_0,.int .i64 a0_1,.slice A0_2 l0_2.length c0_2,.int .i64 a0_3,.int .i64 a0_4] 27 (0,0)) (by (with_reducible repeat (first | refine blk_drewN ?_ _ | refine blk_drew ?_ | refine blk_alloc ?_ _));exact BK530.out) hb);replace BK544 := am (blk_below (g := gb544) (o := .cells #[.int .i64 t541,.int .i64 t542] 40 (0,0)) (by (with_reducible repeat (first | refine blk_drewN ?_ _ | refine blk_drew ?_ | refine blk_alloc ?_ _));exact BK544.out) hb);replace HB := am (below_step (by repeat (first | (with_reducible first | exact HB.out | refine below_set ?_ (Aside0.out (by assumption)) | apply below_alloc | apply pw_below_drewN) | exact HB.out)) hb);(try clear hb);(try clear hb2);(try clear hk);(try clear hi);(try clear ho0);obtain ⟨hcz88_0,hcz88_1,hcz88_2,hcz88_3,hcz88_4⟩ := cO5 BK530.out;have hfz88_0 := blk_frozen BK530.out 0;have hfz88_1 := blk_frozen BK530.out 1;have hfz88_2 := blk_frozen BK530.out 2;have hfz88_3 := blk_frozen BK530.out 3;have hfz88_4 := blk_frozen BK530.out 4;obtain ⟨hcz89_0,hcz89_1⟩ := cO2 BK544.out;have hfz89_0 := blk_frozen BK544.out 0;have hfz89_1 := blk_frozen BK544.out 1) | (go_at_call 24;(with_reducible refine (ca_Out.calls kj73 _ _ l0_0 a0_1 _ _ l0_2 a0_3 a0_4 ji81 t560 t563 t564 _ ?side1 ?side2 ?side3 ?side4 A82.out).mono ?_);(case side1 => repeat (first | exact (kC HR0_0.out HB.out) | (with_reducible refine Kd.C_alloc ?_ _) | (with_reducible refine Kd.C_drewN ?_ _) | (with_reducible refine Kd.C_drew ?_)));(case side2 => exact HC0_0.out);(case side3 => repeat (first | exact (kC HR0_2.out HB.out) | (with_reducible refine Kd.C_alloc ?_ _) | (with_reducible refine Kd.C_drewN ?_ _) | (with_reducible refine Kd.C_drew ?_)));(case side4 => exact HC0_2.out);rintro e w90 ⟨v561,rfl,ho0,hb⟩;have HO562 := am (Kd.R_lower (Kd.R_new' (Kd.R_new' ho0 (Kd.R_lt (by (with_reducible repeat (first | apply Kd.R_alloc | apply Kd.R_drewN | apply Kd.R_drew));exact HO_7.out))) (Kd.R_lt (by (with_reducible repeat (first | apply Kd.R_alloc | apply Kd.R_drewN | apply Kd.R_drew));exact HO557.out))) (below_size (by repeat (first | (with_reducible first | exact HB.out | refine below_set ?_ (Aside0.out (by assumption)) | apply below_alloc | apply pw_below_drewN) | exact HB.out))));replace HO_7 := am (Kd.R_elder' (by (with_reducible repeat (first | apply Kd.R_alloc | apply Kd.R_drewN | apply Kd.R_drew));exact HO_7.out) (Kd.R_base ho0) hb);replace HO557 := am (Kd.R_elder' (by (with_reducible repeat (first | apply Kd.R_alloc | apply Kd.R_drewN | apply Kd.R_drew));exact HO557.out) (Kd.R_base ho0) hb);replace BK530 := am (blk_below (g := gb530) (o := .cells #[.slice A0_0 l0_0.length c0_0,.int .i64 a0_1,.slice A0_2 l0_2.length c0_2,.int .i64 a0_3,.int .i64 a0_4] 27 (0,0)) (by (with_reducible repeat (first | refine blk_drewN ?_ _ | refine blk_drew ?_ | refine blk_alloc ?_ _));exact BK530.out) hb);replace BK544 := am (blk_below (g := gb544) (o := .cells #[.int .i64 t541,.int .i64 t542] 40 (0,0)) (by (with_reducible repeat (first | refine blk_drewN ?_ _ | refine blk_drew ?_ | refine blk_alloc ?_ _));exact BK544.out) hb);replace HB := am (below_step (by repeat (first | (with_reducible first | exact HB.out | refine below_set ?_ (Aside0.out (by assumption)) | apply below_alloc | apply pw_below_drewN) | exact HB.out)) hb);(try clear hb);(try clear hb2);(try clear hk);(try clear hi);(try clear ho0)));go_upto_region 18 with (first | (go_at_call 24;(with_reducible refine (ca_Out.calls kj73 _ _ l0_0 a0_1 _ _ l0_2 a0_3 a0_4 t541 t555 t558 t559 _ ?side1 ?side2 ?side3 ?side4 A80.out).mono ?_);(case side1 => repeat (first | exact (kC HR0_0.out HB.out) | (with_reducible refine Kd.C_alloc ?_ _) | (with_reducible refine Kd.C_drewN ?_ _) | (with_reducible refine Kd.C_drew ?_)));(case side2 => exact HC0_0.out);(case side3 => repeat (first | exact (kC HR0_2.out HB.out) | (with_reducible refine Kd.C_alloc ?_ _) | (with_reducible refine Kd.C_drewN ?_ _) | (with_reducible refine Kd.C_drew ?_)));(case side4 => exact HC0_2.out);rintro e w87 ⟨v556,rfl,ho0,hb⟩;have HO557 := am (Kd.R_lower (Kd.R_new' ho0 (Kd.R_lt (by (with_reducible repeat (first | apply Kd.R_alloc | apply Kd.R_drewN | apply Kd.R_drew));exact HO_7.out))) (below_size (by repeat (first | (with_reducible first | exact HB.out | refine below_set ?_ (Aside0.out (by assumption)) | apply below_alloc | apply pw_below_drewN) | exact HB.out))));replace HO_7 := am (Kd.R_elder' (by (with_reducible repeat (first | apply Kd.R_alloc | apply Kd.R_drewN | apply Kd.R_drew));exact HO_7.out) (Kd.R_base ho0) hb);replace BK530 := am (blk_below (g := gb530) (o := .cells #[.slice A0_0 l0_0.length c0_0,.int .i64 a0_1,.slice A0_2 l0_2.length c0_2,.int .i64 a0_3,.int .i64 a0_4] 27 (0,0)) (by (with_reducible repeat (first | refine blk_drewN ?_ _ | refine blk_drew ?_ | refine blk_alloc ?_ _));exact BK530.out) hb);replace BK544 := am (blk_below (g := gb544) (o := .cells #[.int .i64 t541,.int .i64 t542] 40 (0,0)) (by (with_reducible repeat (first | refine blk_drewN ?_ _ | refine blk_drew ?_ | refine blk_alloc ?_ _));exact BK544.out) hb);replace HB := am (below_step (by repeat (first | (with_reducible first | exact HB.out | refine below_set ?_ (Aside0.out (by assumption)) | apply below_alloc | apply pw_below_drewN) | exact HB.out)) hb);(try clear hb);(try clear hb2);(try clear hk);(try clear hi);(try clear ho0);obtain ⟨hcz88_0,hcz88_1,hcz88_2,hcz88_3,hcz88_4⟩ := cO5 BK530.out;have hfz88_0 := blk_frozen BK530.out 0;have hfz88_1 := blk_frozen BK530.out 1;have hfz88_2 := blk_frozen BK530.out 2;have hfz88_3 := blk_frozen BK530.out 3;have hfz88_4 := blk_frozen BK530.out 4;obtain ⟨hcz89_0,hcz89_1⟩ := cO2 BK544.out;have hfz89_0 := blk_frozen BK544.out 0;have hfz89_1 := blk_frozen BK544.out 1) | (go_at_call 24;(with_reducible refine (ca_Out.calls kj73 _ _ l0_0 a0_1 _ _ l0_2 a0_3 a0_4 ji81 t560 t563 t564 _ ?side1 ?side2 ?side3 ?side4 A82.out).mono ?_);(case side1 => repeat (first | exact (kC HR0_0.out HB.out) | (with_reducible refine Kd.C_alloc ?_ _) | (with_reducible refine Kd.C_drewN ?_ _) | (with_reducible refine Kd.C_drew ?_)));(case side2 => exact HC0_0.out);(case side3 => repeat (first | exact (kC HR0_2.out HB.out) | (with_reducible refine Kd.C_alloc ?_ _) | (with_reducible refine Kd.C_drewN ?_ _) | (with_reducible refine Kd.C_drew ?_)));(case side4 => exact HC0_2.out);rintro e w90 ⟨v561,rfl,ho0,hb⟩;have HO562 := am (Kd.R_lower (Kd.R_new' (Kd.R_new' ho0 (Kd.R_lt (by (with_reducible repeat (first | apply Kd.R_alloc | apply Kd.R_drewN | apply Kd.R_drew));exact HO_7.out))) (Kd.R_lt (by (with_reducible repeat (first | apply Kd.R_alloc | apply Kd.R_drewN | apply Kd.R_drew));exact HO557.out))) (below_size (by repeat (first | (with_reducible first | exact HB.out | refine below_set ?_ (Aside0.out (by assumption)) | apply below_alloc | apply pw_below_drewN) | exact HB.out))));replace HO_7 := am (Kd.R_elder' (by (with_reducible repeat (first | apply Kd.R_alloc | apply Kd.R_drewN | apply Kd.R_drew));exact HO_7.out) (Kd.R_base ho0) hb);replace HO557 := am (Kd.R_elder' (by (with_reducible repeat (first | apply Kd.R_alloc | apply Kd.R_drewN | apply Kd.R_drew));exact HO557.out) (Kd.R_base ho0) hb);replace BK530 := am (blk_below (g := gb530) (o := .cells #[.slice A0_0 l0_0.length c0_0,.int .i64 a0_1,.slice A0_2 l0_2.length c0_2,.int .i64 a0_3,.int .i64 a0_4] 27 (0,0)) (by (with_reducible repeat (first | refine blk_drewN ?_ _ | refine blk_drew ?_ | refine blk_alloc ?_ _));exact BK530.out) hb);replace BK544 := am (blk_below (g := gb544) (o := .cells #[.int .i64 t541,.int .i64 t542] 40 (0,0)) (by (with_reducible repeat (first | refine blk_drewN ?_ _ | refine blk_drew ?_ | refine blk_alloc ?_ _));exact BK544.out) hb);replace HB := am (below_step (by repeat (first | (with_reducible first | exact HB.out | refine below_set ?_ (Aside0.out (by assumption)) | apply below_alloc | apply pw_below_drewN) | exact HB.out)) hb);(try clear hb);(try clear hb2);(try clear hk);(try clear hi);(try clear ho0))))
                               (try simp only [Act.put,List.setIfInBounds_toArray,List.set_cons_zero,List.set_cons_succ])
                               go_cut [169] (fun v169 wc => ∃ (kq : Nat) (x169_82 : Bool),v169 = .bool x169_82 ∧ Aside0 (l4_CastleKept.j5 kq t536 t555 t560 x169_82 = some r) ∧ Aside0 (kq ≤ kj73) ∧ Aside0 (Kd.R (Kd.int .i64) 3 wc w.heap.size (fun k_ => some k_ ≠ (v556 : Value).ownBlock ∧ some k_ ≠ (v561 : Value).ownBlock) (.slice Ao62 t536.length co62) t536) ∧ Aside0 (Kd.R (Kd.int .i64) 3 wc w.heap.size (fun k_ => some k_ ≠ ((.slice Ao62 t536.length co62) : Value).ownBlock ∧ some k_ ≠ (v561 : Value).ownBlock) v556 t555) ∧ Aside0 (Kd.R (Kd.int .i64) 3 wc w.heap.size (fun k_ => some k_ ≠ ((.slice Ao62 t536.length co62) : Value).ownBlock ∧ some k_ ≠ (v556 : Value).ownBlock) v561 t560) ∧ Aside0 (wc.heap[gb530]? = some (.cells #[(.slice A0_0 l0_0.length c0_0),.int .i64 a0_1,(.slice A0_2 l0_2.length c0_2),.int .i64 a0_3,.int .i64 a0_4] 27 (0,0))) ∧ Aside0 (wc.heap[gb544]? = some (.cells #[.int .i64 t541,.int .i64 t542] 40 (0,0))) ∧ Aside0 (Below w.heap.size w wc))
                               case first =>
                                as_aux_lemma =>
                                 have H := HC83.out
                                 clear HC83
                                 by_cases c91 : t559 = 0
                                 case neg =>
                                  rw [if_neg c91] at H
                                  have c91b0 : (t559 == 0) = false := beq_eq_false_iff_ne.mpr c91
                                  have c91b1 : (t559 != 0) = true := bne_iff_ne.mpr c91
                                  (first | rw [c91b0] | (simp only [i64_w,i32_w];rw [c91b0]) | skip)
                                  replace H' := am H
                                  go_wp2
                                  repeat (go_quiet (fail);try go_wp2)
                                  go_meet
                                  case rel => exact ⟨_,(true),(by first | rfl | (simp;done) | (simp [*];done)),H',⟨by have := HJ3.out;have := HJ31.out;have := HJ60.out;have := HJ65.out;have := HJ73.out;first | omega | exact Nat.le_refl _⟩,⟨by (with_reducible repeat (first | apply Kd.R_alloc | apply Kd.R_drewN | apply Kd.R_drew));exact Kd.R_mono HO_7.out (fun _ hk => ⟨hk.1.2,hk.2⟩)⟩,⟨by (with_reducible repeat (first | apply Kd.R_alloc | apply Kd.R_drewN | apply Kd.R_drew));exact Kd.R_mono HO557.out (fun _ hk => ⟨hk.1.2,hk.2⟩)⟩,⟨by (with_reducible repeat (first | apply Kd.R_alloc | apply Kd.R_drewN | apply Kd.R_drew));exact Kd.R_mono HO562.out (fun _ hk => ⟨hk.1.2,hk.2⟩)⟩,⟨by (with_reducible repeat (first | refine blk_drewN ?_ _ | refine blk_drew ?_ | refine blk_alloc ?_ _));exact BK530.out⟩,⟨by (with_reducible repeat (first | refine blk_drewN ?_ _ | refine blk_drew ?_ | refine blk_alloc ?_ _));exact BK544.out⟩,⟨by repeat (first | (with_reducible first | exact HB.out | refine below_set ?_ (Aside0.out (by assumption)) | apply below_alloc | apply pw_below_drewN) | exact HB.out)⟩⟩
                                 as_aux_lemma =>
                                  rw [if_pos c91] at H
                                  have c91b0 : (t559 == 0) = true := beq_iff_eq.mpr c91
                                  have c91b1 : (t559 != 0) = false := bne_eq_false_iff_eq.mpr c91
                                  clear c91
                                  (first | rw [c91b0] | (simp only [i64_w,i32_w];rw [c91b0]) | skip)
                                  by_cases c92 : t564 = 0
                                  case neg =>
                                   rw [if_neg c92] at H
                                   have c92b0 : (t564 == 0) = false := beq_eq_false_iff_ne.mpr c92
                                   have c92b1 : (t564 != 0) = true := bne_iff_ne.mpr c92
                                   replace H' := am H
                                   go_wp2
                                   repeat (go_quiet (fail);try go_wp2)
                                   go_meet
                                   case rel => exact ⟨_,(true),(by first | rfl | (simp;done) | (simp [*];done)),H',⟨by have := HJ3.out;have := HJ31.out;have := HJ60.out;have := HJ65.out;have := HJ73.out;first | omega | exact Nat.le_refl _⟩,⟨by (with_reducible repeat (first | apply Kd.R_alloc | apply Kd.R_drewN | apply Kd.R_drew));exact Kd.R_mono HO_7.out (fun _ hk => ⟨hk.1.2,hk.2⟩)⟩,⟨by (with_reducible repeat (first | apply Kd.R_alloc | apply Kd.R_drewN | apply Kd.R_drew));exact Kd.R_mono HO557.out (fun _ hk => ⟨hk.1.2,hk.2⟩)⟩,⟨by (with_reducible repeat (first | apply Kd.R_alloc | apply Kd.R_drewN | apply Kd.R_drew));exact Kd.R_mono HO562.out (fun _ hk => ⟨hk.1.2,hk.2⟩)⟩,⟨by (with_reducible repeat (first | refine blk_drewN ?_ _ | refine blk_drew ?_ | refine blk_alloc ?_ _));exact BK530.out⟩,⟨by (with_reducible repeat (first | refine blk_drewN ?_ _ | refine blk_drew ?_ | refine blk_alloc ?_ _));exact BK544.out⟩,⟨by repeat (first | (with_reducible first | exact HB.out | refine below_set ?_ (Aside0.out (by assumption)) | apply below_alloc | apply pw_below_drewN) | exact HB.out)⟩⟩
                                  as_aux_lemma =>
                                   rw [if_pos c92] at H
                                   have c92b0 : (t564 == 0) = true := beq_iff_eq.mpr c92
                                   have c92b1 : (t564 != 0) = false := bne_eq_false_iff_eq.mpr c92
                                   clear c92
                                   by_cases c93 : (t555.length : Int) = (t536.length : Int)
                                   case neg =>
                                    rw [if_neg c93] at H
                                    have c93b0 : ((t555.length : Int) == (t536.length : Int)) = false := beq_eq_false_iff_ne.mpr c93
                                    have c93b1 : ((t555.length : Int) != (t536.length : Int)) = true := bne_iff_ne.mpr c93
                                    have c93b2 : (t555.length == t536.length) = false := by first | simpa using c93 | (simp at c93 ⊢;omega)
                                    replace H' := am H
                                    obtain ⟨Ao96,co96,eo96⟩ := Kd.R_slice HO557.out
                                    subst eo96
                                    go_wp2
                                    repeat (go_quiet (fail);try go_wp2)
                                    go_meet
                                    case rel => exact ⟨_,(true),(by first | rfl | (simp;done) | (simp [*];done)),H',⟨by have := HJ3.out;have := HJ31.out;have := HJ60.out;have := HJ65.out;have := HJ73.out;first | omega | exact Nat.le_refl _⟩,⟨by (with_reducible repeat (first | apply Kd.R_alloc | apply Kd.R_drewN | apply Kd.R_drew));exact Kd.R_mono HO_7.out (fun _ hk => ⟨hk.1.2,hk.2⟩)⟩,⟨by (with_reducible repeat (first | apply Kd.R_alloc | apply Kd.R_drewN | apply Kd.R_drew));exact Kd.R_mono HO557.out (fun _ hk => ⟨hk.1.2,hk.2⟩)⟩,⟨by (with_reducible repeat (first | apply Kd.R_alloc | apply Kd.R_drewN | apply Kd.R_drew));exact Kd.R_mono HO562.out (fun _ hk => ⟨hk.1.2,hk.2⟩)⟩,⟨by (with_reducible repeat (first | refine blk_drewN ?_ _ | refine blk_drew ?_ | refine blk_alloc ?_ _));exact BK530.out⟩,⟨by (with_reducible repeat (first | refine blk_drewN ?_ _ | refine blk_drew ?_ | refine blk_alloc ?_ _));exact BK544.out⟩,⟨by repeat (first | (with_reducible first | exact HB.out | refine below_set ?_ (Aside0.out (by assumption)) | apply below_alloc | apply pw_below_drewN) | exact HB.out)⟩⟩
                                   rw [if_pos c93] at H
                                   have c93b0 : ((t555.length : Int) == (t536.length : Int)) = true := beq_iff_eq.mpr c93
                                   have c93b1 : ((t555.length : Int) != (t536.length : Int)) = false := bne_eq_false_iff_eq.mpr c93
                                   have c93b2 : (t555.length == t536.length) = true := by first | simpa using c93 | (simp at c93 ⊢;omega)
                                   clear c93
                                   replace H' := am H
                                   obtain ⟨Ao94,co94,eo94⟩ := Kd.R_slice HO557.out
                                   subst eo94
                                   obtain ⟨Ao95,co95,eo95⟩ := Kd.R_slice HO562.out
                                   subst eo95
                                   go_wp2
                                   repeat (go_quiet (fail);try go_wp2)
                                   go_meet
                                   case rel => exact ⟨_,(((t560.length : Int) != (t536.length : Int))),(by first | rfl | (simp;done) | (simp [*];done)),H',⟨by have := HJ3.out;have := HJ31.out;have := HJ60.out;have := HJ65.out;have := HJ73.out;first | omega | exact Nat.le_refl _⟩,⟨by (with_reducible repeat (first | apply Kd.R_alloc | apply Kd.R_drewN | apply Kd.R_drew));exact Kd.R_mono HO_7.out (fun _ hk => ⟨hk.1.2,hk.2⟩)⟩,⟨by (with_reducible repeat (first | apply Kd.R_alloc | apply Kd.R_drewN | apply Kd.R_drew));exact Kd.R_mono HO557.out (fun _ hk => ⟨hk.1.2,hk.2⟩)⟩,⟨by (with_reducible repeat (first | apply Kd.R_alloc | apply Kd.R_drewN | apply Kd.R_drew));exact Kd.R_mono HO562.out (fun _ hk => ⟨hk.1.2,hk.2⟩)⟩,⟨by (with_reducible repeat (first | refine blk_drewN ?_ _ | refine blk_drew ?_ | refine blk_alloc ?_ _));exact BK530.out⟩,⟨by (with_reducible repeat (first | refine blk_drewN ?_ _ | refine blk_drew ?_ | refine blk_alloc ?_ _));exact BK544.out⟩,⟨by repeat (first | (with_reducible first | exact HB.out | refine below_set ?_ (Aside0.out (by assumption)) | apply below_alloc | apply pw_below_drewN) | exact HB.out)⟩⟩
                               case rest =>
                                as_aux_lemma =>
                                 clear HC83
                                 try clear c1
                                 try clear c2
                                 try clear p2
                                 try clear c3
                                 try clear c4
                                 try clear c5
                                 try clear c6
                                 try clear p6
                                 try clear c7
                                 try clear c8
                                 try clear c9
                                 try clear c11
                                 try clear c27
                                 try clear c38
                                 try clear c40
                                 try clear c40b0
                                 try clear c40b1
                                 try clear c41
                                 try clear c41b0
                                 try clear c41b1
                                 try clear c42
                                 try clear c42b0
                                 try clear c42b1
                                 try clear c44
                                 try clear c45
                                 try clear c45b0
                                 try clear c45b1
                                 try clear c45b2
                                 try clear c47
                                 try clear c51
                                 try clear c55
                                 try clear c57
                                 try clear c59
                                 try clear c63
                                 try clear c63b0
                                 try clear c64
                                 try clear p64
                                 try clear c67
                                 try clear c70
                                 try clear c70b0
                                 try clear c70b1
                                 try clear c72
                                 try clear c76
                                 try clear c76b0
                                 try clear c77
                                 try clear c79
                                 try clear c84
                                 try clear c91
                                 try clear c91b0
                                 try clear c91b1
                                 try clear c92
                                 try clear c92b0
                                 try clear c92b1
                                 try clear c93
                                 try clear c93b0
                                 try clear c93b1
                                 try clear c93b2
                                 try clear hcz13_0
                                 try clear hcz13_1
                                 try clear hcz13_2
                                 try clear hcz13_3
                                 try clear hcz13_4
                                 try clear hcz15_0
                                 try clear hcz15_1
                                 try clear hcz15_2
                                 try clear hcz15_3
                                 try clear hcz15_4
                                 try clear hcz17_0
                                 try clear hcz17_1
                                 try clear hcz17_2
                                 try clear hcz17_3
                                 try clear hcz17_4
                                 try clear hcz19_0
                                 try clear hcz19_1
                                 try clear hcz19_2
                                 try clear hcz19_3
                                 try clear hcz19_4
                                 try clear hcz21_0
                                 try clear hcz21_1
                                 try clear hcz21_2
                                 try clear hcz21_3
                                 try clear hcz21_4
                                 try clear hcz23_0
                                 try clear hcz23_1
                                 try clear hcz23_2
                                 try clear hcz23_3
                                 try clear hcz23_4
                                 try clear hcz25_0
                                 try clear hcz25_1
                                 try clear hcz25_2
                                 try clear hcz25_3
                                 try clear hcz25_4
                                 try clear hcz33_0
                                 try clear hcz33_1
                                 try clear hcz33_2
                                 try clear hcz33_3
                                 try clear hcz33_4
                                 try clear hcz35_0
                                 try clear hcz35_1
                                 try clear hcz35_2
                                 try clear hcz35_3
                                 try clear hcz35_4
                                 try clear hcz39_0
                                 try clear hcz39_1
                                 try clear hcz48_0
                                 try clear hcz48_1
                                 try clear hcz50_0
                                 try clear hcz50_1
                                 try clear hcz50_2
                                 try clear hcz50_3
                                 try clear hcz50_4
                                 try clear hcz52_0
                                 try clear hcz52_1
                                 try clear hcz54_0
                                 try clear hcz54_1
                                 try clear hcz54_2
                                 try clear hcz54_3
                                 try clear hcz54_4
                                 try clear hcz56_0
                                 try clear hcz56_1
                                 try clear hcz58_0
                                 try clear hcz58_1
                                 try clear hcz68_0
                                 try clear hcz68_1
                                 try clear hcz68_2
                                 try clear hcz68_3
                                 try clear hcz68_4
                                 try clear hcz78_0
                                 try clear hcz78_1
                                 try clear hcz85_0
                                 try clear hcz85_1
                                 try clear hcz85_2
                                 try clear hcz85_3
                                 try clear hcz85_4
                                 try clear hcz86_0
                                 try clear hcz86_1
                                 try clear hcz88_0
                                 try clear hcz88_1
                                 try clear hcz88_2
                                 try clear hcz88_3
                                 try clear hcz88_4
                                 try clear hcz89_0
                                 try clear hcz89_1
                                 try clear hfz13_0
                                 try clear hfz13_1
                                 try clear hfz13_2
                                 try clear hfz13_3
                                 try clear hfz13_4
                                 try clear hfz15_0
                                 try clear hfz15_1
                                 try clear hfz15_2
                                 try clear hfz15_3
                                 try clear hfz15_4
                                 try clear hfz17_0
                                 try clear hfz17_1
                                 try clear hfz17_2
                                 try clear hfz17_3
                                 try clear hfz17_4
                                 try clear hfz19_0
                                 try clear hfz19_1
                                 try clear hfz19_2
                                 try clear hfz19_3
                                 try clear hfz19_4
                                 try clear hfz21_0
                                 try clear hfz21_1
                                 try clear hfz21_2
                                 try clear hfz21_3
                                 try clear hfz21_4
                                 try clear hfz23_0
                                 try clear hfz23_1
                                 try clear hfz23_2
                                 try clear hfz23_3
                                 try clear hfz23_4
                                 try clear hfz25_0
                                 try clear hfz25_1
                                 try clear hfz25_2
                                 try clear hfz25_3
                                 try clear hfz25_4
                                 try clear hfz33_0
                                 try clear hfz33_1
                                 try clear hfz33_2
                                 try clear hfz33_3
                                 try clear hfz33_4
                                 try clear hfz35_0
                                 try clear hfz35_1
                                 try clear hfz35_2
                                 try clear hfz35_3
                                 try clear hfz35_4
                                 try clear hfz39_0
                                 try clear hfz39_1
                                 try clear hfz48_0
                                 try clear hfz48_1
                                 try clear hfz50_0
                                 try clear hfz50_1
                                 try clear hfz50_2
                                 try clear hfz50_3
                                 try clear hfz50_4
                                 try clear hfz52_0
                                 try clear hfz52_1
                                 try clear hfz54_0
                                 try clear hfz54_1
                                 try clear hfz54_2
                                 try clear hfz54_3
                                 try clear hfz54_4
                                 try clear hfz56_0
                                 try clear hfz56_1
                                 try clear hfz58_0
                                 try clear hfz58_1
                                 try clear hfz68_0
                                 try clear hfz68_1
                                 try clear hfz68_2
                                 try clear hfz68_3
                                 try clear hfz68_4
                                 try clear hfz78_0
                                 try clear hfz78_1
                                 try clear hfz85_0
                                 try clear hfz85_1
                                 try clear hfz85_2
                                 try clear hfz85_3
                                 try clear hfz85_4
                                 try clear hfz86_0
                                 try clear hfz86_1
                                 try clear hfz88_0
                                 try clear hfz88_1
                                 try clear hfz88_2
                                 try clear hfz88_3
                                 try clear hfz88_4
                                 try clear hfz89_0
                                 try clear hfz89_1
                                 try clear p2
                                 try clear p6
                                 try clear p64
                                 obtain ⟨kq,x169_82,rfl,HA,HJ82,HO_7,HO_17,HO_20,BK530,BK544,HB⟩ := hcut
                                 cases kq with
                                 | zero => exact absurd HA.out (by simp [l4_CastleKept.j5])
                                 | succ kj82 =>
                                  have H := HA.out
                                  clear HA
                                  simp only [l4_CastleKept.j5] at H
                                  by_cases c97 : x169_82 = true
                                  · subst c97
                                    replace H : (none) = some r := by rw [if_pos rfl] at H;exact H
                                    exact absurd H (by simp)
                                  · as_aux_lemma =>
                                     replace c97 := Bool.eq_false_iff.mpr c97
                                     subst c97
                                     replace H : (l4_CastleKept.l0 kj82 t536 t555 t560 true 0) = some r := by rw [if_neg (show ¬ (false = true) by decide)] at H;exact H
                                     replace H' := am H
                                     go_wp2
                                     repeat (go_quiet (fail);try go_wp2)
                                     go_loopg [23,24] kj82 (fun kq v23 v24 w' => ∃ (x23_7 : Bool) (x24_7 : Int),v23 = .bool x23_7 ∧ v24 = .int .i64 x24_7 ∧ Aside0 (l4_CastleKept.l0 kq t536 t555 t560 x23_7 x24_7 = some r) ∧ Aside0 (kq ≤ kj82) ∧ Aside0 (Kd.R (Kd.int .i64) 3 w' w.heap.size (fun k_ => some k_ ≠ (v556 : Value).ownBlock ∧ some k_ ≠ (v561 : Value).ownBlock) (.slice Ao62 t536.length co62) t536) ∧ Aside0 (Kd.R (Kd.int .i64) 3 w' w.heap.size (fun k_ => some k_ ≠ ((.slice Ao62 t536.length co62) : Value).ownBlock ∧ some k_ ≠ (v561 : Value).ownBlock) v556 t555) ∧ Aside0 (Kd.R (Kd.int .i64) 3 w' w.heap.size (fun k_ => some k_ ≠ ((.slice Ao62 t536.length co62) : Value).ownBlock ∧ some k_ ≠ (v556 : Value).ownBlock) v561 t560) ∧ Aside0 (w'.heap[gb530]? = some (.cells #[(.slice A0_0 l0_0.length c0_0),.int .i64 a0_1,(.slice A0_2 l0_2.length c0_2),.int .i64 a0_3,.int .i64 a0_4] 27 (0,0))) ∧ Aside0 (w'.heap[gb544]? = some (.cells #[.int .i64 t541,.int .i64 t542] 40 (0,0))) ∧ Aside0 (Below w.heap.size w w'))
                                     case atStart => exact ⟨(true),(0),(by first | rfl | (simp;done) | (simp [*];done)),(by first | rfl | (simp;done) | (simp [*];done)),H',⟨Nat.le_refl _⟩,⟨by (with_reducible repeat (first | apply Kd.R_alloc | apply Kd.R_drewN | apply Kd.R_drew));exact HO_7.out⟩,⟨by (with_reducible repeat (first | apply Kd.R_alloc | apply Kd.R_drewN | apply Kd.R_drew));exact HO_17.out⟩,⟨by (with_reducible repeat (first | apply Kd.R_alloc | apply Kd.R_drewN | apply Kd.R_drew));exact HO_20.out⟩,⟨by (with_reducible repeat (first | refine blk_drewN ?_ _ | refine blk_drew ?_ | refine blk_alloc ?_ _));exact BK530.out⟩,⟨by (with_reducible repeat (first | refine blk_drewN ?_ _ | refine blk_drew ?_ | refine blk_alloc ?_ _));exact BK544.out⟩,⟨by repeat (first | (with_reducible first | exact HB.out | refine below_set ?_ (Aside0.out (by assumption)) | apply below_alloc | apply pw_below_drewN) | exact HB.out)⟩⟩
                                     case round =>
                                      as_aux_lemma =>
                                       clear H'
                                       try clear c1
                                       try clear c2
                                       try clear p2
                                       try clear c3
                                       try clear c4
                                       try clear c5
                                       try clear c6
                                       try clear p6
                                       try clear c7
                                       try clear c8
                                       try clear c9
                                       try clear c11
                                       try clear c27
                                       try clear c38
                                       try clear c40
                                       try clear c40b0
                                       try clear c40b1
                                       try clear c41
                                       try clear c41b0
                                       try clear c41b1
                                       try clear c42
                                       try clear c42b0
                                       try clear c42b1
                                       try clear c44
                                       try clear c45
                                       try clear c45b0
                                       try clear c45b1
                                       try clear c45b2
                                       try clear c47
                                       try clear c51
                                       try clear c55
                                       try clear c57
                                       try clear c59
                                       try clear c63
                                       try clear c63b0
                                       try clear c64
                                       try clear p64
                                       try clear c67
                                       try clear c70
                                       try clear c70b0
                                       try clear c70b1
                                       try clear c72
                                       try clear c76
                                       try clear c76b0
                                       try clear c77
                                       try clear c79
                                       try clear c84
                                       try clear c91
                                       try clear c91b0
                                       try clear c91b1
                                       try clear c92
                                       try clear c92b0
                                       try clear c92b1
                                       try clear c93
                                       try clear c93b0
                                       try clear c93b1
                                       try clear c93b2
                                       try clear c97
                                       try clear hcz13_0
                                       try clear hcz13_1
                                       try clear hcz13_2
                                       try clear hcz13_3
                                       try clear hcz13_4
                                       try clear hcz15_0
                                       try clear hcz15_1
                                       try clear hcz15_2
                                       try clear hcz15_3
                                       try clear hcz15_4
                                       try clear hcz17_0
                                       try clear hcz17_1
                                       try clear hcz17_2
                                       try clear hcz17_3
                                       try clear hcz17_4
                                       try clear hcz19_0
                                       try clear hcz19_1
                                       try clear hcz19_2
                                       try clear hcz19_3
                                       try clear hcz19_4
                                       try clear hcz21_0
                                       try clear hcz21_1
                                       try clear hcz21_2
                                       try clear hcz21_3
                                       try clear hcz21_4
                                       try clear hcz23_0
                                       try clear hcz23_1
                                       try clear hcz23_2
                                       try clear hcz23_3
                                       try clear hcz23_4
                                       try clear hcz25_0
                                       try clear hcz25_1
                                       try clear hcz25_2
                                       try clear hcz25_3
                                       try clear hcz25_4
                                       try clear hcz33_0
                                       try clear hcz33_1
                                       try clear hcz33_2
                                       try clear hcz33_3
                                       try clear hcz33_4
                                       try clear hcz35_0
                                       try clear hcz35_1
                                       try clear hcz35_2
                                       try clear hcz35_3
                                       try clear hcz35_4
                                       try clear hcz39_0
                                       try clear hcz39_1
                                       try clear hcz48_0
                                       try clear hcz48_1
                                       try clear hcz50_0
                                       try clear hcz50_1
                                       try clear hcz50_2
                                       try clear hcz50_3
                                       try clear hcz50_4
                                       try clear hcz52_0
                                       try clear hcz52_1
                                       try clear hcz54_0
                                       try clear hcz54_1
                                       try clear hcz54_2
                                       try clear hcz54_3
                                       try clear hcz54_4
                                       try clear hcz56_0
                                       try clear hcz56_1
                                       try clear hcz58_0
                                       try clear hcz58_1
                                       try clear hcz68_0
                                       try clear hcz68_1
                                       try clear hcz68_2
                                       try clear hcz68_3
                                       try clear hcz68_4
                                       try clear hcz78_0
                                       try clear hcz78_1
                                       try clear hcz85_0
                                       try clear hcz85_1
                                       try clear hcz85_2
                                       try clear hcz85_3
                                       try clear hcz85_4
                                       try clear hcz86_0
                                       try clear hcz86_1
                                       try clear hcz88_0
                                       try clear hcz88_1
                                       try clear hcz88_2
                                       try clear hcz88_3
                                       try clear hcz88_4
                                       try clear hcz89_0
                                       try clear hcz89_1
                                       try clear hfz13_0
                                       try clear hfz13_1
                                       try clear hfz13_2
                                       try clear hfz13_3
                                       try clear hfz13_4
                                       try clear hfz15_0
                                       try clear hfz15_1
                                       try clear hfz15_2
                                       try clear hfz15_3
                                       try clear hfz15_4
                                       try clear hfz17_0
                                       try clear hfz17_1
                                       try clear hfz17_2
                                       try clear hfz17_3
                                       try clear hfz17_4
                                       try clear hfz19_0
                                       try clear hfz19_1
                                       try clear hfz19_2
                                       try clear hfz19_3
                                       try clear hfz19_4
                                       try clear hfz21_0
                                       try clear hfz21_1
                                       try clear hfz21_2
                                       try clear hfz21_3
                                       try clear hfz21_4
                                       try clear hfz23_0
                                       try clear hfz23_1
                                       try clear hfz23_2
                                       try clear hfz23_3
                                       try clear hfz23_4
                                       try clear hfz25_0
                                       try clear hfz25_1
                                       try clear hfz25_2
                                       try clear hfz25_3
                                       try clear hfz25_4
                                       try clear hfz33_0
                                       try clear hfz33_1
                                       try clear hfz33_2
                                       try clear hfz33_3
                                       try clear hfz33_4
                                       try clear hfz35_0
                                       try clear hfz35_1
                                       try clear hfz35_2
                                       try clear hfz35_3
                                       try clear hfz35_4
                                       try clear hfz39_0
                                       try clear hfz39_1
                                       try clear hfz48_0
                                       try clear hfz48_1
                                       try clear hfz50_0
                                       try clear hfz50_1
                                       try clear hfz50_2
                                       try clear hfz50_3
                                       try clear hfz50_4
                                       try clear hfz52_0
                                       try clear hfz52_1
                                       try clear hfz54_0
                                       try clear hfz54_1
                                       try clear hfz54_2
                                       try clear hfz54_3
                                       try clear hfz54_4
                                       try clear hfz56_0
                                       try clear hfz56_1
                                       try clear hfz58_0
                                       try clear hfz58_1
                                       try clear hfz68_0
                                       try clear hfz68_1
                                       try clear hfz68_2
                                       try clear hfz68_3
                                       try clear hfz68_4
                                       try clear hfz78_0
                                       try clear hfz78_1
                                       try clear hfz85_0
                                       try clear hfz85_1
                                       try clear hfz85_2
                                       try clear hfz85_3
                                       try clear hfz85_4
                                       try clear hfz86_0
                                       try clear hfz86_1
                                       try clear hfz88_0
                                       try clear hfz88_1
                                       try clear hfz88_2
                                       try clear hfz88_3
                                       try clear hfz88_4
                                       try clear hfz89_0
                                       try clear hfz89_1
                                       try clear p2
                                       try clear p6
                                       try clear p64
                                       obtain ⟨x23_7,x24_7,rfl,rfl,HA,HK7,HO_7,HO_17,HO_20,BK530,BK544,HB⟩ := hrel
                                       cases gk with
                                       | zero => exact absurd HA.out (by simp [l4_CastleKept.l0])
                                       | succ k7 =>
                                        have H := HA.out
                                        clear HA
                                        simp only [l4_CastleKept.l0] at H
                                        by_cases c98 : x24_7 < (t536.length : Int)
                                        case neg =>
                                         rw [if_neg c98] at H
                                         have c98b0 : decide (x24_7 < (t536.length : Int)) = false := decide_eq_false c98
                                         clear c98
                                         replace H := obm H
                                         obtain ⟨t573,A1100,H⟩ := H
                                         replace H : (some t573) = some r := H
                                         have A110 := am A1100
                                         clear A1100
                                         obtain rfl := Option.some.inj H
                                         go_wp2_with (first | (go_at_call 15;(with_reducible refine (l4_known.calls  t573 _ A110.out).mono ?_);rintro e w111 ⟨rfl,hb⟩;replace HO_7 := am (Kd.R_below (by (with_reducible repeat (first | apply Kd.R_alloc | apply Kd.R_drewN | apply Kd.R_drew));exact HO_7.out) hb);replace HO_17 := am (Kd.R_below (by (with_reducible repeat (first | apply Kd.R_alloc | apply Kd.R_drewN | apply Kd.R_drew));exact HO_17.out) hb);replace HO_20 := am (Kd.R_below (by (with_reducible repeat (first | apply Kd.R_alloc | apply Kd.R_drewN | apply Kd.R_drew));exact HO_20.out) hb);replace BK530 := am (blk_below (g := gb530) (o := .cells #[.slice A0_0 l0_0.length c0_0,.int .i64 a0_1,.slice A0_2 l0_2.length c0_2,.int .i64 a0_3,.int .i64 a0_4] 27 (0,0)) (by (with_reducible repeat (first | refine blk_drewN ?_ _ | refine blk_drew ?_ | refine blk_alloc ?_ _));exact BK530.out) hb);replace BK544 := am (blk_below (g := gb544) (o := .cells #[.int .i64 t541,.int .i64 t542] 40 (0,0)) (by (with_reducible repeat (first | refine blk_drewN ?_ _ | refine blk_drew ?_ | refine blk_alloc ?_ _));exact BK544.out) hb);replace HB := am (below_step (by repeat (first | (with_reducible first | exact HB.out | refine below_set ?_ (Aside0.out (by assumption)) | apply below_alloc | apply pw_below_drewN) | exact HB.out)) hb);(try clear hb);(try clear hb2);(try clear hk);(try clear hi)))
                                         repeat (go_quiet (first | (go_at_call 15;(with_reducible refine (l4_known.calls  t573 _ A110.out).mono ?_);rintro e w111 ⟨rfl,hb⟩;replace HO_7 := am (Kd.R_below (by (with_reducible repeat (first | apply Kd.R_alloc | apply Kd.R_drewN | apply Kd.R_drew));exact HO_7.out) hb);replace HO_17 := am (Kd.R_below (by (with_reducible repeat (first | apply Kd.R_alloc | apply Kd.R_drewN | apply Kd.R_drew));exact HO_17.out) hb);replace HO_20 := am (Kd.R_below (by (with_reducible repeat (first | apply Kd.R_alloc | apply Kd.R_drewN | apply Kd.R_drew));exact HO_20.out) hb);replace BK530 := am (blk_below (g := gb530) (o := .cells #[.slice A0_0 l0_0.length c0_0,.int .i64 a0_1,.slice A0_2 l0_2.length c0_2,.int .i64 a0_3,.int .i64 a0_4] 27 (0,0)) (by (with_reducible repeat (first | refine blk_drewN ?_ _ | refine blk_drew ?_ | refine blk_alloc ?_ _));exact BK530.out) hb);replace BK544 := am (blk_below (g := gb544) (o := .cells #[.int .i64 t541,.int .i64 t542] 40 (0,0)) (by (with_reducible repeat (first | refine blk_drewN ?_ _ | refine blk_drew ?_ | refine blk_alloc ?_ _));exact BK544.out) hb);replace HB := am (below_step (by repeat (first | (with_reducible first | exact HB.out | refine below_set ?_ (Aside0.out (by assumption)) | apply below_alloc | apply pw_below_drewN) | exact HB.out)) hb);(try clear hb);(try clear hb2);(try clear hk);(try clear hi)));try go_wp2_with (first | (go_at_call 15;(with_reducible refine (l4_known.calls  t573 _ A110.out).mono ?_);rintro e w111 ⟨rfl,hb⟩;replace HO_7 := am (Kd.R_below (by (with_reducible repeat (first | apply Kd.R_alloc | apply Kd.R_drewN | apply Kd.R_drew));exact HO_7.out) hb);replace HO_17 := am (Kd.R_below (by (with_reducible repeat (first | apply Kd.R_alloc | apply Kd.R_drewN | apply Kd.R_drew));exact HO_17.out) hb);replace HO_20 := am (Kd.R_below (by (with_reducible repeat (first | apply Kd.R_alloc | apply Kd.R_drewN | apply Kd.R_drew));exact HO_20.out) hb);replace BK530 := am (blk_below (g := gb530) (o := .cells #[.slice A0_0 l0_0.length c0_0,.int .i64 a0_1,.slice A0_2 l0_2.length c0_2,.int .i64 a0_3,.int .i64 a0_4] 27 (0,0)) (by (with_reducible repeat (first | refine blk_drewN ?_ _ | refine blk_drew ?_ | refine blk_alloc ?_ _));exact BK530.out) hb);replace BK544 := am (blk_below (g := gb544) (o := .cells #[.int .i64 t541,.int .i64 t542] 40 (0,0)) (by (with_reducible repeat (first | refine blk_drewN ?_ _ | refine blk_drew ?_ | refine blk_alloc ?_ _));exact BK544.out) hb);replace HB := am (below_step (by repeat (first | (with_reducible first | exact HB.out | refine below_set ?_ (Aside0.out (by assumption)) | apply below_alloc | apply pw_below_drewN) | exact HB.out)) hb);(try clear hb);(try clear hb2);(try clear hk);(try clear hi))))
                                         go_ret
                                         exact ⟨by first | rfl | (simp [errW_none,errW_some] <;> rfl) | (simp only [← hji81];first | rfl | (simp [errW_none,errW_some] <;> rfl)) | (simp [*,errW_none,errW_some] <;> rfl),by repeat (first | (with_reducible first | exact HB.out | refine below_set ?_ (Aside0.out (by assumption)) | apply below_alloc | apply pw_below_drewN) | exact HB.out)⟩
                                        as_aux_lemma =>
                                         rw [if_pos c98] at H
                                         have c98b0 : decide (x24_7 < (t536.length : Int)) = true := decide_eq_true c98
                                         clear c98
                                         by_cases c99 : 0 ≤ x24_7
                                         case neg =>
                                          rw [if_neg c99] at H
                                          exact absurd H (by simp)
                                         as_aux_lemma =>
                                          rw [if_pos c99] at H
                                          have c99b0 : decide (0 ≤ x24_7) = true := decide_eq_true c99
                                          clear c99
                                          by_cases c100 : x24_7 < (t555.length : Int)
                                          case neg =>
                                           rw [if_neg c100] at H
                                           exact absurd H (by simp)
                                          as_aux_lemma =>
                                           rw [if_pos c100] at H
                                           have c100b0 : decide (x24_7 < (t555.length : Int)) = true := decide_eq_true c100
                                           clear c100
                                           by_cases c101 : (rd t536 x24_7) < (rd t555 x24_7)
                                           · rw [if_pos c101] at H
                                             exact absurd H (by simp)
                                           · as_aux_lemma =>
                                              rw [if_neg c101] at H
                                              have c101b0 : decide ((rd t536 x24_7) < (rd t555 x24_7)) = false := decide_eq_false c101
                                              clear c101
                                              by_cases c102 : x24_7 < (t560.length : Int)
                                              case neg =>
                                               rw [if_neg c102] at H
                                               exact absurd H (by simp)
                                              as_aux_lemma =>
                                               rw [if_pos c102] at H
                                               have c102b0 : decide (x24_7 < (t560.length : Int)) = true := decide_eq_true c102
                                               clear c102
                                               by_cases c103 : (rd t536 x24_7) > (rd t560 x24_7)
                                               · rw [if_pos c103] at H
                                                 exact absurd H (by simp)
                                               · as_aux_lemma =>
                                                  rw [if_neg c103] at H
                                                  have c103b0 : decide ((rd t560 x24_7) < (rd t536 x24_7)) = false := decide_eq_false c103
                                                  clear c103
                                                  by_cases c104 : x23_7 = true
                                                  · as_aux_lemma =>
                                                     subst c104
                                                     replace H : (l4_CastleKept.l0 k7 t536 t555 t560 ((rd t536 x24_7) == (rd t560 x24_7)) (wrap64 (x24_7 + 1))) = some r := by rw [if_pos rfl] at H;exact H
                                                     replace H' := am H
                                                     have p565 : 0 ≤ (x24_7 : Int) := of_decide_eq_true (by assumption)
                                                     have q565 : x24_7 < (t536.length : Int) := of_decide_eq_true (by assumption)
                                                     obtain ⟨ad565,e565,hx565_0⟩ := Kd.at_int (Kd.R_reads' HO_7.out).2.2 x24_7 p565 q565
                                                     cases e565
                                                     replace p565 := eq_true p565
                                                     replace q565 := eq_true q565
                                                     obtain ⟨Ao105,co105,eo105⟩ := Kd.R_slice HO_17.out
                                                     subst eo105
                                                     have p566 : 0 ≤ (x24_7 : Int) := of_decide_eq_true (by assumption)
                                                     have q566 : x24_7 < (t555.length : Int) := of_decide_eq_true (by assumption)
                                                     obtain ⟨ad566,e566,hx566_0⟩ := Kd.at_int (Kd.R_reads' HO_17.out).2.2 x24_7 p566 q566
                                                     cases e566
                                                     replace p566 := eq_true p566
                                                     replace q566 := eq_true q566
                                                     have p567 : 0 ≤ (x24_7 : Int) := of_decide_eq_true (by assumption)
                                                     have q567 : x24_7 < (t536.length : Int) := of_decide_eq_true (by assumption)
                                                     obtain ⟨ad567,e567,hx567_0⟩ := Kd.at_int (Kd.R_reads' HO_7.out).2.2 x24_7 p567 q567
                                                     obtain rfl : ad565 = ad567 := (by injection e567)
                                                     replace p567 := eq_true p567
                                                     replace q567 := eq_true q567
                                                     obtain ⟨Ao106,co106,eo106⟩ := Kd.R_slice HO_20.out
                                                     subst eo106
                                                     have p568 : 0 ≤ (x24_7 : Int) := of_decide_eq_true (by assumption)
                                                     have q568 : x24_7 < (t560.length : Int) := of_decide_eq_true (by assumption)
                                                     obtain ⟨ad568,e568,hx568_0⟩ := Kd.at_int (Kd.R_reads' HO_20.out).2.2 x24_7 p568 q568
                                                     cases e568
                                                     replace p568 := eq_true p568
                                                     replace q568 := eq_true q568
                                                     have p569 : 0 ≤ (x24_7 : Int) := of_decide_eq_true (by assumption)
                                                     have q569 : x24_7 < (t536.length : Int) := of_decide_eq_true (by assumption)
                                                     obtain ⟨ad569,e569,hx569_0⟩ := Kd.at_int (Kd.R_reads' HO_7.out).2.2 x24_7 p569 q569
                                                     obtain rfl : ad565 = ad569 := (by injection e569)
                                                     replace p569 := eq_true p569
                                                     replace q569 := eq_true q569
                                                     have p570 : 0 ≤ (x24_7 : Int) := of_decide_eq_true (by assumption)
                                                     have q570 : x24_7 < (t560.length : Int) := of_decide_eq_true (by assumption)
                                                     obtain ⟨ad570,e570,hx570_0⟩ := Kd.at_int (Kd.R_reads' HO_20.out).2.2 x24_7 p570 q570
                                                     obtain rfl : ad568 = ad570 := (by injection e570)
                                                     replace p570 := eq_true p570
                                                     replace q570 := eq_true q570
                                                     go_wp2
                                                     repeat (go_quiet (fail);try go_wp2)
                                                     go_roundg k7
                                                     case measure => have := HJ3.out;have := HJ31.out;have := HJ60.out;have := HJ65.out;have := HJ73.out;have := HJ82.out;have := HK7.out;omega
                                                     case rel => exact ⟨(((rd t536 x24_7) == (rd t560 x24_7))),(wrap64 (x24_7 + 1)),(by first | rfl | (simp;done) | (simp [*];done)),(by first | rfl | (simp;done) | (simp [*];done)),H',⟨by have := HJ3.out;have := HJ31.out;have := HJ60.out;have := HJ65.out;have := HJ73.out;have := HJ82.out;have := HK7.out;omega⟩,⟨by (with_reducible repeat (first | apply Kd.R_alloc | apply Kd.R_drewN | apply Kd.R_drew));exact HO_7.out⟩,⟨by (with_reducible repeat (first | apply Kd.R_alloc | apply Kd.R_drewN | apply Kd.R_drew));exact HO_17.out⟩,⟨by (with_reducible repeat (first | apply Kd.R_alloc | apply Kd.R_drewN | apply Kd.R_drew));exact HO_20.out⟩,⟨by (with_reducible repeat (first | refine blk_drewN ?_ _ | refine blk_drew ?_ | refine blk_alloc ?_ _));exact BK530.out⟩,⟨by (with_reducible repeat (first | refine blk_drewN ?_ _ | refine blk_drew ?_ | refine blk_alloc ?_ _));exact BK544.out⟩,⟨by repeat (first | (with_reducible first | exact HB.out | refine below_set ?_ (Aside0.out (by assumption)) | apply below_alloc | apply pw_below_drewN) | exact HB.out)⟩⟩
                                                  · as_aux_lemma =>
                                                     replace c104 := Bool.eq_false_iff.mpr c104
                                                     subst c104
                                                     replace H : (if (rd t536 x24_7) = (rd t555 x24_7) then (l4_CastleKept.l0 k7 t536 t555 t560 false (wrap64 (x24_7 + 1))) else (none)) = some r := by rw [if_neg (show ¬ (false = true) by decide)] at H;exact H
                                                     by_cases c107 : (rd t536 x24_7) = (rd t555 x24_7)
                                                     case neg =>
                                                      rw [if_neg c107] at H
                                                      exact absurd H (by simp)
                                                     as_aux_lemma =>
                                                      rw [if_pos c107] at H
                                                      have c107b0 : ((rd t536 x24_7) == (rd t555 x24_7)) = true := beq_iff_eq.mpr c107
                                                      have c107b1 : ((rd t536 x24_7) != (rd t555 x24_7)) = false := bne_eq_false_iff_eq.mpr c107
                                                      clear c107
                                                      replace H' := am H
                                                      have p565 : 0 ≤ (x24_7 : Int) := of_decide_eq_true (by assumption)
                                                      have q565 : x24_7 < (t536.length : Int) := of_decide_eq_true (by assumption)
                                                      obtain ⟨ad565,e565,hx565_0⟩ := Kd.at_int (Kd.R_reads' HO_7.out).2.2 x24_7 p565 q565
                                                      cases e565
                                                      replace p565 := eq_true p565
                                                      replace q565 := eq_true q565
                                                      obtain ⟨Ao108,co108,eo108⟩ := Kd.R_slice HO_17.out
                                                      subst eo108
                                                      have p566 : 0 ≤ (x24_7 : Int) := of_decide_eq_true (by assumption)
                                                      have q566 : x24_7 < (t555.length : Int) := of_decide_eq_true (by assumption)
                                                      obtain ⟨ad566,e566,hx566_0⟩ := Kd.at_int (Kd.R_reads' HO_17.out).2.2 x24_7 p566 q566
                                                      cases e566
                                                      replace p566 := eq_true p566
                                                      replace q566 := eq_true q566
                                                      have p567 : 0 ≤ (x24_7 : Int) := of_decide_eq_true (by assumption)
                                                      have q567 : x24_7 < (t536.length : Int) := of_decide_eq_true (by assumption)
                                                      obtain ⟨ad567,e567,hx567_0⟩ := Kd.at_int (Kd.R_reads' HO_7.out).2.2 x24_7 p567 q567
                                                      obtain rfl : ad565 = ad567 := (by injection e567)
                                                      replace p567 := eq_true p567
                                                      replace q567 := eq_true q567
                                                      obtain ⟨Ao109,co109,eo109⟩ := Kd.R_slice HO_20.out
                                                      subst eo109
                                                      have p568 : 0 ≤ (x24_7 : Int) := of_decide_eq_true (by assumption)
                                                      have q568 : x24_7 < (t560.length : Int) := of_decide_eq_true (by assumption)
                                                      obtain ⟨ad568,e568,hx568_0⟩ := Kd.at_int (Kd.R_reads' HO_20.out).2.2 x24_7 p568 q568
                                                      cases e568
                                                      replace p568 := eq_true p568
                                                      replace q568 := eq_true q568
                                                      have p571 : 0 ≤ (x24_7 : Int) := of_decide_eq_true (by assumption)
                                                      have q571 : x24_7 < (t536.length : Int) := of_decide_eq_true (by assumption)
                                                      obtain ⟨ad571,e571,hx571_0⟩ := Kd.at_int (Kd.R_reads' HO_7.out).2.2 x24_7 p571 q571
                                                      obtain rfl : ad565 = ad571 := (by injection e571)
                                                      replace p571 := eq_true p571
                                                      replace q571 := eq_true q571
                                                      have p572 : 0 ≤ (x24_7 : Int) := of_decide_eq_true (by assumption)
                                                      have q572 : x24_7 < (t555.length : Int) := of_decide_eq_true (by assumption)
                                                      obtain ⟨ad572,e572,hx572_0⟩ := Kd.at_int (Kd.R_reads' HO_17.out).2.2 x24_7 p572 q572
                                                      obtain rfl : ad566 = ad572 := (by injection e572)
                                                      replace p572 := eq_true p572
                                                      replace q572 := eq_true q572
                                                      go_wp2
                                                      repeat (go_quiet (fail);try go_wp2)
                                                      go_roundg k7
                                                      case measure => have := HJ3.out;have := HJ31.out;have := HJ60.out;have := HJ65.out;have := HJ73.out;have := HJ82.out;have := HK7.out;omega
                                                      case rel => exact ⟨(false),(wrap64 (x24_7 + 1)),(by first | rfl | (simp;done) | (simp [*];done)),(by first | rfl | (simp;done) | (simp [*];done)),H',⟨by have := HJ3.out;have := HJ31.out;have := HJ60.out;have := HJ65.out;have := HJ73.out;have := HJ82.out;have := HK7.out;omega⟩,⟨by (with_reducible repeat (first | apply Kd.R_alloc | apply Kd.R_drewN | apply Kd.R_drew));exact HO_7.out⟩,⟨by (with_reducible repeat (first | apply Kd.R_alloc | apply Kd.R_drewN | apply Kd.R_drew));exact HO_17.out⟩,⟨by (with_reducible repeat (first | apply Kd.R_alloc | apply Kd.R_drewN | apply Kd.R_drew));exact HO_20.out⟩,⟨by (with_reducible repeat (first | refine blk_drewN ?_ _ | refine blk_drew ?_ | refine blk_alloc ?_ _));exact BK530.out⟩,⟨by (with_reducible repeat (first | refine blk_drewN ?_ _ | refine blk_drew ?_ | refine blk_alloc ?_ _));exact BK544.out⟩,⟨by repeat (first | (with_reducible first | exact HB.out | refine below_set ?_ (Aside0.out (by assumption)) | apply below_alloc | apply pw_below_drewN) | exact HB.out)⟩⟩
end
end Go.Proofs.YticlelgmmonloaaGreatDoor.C

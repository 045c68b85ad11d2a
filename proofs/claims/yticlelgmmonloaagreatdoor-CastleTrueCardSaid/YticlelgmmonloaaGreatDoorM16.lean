/- A part of the proof: the walks of the functions that it reaches. TIGHT. -/
import Derived.Test.YticlelgmmonloaaGreatDoorM15
import Derived.Test.YticlelgmmonloaaGreatDoorM9
set_option linter.unusedVariables false
set_option linter.unusedSimpArgs false
namespace Go.Proofs.YticlelgmmonloaaGreatDoor.C
open Go.RowKit Go.Proofs.YticlelgmmonloaaGreatDoorW.PrintWords Go.Proofs.YticlelgmmonloaaGreatDoorW.PrintLast Go.Proofs.YticlelgmmonloaaGreatDoorW.PrintMore
set_option linter.unusedVariables false
set_option linter.unusedSimpArgs false
set_option maxHeartbeats 16000000
set_option maxRecDepth 100000
section
attribute [local go_sem] max2_int min2_int max_two min_two
def q4_Basin.l0 : Nat → Int → List (S126) → Int → List (S64) → Int → Int → Option (Bool)
 | 0,_,_,_,_,_,_ => none
 | k + 1,x3,x471000,x471001,x471002,x471003,x471004 => if x3 < (x471002.length : Int) then (if 0 ≤ x3 then ((q4_in.f ((rd_T64 x471002 x3).f0) 0 (wrap64 ((x471000.length : Int) - 1))).bind fun t472 => (if t472 = true then ((q4_Height.f ((rd_T64 x471002 x3).f1)).bind fun t474 => (if t474 = true then (q4_Basin.l0 k (wrap64 (x3 + 1)) x471000 x471001 x471002 x471003 x471004) else (some false))) else (some false))) else (none)) else ((q3_Table.f k x471000 x471001).bind fun t475 => (if t475 = true then ((q4_in.f (x471002.length : Int) 1 6).bind fun t476 => (if t476 = true then ((q4_Height.f x471003).bind fun t477 => (if t477 = true then ((q4_in.f x471004 0 100).bind fun t478 => (some t478)) else (some false))) else (some false))) else (some false)))
def q4_Basin.f (k : Nat) (l0_0 : List (S126)) (a0_1 : Int) (l0_2 : List (S64)) (a0_3 : Int) (a0_4 : Int) : Option (Bool) := q4_Basin.l0 k 0 l0_0 a0_1 l0_2 a0_3 a0_4
theorem in_w {a b c : Int} {r : Bool} (h : q4_in.f a b (wrap64 c) = some r) : q4_in.f a b (IntKind.i64.wrap c) = some r := by rw [i64_w];exact h
theorem q4_Basin.calls (k : Nat) (A0_0 : Option Addr) (c0_0 : Nat) (l0_0 : List (S126)) (a0_1 : Int) (A0_2 : Option Addr) (c0_2 : Nat) (l0_2 : List (S64)) (a0_3 : Int) (a0_4 : Int) (r : Bool) (w : World) (hr0_0 : Kd.C k126 w A0_0 l0_0.length l0_0) (hc0_0 : l0_0.length ≤ c0_0) (hr0_2 : Kd.C k64 w A0_2 l0_2.length l0_2) (hc0_2 : l0_2.length ≤ c0_2) (h : q4_Basin.f k l0_0 a0_1 l0_2 a0_3 a0_4 = some r) :
 Calls Tryz.prog 17 #[.agg #[.slice A0_0 l0_0.length c0_0,.int .i64 a0_1,.slice A0_2 l0_2.length c0_2,.int .i64 a0_3,.int .i64 a0_4]] w fun e w' => e = .returned (.bool r) ∧ Below w.heap.size w w' := by
 have hu27 := Tryz.underlying27
 have hu24 := Tryz.underlying24
 have HR0_0 := am hr0_0
 have HC0_0 := am hc0_0
 clear hr0_0 hc0_0
 have HR0_2 := am hr0_2
 have HC0_2 := am hc0_2
 clear hr0_2 hc0_2
 have HB := am (Below.refl w.heap.size w)
 have H : (q4_Basin.l0 k 0 l0_0 a0_1 l0_2 a0_3 a0_4) = some r := h
 clear h
 replace H' := am H
 go_enter Tryz.func17,Tryz.ntmps17
 go_wp2_with (first | ((refine gate_dst (N := 1) rfl ?_);(try (refine gate_guard (by rfl) ?_;dsimp only));refine box_event rfl (N := 1) rfl (cs := #[.slice A0_0 l0_0.length c0_0,.int .i64 a0_1,.slice A0_2 l0_2.length c0_2,.int .i64 a0_3,.int .i64 a0_4]) (t := 27) ?hr ?_;(case hr => go_simp;try rfl);intro gb470 hg w2 hbox hb;have BK470 := am (hbox);have GW470 := am (ge_new (HB.out) hg);have GE470 := am (ge_new (HB.out) hg);replace HB := am (below_step (HB.out) hb);clear hb hbox hg))
 repeat (go_quiet (first | ((refine gate_dst (N := 1) rfl ?_);(try (refine gate_guard (by rfl) ?_;dsimp only));refine box_event rfl (N := 1) rfl (cs := #[.slice A0_0 l0_0.length c0_0,.int .i64 a0_1,.slice A0_2 l0_2.length c0_2,.int .i64 a0_3,.int .i64 a0_4]) (t := 27) ?hr ?_;(case hr => go_simp;try rfl);intro gb470 hg w2 hbox hb;have BK470 := am (hbox);have GW470 := am (ge_new (by repeat (first | (with_reducible first | exact HB.out | apply below_alloc | apply pw_below_drewN) | exact HB.out)) hg);have GE470 := am (ge_new (by repeat (first | (with_reducible first | exact HB.out | apply below_alloc | apply pw_below_drewN) | exact HB.out)) hg);replace HB := am (below_step (by repeat (first | (with_reducible first | exact HB.out | apply below_alloc | apply pw_below_drewN) | exact HB.out)) hb);clear hb hbox hg));try go_wp2_with (first | ((refine gate_dst (N := 1) rfl ?_);(try (refine gate_guard (by rfl) ?_;dsimp only));refine box_event rfl (N := 1) rfl (cs := #[.slice A0_0 l0_0.length c0_0,.int .i64 a0_1,.slice A0_2 l0_2.length c0_2,.int .i64 a0_3,.int .i64 a0_4]) (t := 27) ?hr ?_;(case hr => go_simp;try rfl);intro gb470 hg w2 hbox hb;have BK470 := am (hbox);have GW470 := am (ge_new (by repeat (first | (with_reducible first | exact HB.out | apply below_alloc | apply pw_below_drewN) | exact HB.out)) hg);have GE470 := am (ge_new (by repeat (first | (with_reducible first | exact HB.out | apply below_alloc | apply pw_below_drewN) | exact HB.out)) hg);replace HB := am (below_step (by repeat (first | (with_reducible first | exact HB.out | apply below_alloc | apply pw_below_drewN) | exact HB.out)) hb);clear hb hbox hg)))
 go_loopg [3] k (fun kq v3 w' => ∃ (x3_1 : Int),v3 = .int .i64 x3_1 ∧ Aside0 (q4_Basin.l0 kq x3_1 l0_0 a0_1 l0_2 a0_3 a0_4 = some r) ∧ Aside0 (kq ≤ k) ∧ Aside0 (w'.heap[gb470]? = some (.cells #[(.slice A0_0 l0_0.length c0_0),.int .i64 a0_1,(.slice A0_2 l0_2.length c0_2),.int .i64 a0_3,.int .i64 a0_4] 27 (0,0))) ∧ Aside0 (Below w.heap.size w w'))
 case atStart => exact ⟨(0),(by first | rfl | (simp;done) | (simp [*];done)),H',⟨Nat.le_refl _⟩,⟨BK470.out⟩,⟨HB.out⟩⟩
 case round =>
  clear H'
  obtain ⟨x3_1,rfl,HA,HK1,BK470,HB⟩ := hrel
  cases gk with
  | zero => exact absurd HA.out (by simp [q4_Basin.l0])
  | succ k1 =>
   have H := HA.out
   clear HA
   simp only [q4_Basin.l0] at H
   by_cases c3 : x3_1 < (l0_2.length : Int)
   · rw [if_pos c3] at H
     have c3b0 : decide (x3_1 < (l0_2.length : Int)) = true := decide_eq_true c3
     clear c3
     by_cases c4 : 0 ≤ x3_1
     case neg =>
      rw [if_neg c4] at H
      exact absurd H (by simp)
     rw [if_pos c4] at H
     have c4b0 : decide (0 ≤ x3_1) = true := decide_eq_true c4
     clear c4
     replace H := obm H
     obtain ⟨t472,A50,H⟩ := H
     replace H : (if t472 = true then ((q4_Height.f ((rd_T64 l0_2 x3_1).f1)).bind fun t474 => (if t474 = true then (q4_Basin.l0 k1 (wrap64 (x3_1 + 1)) l0_0 a0_1 l0_2 a0_3 a0_4) else (some false))) else (some false)) = some r := H
     have A5 := am A50
     clear A50
     by_cases c6 : t472 = true
     case neg =>
      replace c6 := Bool.eq_false_iff.mpr c6
      subst c6
      replace H : (some false) = some r := by rw [if_neg (show ¬ (false = true) by decide)] at H;exact H
      obtain rfl := Option.some.inj H
      obtain ⟨hcz11_0,hcz11_1,hcz11_2,hcz11_3,hcz11_4⟩ := cO5 BK470.out
      have p471 : 0 ≤ (x3_1 : Int) := of_decide_eq_true (by assumption)
      have q471 : x3_1 < (l0_2.length : Int) := of_decide_eq_true (by assumption)
      obtain ⟨ad471,e471,hx471_0,hx471_1⟩ := at_T64 HR0_2.out x3_1 p471 q471
      cases e471
      replace hx471_0 := (HB.out.cell (wbl hx471_0)).trans hx471_0
      replace hx471_1 := (HB.out.cell (wbl hx471_1)).trans hx471_1
      replace p471 := eq_true p471
      replace q471 := eq_true q471
      go_wp2_with (first | (go_at_call 61;(with_reducible refine (q4_in.calls ((rd_T64 l0_2 x3_1).f0) 0 (wrap64 ((l0_0.length : Int) - 1)) false _ A5.out).mono ?_);rintro e w' ⟨rfl,⟨nd,rfl⟩⟩;(try first | exact ⟨rfl,_,World.drewN_drewN _ _ _⟩ | exact ⟨rfl,_,Eq.trans (World.drewN_drewN _ _ _) (congrArg (World.drewN _) (Nat.add_assoc _ _ _))⟩)))
      repeat (go_quiet (first | (go_at_call 61;(with_reducible refine (q4_in.calls ((rd_T64 l0_2 x3_1).f0) 0 (wrap64 ((l0_0.length : Int) - 1)) false _ A5.out).mono ?_);rintro e w' ⟨rfl,⟨nd,rfl⟩⟩;(try first | exact ⟨rfl,_,World.drewN_drewN _ _ _⟩ | exact ⟨rfl,_,Eq.trans (World.drewN_drewN _ _ _) (congrArg (World.drewN _) (Nat.add_assoc _ _ _))⟩)));try go_wp2_with (first | (go_at_call 61;(with_reducible refine (q4_in.calls ((rd_T64 l0_2 x3_1).f0) 0 (wrap64 ((l0_0.length : Int) - 1)) false _ A5.out).mono ?_);rintro e w' ⟨rfl,⟨nd,rfl⟩⟩;(try first | exact ⟨rfl,_,World.drewN_drewN _ _ _⟩ | exact ⟨rfl,_,Eq.trans (World.drewN_drewN _ _ _) (congrArg (World.drewN _) (Nat.add_assoc _ _ _))⟩))))
      go_ret
      exact ⟨by first | rfl | (simp [*] <;> rfl),pw_below_drewN HB.out _⟩
     subst c6
     replace H : ((q4_Height.f ((rd_T64 l0_2 x3_1).f1)).bind fun t474 => (if t474 = true then (q4_Basin.l0 k1 (wrap64 (x3_1 + 1)) l0_0 a0_1 l0_2 a0_3 a0_4) else (some false))) = some r := by rw [if_pos rfl] at H;exact H
     replace H := obm H
     obtain ⟨t474,A70,H⟩ := H
     replace H : (if t474 = true then (q4_Basin.l0 k1 (wrap64 (x3_1 + 1)) l0_0 a0_1 l0_2 a0_3 a0_4) else (some false)) = some r := H
     have A7 := am A70
     clear A70
     by_cases c8 : t474 = true
     · subst c8
       replace H : (q4_Basin.l0 k1 (wrap64 (x3_1 + 1)) l0_0 a0_1 l0_2 a0_3 a0_4) = some r := by rw [if_pos rfl] at H;exact H
       replace H' := am H
       obtain ⟨hcz9_0,hcz9_1,hcz9_2,hcz9_3,hcz9_4⟩ := cO5 BK470.out
       have p471 : 0 ≤ (x3_1 : Int) := of_decide_eq_true (by assumption)
       have q471 : x3_1 < (l0_2.length : Int) := of_decide_eq_true (by assumption)
       obtain ⟨ad471,e471,hx471_0,hx471_1⟩ := at_T64 HR0_2.out x3_1 p471 q471
       cases e471
       replace hx471_0 := (HB.out.cell (wbl hx471_0)).trans hx471_0
       replace hx471_1 := (HB.out.cell (wbl hx471_1)).trans hx471_1
       replace p471 := eq_true p471
       replace q471 := eq_true q471
       go_wp2_with (first | (go_at_call 61;(with_reducible refine (q4_in.calls ((rd_T64 l0_2 x3_1).f0) 0 (IntKind.i64.wrap ((l0_0.length : Int) - 1)) true _ (in_w A5.out)).mono ?_);rintro e w' ⟨rfl,⟨nd,rfl⟩⟩;(try first | exact ⟨rfl,_,World.drewN_drewN _ _ _⟩ | exact ⟨rfl,_,Eq.trans (World.drewN_drewN _ _ _) (congrArg (World.drewN _) (Nat.add_assoc _ _ _))⟩);have p473 : 0 ≤ (x3_1 : Int) := of_decide_eq_true (by assumption);have q473 : x3_1 < (l0_2.length : Int) := of_decide_eq_true (by assumption);obtain ⟨ad473,e473,hx473_0,hx473_1⟩ := at_T64 HR0_2.out x3_1 p473 q473;obtain rfl : ad471 = ad473 := (by injection e473);replace hx473_0 := (HB.out.cell (wbl hx473_0)).trans hx473_0;replace hx473_1 := (HB.out.cell (wbl hx473_1)).trans hx473_1;replace p473 := eq_true p473;replace q473 := eq_true q473) | (go_at_call 21;(with_reducible refine (q4_Height.calls ((rd_T64 l0_2 x3_1).f1) true _ A7.out).mono ?_);rintro e w' ⟨rfl,⟨nd,rfl⟩⟩;(try first | exact ⟨rfl,_,World.drewN_drewN _ _ _⟩ | exact ⟨rfl,_,Eq.trans (World.drewN_drewN _ _ _) (congrArg (World.drewN _) (Nat.add_assoc _ _ _))⟩)))
       repeat (go_quiet (first | (go_at_call 61;(with_reducible refine (q4_in.calls ((rd_T64 l0_2 x3_1).f0) 0 (IntKind.i64.wrap ((l0_0.length : Int) - 1)) true _ (in_w A5.out)).mono ?_);rintro e w' ⟨rfl,⟨nd,rfl⟩⟩;(try first | exact ⟨rfl,_,World.drewN_drewN _ _ _⟩ | exact ⟨rfl,_,Eq.trans (World.drewN_drewN _ _ _) (congrArg (World.drewN _) (Nat.add_assoc _ _ _))⟩);have p473 : 0 ≤ (x3_1 : Int) := of_decide_eq_true (by assumption);have q473 : x3_1 < (l0_2.length : Int) := of_decide_eq_true (by assumption);obtain ⟨ad473,e473,hx473_0,hx473_1⟩ := at_T64 HR0_2.out x3_1 p473 q473;obtain rfl : ad471 = ad473 := (by injection e473);replace hx473_0 := (HB.out.cell (wbl hx473_0)).trans hx473_0;replace hx473_1 := (HB.out.cell (wbl hx473_1)).trans hx473_1;replace p473 := eq_true p473;replace q473 := eq_true q473) | (go_at_call 21;(with_reducible refine (q4_Height.calls ((rd_T64 l0_2 x3_1).f1) true _ A7.out).mono ?_);rintro e w' ⟨rfl,⟨nd,rfl⟩⟩;(try first | exact ⟨rfl,_,World.drewN_drewN _ _ _⟩ | exact ⟨rfl,_,Eq.trans (World.drewN_drewN _ _ _) (congrArg (World.drewN _) (Nat.add_assoc _ _ _))⟩)));try go_wp2_with (first | (go_at_call 61;(with_reducible refine (q4_in.calls ((rd_T64 l0_2 x3_1).f0) 0 (IntKind.i64.wrap ((l0_0.length : Int) - 1)) true _ (in_w A5.out)).mono ?_);rintro e w' ⟨rfl,⟨nd,rfl⟩⟩;(try first | exact ⟨rfl,_,World.drewN_drewN _ _ _⟩ | exact ⟨rfl,_,Eq.trans (World.drewN_drewN _ _ _) (congrArg (World.drewN _) (Nat.add_assoc _ _ _))⟩);have p473 : 0 ≤ (x3_1 : Int) := of_decide_eq_true (by assumption);have q473 : x3_1 < (l0_2.length : Int) := of_decide_eq_true (by assumption);obtain ⟨ad473,e473,hx473_0,hx473_1⟩ := at_T64 HR0_2.out x3_1 p473 q473;obtain rfl : ad471 = ad473 := (by injection e473);replace hx473_0 := (HB.out.cell (wbl hx473_0)).trans hx473_0;replace hx473_1 := (HB.out.cell (wbl hx473_1)).trans hx473_1;replace p473 := eq_true p473;replace q473 := eq_true q473) | (go_at_call 21;(with_reducible refine (q4_Height.calls ((rd_T64 l0_2 x3_1).f1) true _ A7.out).mono ?_);rintro e w' ⟨rfl,⟨nd,rfl⟩⟩;(try first | exact ⟨rfl,_,World.drewN_drewN _ _ _⟩ | exact ⟨rfl,_,Eq.trans (World.drewN_drewN _ _ _) (congrArg (World.drewN _) (Nat.add_assoc _ _ _))⟩))))
       go_roundg k1
       case measure => have := HK1.out;omega
       case rel => exact ⟨(wrap64 (x3_1 + 1)),(by first | rfl | (simp;done) | (simp [*];done)),H',⟨by have := HK1.out;omega⟩,⟨BK470.out⟩,⟨pw_below_drewN HB.out _⟩⟩
     · replace c8 := Bool.eq_false_iff.mpr c8
       subst c8
       replace H : (some false) = some r := by rw [if_neg (show ¬ (false = true) by decide)] at H;exact H
       obtain rfl := Option.some.inj H
       obtain ⟨hcz10_0,hcz10_1,hcz10_2,hcz10_3,hcz10_4⟩ := cO5 BK470.out
       have p471 : 0 ≤ (x3_1 : Int) := of_decide_eq_true (by assumption)
       have q471 : x3_1 < (l0_2.length : Int) := of_decide_eq_true (by assumption)
       obtain ⟨ad471,e471,hx471_0,hx471_1⟩ := at_T64 HR0_2.out x3_1 p471 q471
       cases e471
       replace hx471_0 := (HB.out.cell (wbl hx471_0)).trans hx471_0
       replace hx471_1 := (HB.out.cell (wbl hx471_1)).trans hx471_1
       replace p471 := eq_true p471
       replace q471 := eq_true q471
       go_wp2_with (first | (go_at_call 61;(with_reducible refine (q4_in.calls ((rd_T64 l0_2 x3_1).f0) 0 (IntKind.i64.wrap ((l0_0.length : Int) - 1)) true _ (in_w A5.out)).mono ?_);rintro e w' ⟨rfl,⟨nd,rfl⟩⟩;(try first | exact ⟨rfl,_,World.drewN_drewN _ _ _⟩ | exact ⟨rfl,_,Eq.trans (World.drewN_drewN _ _ _) (congrArg (World.drewN _) (Nat.add_assoc _ _ _))⟩);have p473 : 0 ≤ (x3_1 : Int) := of_decide_eq_true (by assumption);have q473 : x3_1 < (l0_2.length : Int) := of_decide_eq_true (by assumption);obtain ⟨ad473,e473,hx473_0,hx473_1⟩ := at_T64 HR0_2.out x3_1 p473 q473;obtain rfl : ad471 = ad473 := (by injection e473);replace hx473_0 := (HB.out.cell (wbl hx473_0)).trans hx473_0;replace hx473_1 := (HB.out.cell (wbl hx473_1)).trans hx473_1;replace p473 := eq_true p473;replace q473 := eq_true q473) | (go_at_call 21;(with_reducible refine (q4_Height.calls ((rd_T64 l0_2 x3_1).f1) false _ A7.out).mono ?_);rintro e w' ⟨rfl,⟨nd,rfl⟩⟩;(try first | exact ⟨rfl,_,World.drewN_drewN _ _ _⟩ | exact ⟨rfl,_,Eq.trans (World.drewN_drewN _ _ _) (congrArg (World.drewN _) (Nat.add_assoc _ _ _))⟩)))
       repeat (go_quiet (first | (go_at_call 61;(with_reducible refine (q4_in.calls ((rd_T64 l0_2 x3_1).f0) 0 (IntKind.i64.wrap ((l0_0.length : Int) - 1)) true _ (in_w A5.out)).mono ?_);rintro e w' ⟨rfl,⟨nd,rfl⟩⟩;(try first | exact ⟨rfl,_,World.drewN_drewN _ _ _⟩ | exact ⟨rfl,_,Eq.trans (World.drewN_drewN _ _ _) (congrArg (World.drewN _) (Nat.add_assoc _ _ _))⟩);have p473 : 0 ≤ (x3_1 : Int) := of_decide_eq_true (by assumption);have q473 : x3_1 < (l0_2.length : Int) := of_decide_eq_true (by assumption);obtain ⟨ad473,e473,hx473_0,hx473_1⟩ := at_T64 HR0_2.out x3_1 p473 q473;obtain rfl : ad471 = ad473 := (by injection e473);replace hx473_0 := (HB.out.cell (wbl hx473_0)).trans hx473_0;replace hx473_1 := (HB.out.cell (wbl hx473_1)).trans hx473_1;replace p473 := eq_true p473;replace q473 := eq_true q473) | (go_at_call 21;(with_reducible refine (q4_Height.calls ((rd_T64 l0_2 x3_1).f1) false _ A7.out).mono ?_);rintro e w' ⟨rfl,⟨nd,rfl⟩⟩;(try first | exact ⟨rfl,_,World.drewN_drewN _ _ _⟩ | exact ⟨rfl,_,Eq.trans (World.drewN_drewN _ _ _) (congrArg (World.drewN _) (Nat.add_assoc _ _ _))⟩)));try go_wp2_with (first | (go_at_call 61;(with_reducible refine (q4_in.calls ((rd_T64 l0_2 x3_1).f0) 0 (IntKind.i64.wrap ((l0_0.length : Int) - 1)) true _ (in_w A5.out)).mono ?_);rintro e w' ⟨rfl,⟨nd,rfl⟩⟩;(try first | exact ⟨rfl,_,World.drewN_drewN _ _ _⟩ | exact ⟨rfl,_,Eq.trans (World.drewN_drewN _ _ _) (congrArg (World.drewN _) (Nat.add_assoc _ _ _))⟩);have p473 : 0 ≤ (x3_1 : Int) := of_decide_eq_true (by assumption);have q473 : x3_1 < (l0_2.length : Int) := of_decide_eq_true (by assumption);obtain ⟨ad473,e473,hx473_0,hx473_1⟩ := at_T64 HR0_2.out x3_1 p473 q473;obtain rfl : ad471 = ad473 := (by injection e473);replace hx473_0 := (HB.out.cell (wbl hx473_0)).trans hx473_0;replace hx473_1 := (HB.out.cell (wbl hx473_1)).trans hx473_1;replace p473 := eq_true p473;replace q473 := eq_true q473) | (go_at_call 21;(with_reducible refine (q4_Height.calls ((rd_T64 l0_2 x3_1).f1) false _ A7.out).mono ?_);rintro e w' ⟨rfl,⟨nd,rfl⟩⟩;(try first | exact ⟨rfl,_,World.drewN_drewN _ _ _⟩ | exact ⟨rfl,_,Eq.trans (World.drewN_drewN _ _ _) (congrArg (World.drewN _) (Nat.add_assoc _ _ _))⟩))))
       go_ret
       exact ⟨by first | rfl | (simp [*] <;> rfl),pw_below_drewN HB.out _⟩
   · rw [if_neg c3] at H
     have c3b0 : decide (x3_1 < (l0_2.length : Int)) = false := decide_eq_false c3
     clear c3
     replace H := obm H
     obtain ⟨t475,A120,H⟩ := H
     replace H : (if t475 = true then ((q4_in.f (l0_2.length : Int) 1 6).bind fun t476 => (if t476 = true then ((q4_Height.f a0_3).bind fun t477 => (if t477 = true then ((q4_in.f a0_4 0 100).bind fun t478 => (some t478)) else (some false))) else (some false))) else (some false)) = some r := H
     have A12 := am A120
     clear A120
     by_cases c13 : t475 = true
     case neg =>
      replace c13 := Bool.eq_false_iff.mpr c13
      subst c13
      replace H : (some false) = some r := by rw [if_neg (show ¬ (false = true) by decide)] at H;exact H
      obtain rfl := Option.some.inj H
      obtain ⟨hcz28_0,hcz28_1,hcz28_2,hcz28_3,hcz28_4⟩ := cO5 BK470.out
      go_wp2_with (first | (go_at_call 62;(with_reducible refine (q3_Table.calls k1 _ _ l0_0 a0_1 false _ ?side1 ?side2 A12.out).mono ?_);(case side1 => exact kC HR0_0.out HB.out);(case side2 => exact HC0_0.out);rintro e w29 ⟨rfl,hb⟩;replace BK470 := (kmv hb BK470);replace HB := am (below_step (HB.out) hb);(try clear hb);(try clear hb2);(try clear hk);(try clear hi)))
      repeat (go_quiet (first | (go_at_call 62;(with_reducible refine (q3_Table.calls k1 _ _ l0_0 a0_1 false _ ?side1 ?side2 A12.out).mono ?_);(case side1 => repeat (first | exact (kC HR0_0.out HB.out) | (with_reducible refine Kd.C_alloc ?_ _) | (with_reducible refine Kd.C_drewN ?_ _) | (with_reducible refine Kd.C_drew ?_)));(case side2 => exact HC0_0.out);rintro e w29 ⟨rfl,hb⟩;replace BK470 := (kmv hb BK470);replace HB := am (below_step (by repeat (first | (with_reducible first | exact HB.out | refine below_set ?_ GE470.out | apply below_alloc | apply pw_below_drewN) | exact HB.out)) hb);(try clear hb);(try clear hb2);(try clear hk);(try clear hi)));try go_wp2_with (first | (go_at_call 62;(with_reducible refine (q3_Table.calls k1 _ _ l0_0 a0_1 false _ ?side1 ?side2 A12.out).mono ?_);(case side1 => repeat (first | exact (kC HR0_0.out HB.out) | (with_reducible refine Kd.C_alloc ?_ _) | (with_reducible refine Kd.C_drewN ?_ _) | (with_reducible refine Kd.C_drew ?_)));(case side2 => exact HC0_0.out);rintro e w29 ⟨rfl,hb⟩;replace BK470 := (kmv hb BK470);replace HB := am (below_step (by repeat (first | (with_reducible first | exact HB.out | refine below_set ?_ GE470.out | apply below_alloc | apply pw_below_drewN) | exact HB.out)) hb);(try clear hb);(try clear hb2);(try clear hk);(try clear hi))))
      go_ret
      exact ⟨by first | rfl | (simp [*] <;> rfl),HB.out⟩
     subst c13
     replace H : ((q4_in.f (l0_2.length : Int) 1 6).bind fun t476 => (if t476 = true then ((q4_Height.f a0_3).bind fun t477 => (if t477 = true then ((q4_in.f a0_4 0 100).bind fun t478 => (some t478)) else (some false))) else (some false))) = some r := by rw [if_pos rfl] at H;exact H
     replace H := obm H
     obtain ⟨t476,A140,H⟩ := H
     replace H : (if t476 = true then ((q4_Height.f a0_3).bind fun t477 => (if t477 = true then ((q4_in.f a0_4 0 100).bind fun t478 => (some t478)) else (some false))) else (some false)) = some r := H
     have A14 := am A140
     clear A140
     by_cases c15 : t476 = true
     case neg =>
      replace c15 := Bool.eq_false_iff.mpr c15
      subst c15
      replace H : (some false) = some r := by rw [if_neg (show ¬ (false = true) by decide)] at H;exact H
      obtain rfl := Option.some.inj H
      obtain ⟨hcz25_0,hcz25_1,hcz25_2,hcz25_3,hcz25_4⟩ := cO5 BK470.out
      go_wp2_with (first | (go_at_call 62;(with_reducible refine (q3_Table.calls k1 _ _ l0_0 a0_1 true _ ?side1 ?side2 A12.out).mono ?_);(case side1 => exact kC HR0_0.out HB.out);(case side2 => exact HC0_0.out);rintro e w26 ⟨rfl,hb⟩;replace BK470 := (kmv hb BK470);replace HB := am (below_step (HB.out) hb);(try clear hb);(try clear hb2);(try clear hk);(try clear hi);obtain ⟨hcz27_0,hcz27_1,hcz27_2,hcz27_3,hcz27_4⟩ := cO5 BK470.out) | (go_at_call 61;(with_reducible refine (q4_in.calls (l0_2.length : Int) 1 6 false _ A14.out).mono ?_);rintro e w' ⟨rfl,⟨nd,rfl⟩⟩;(try first | exact ⟨rfl,_,World.drewN_drewN _ _ _⟩ | exact ⟨rfl,_,Eq.trans (World.drewN_drewN _ _ _) (congrArg (World.drewN _) (Nat.add_assoc _ _ _))⟩)))
      repeat (go_quiet (first | (go_at_call 62;(with_reducible refine (q3_Table.calls k1 _ _ l0_0 a0_1 true _ ?side1 ?side2 A12.out).mono ?_);(case side1 => repeat (first | exact (kC HR0_0.out HB.out) | (with_reducible refine Kd.C_alloc ?_ _) | (with_reducible refine Kd.C_drewN ?_ _) | (with_reducible refine Kd.C_drew ?_)));(case side2 => exact HC0_0.out);rintro e w26 ⟨rfl,hb⟩;replace BK470 := (kmv hb BK470);replace HB := am (below_step (by repeat (first | (with_reducible first | exact HB.out | refine below_set ?_ GE470.out | apply below_alloc | apply pw_below_drewN) | exact HB.out)) hb);(try clear hb);(try clear hb2);(try clear hk);(try clear hi);obtain ⟨hcz27_0,hcz27_1,hcz27_2,hcz27_3,hcz27_4⟩ := cO5 BK470.out) | (go_at_call 61;(with_reducible refine (q4_in.calls (l0_2.length : Int) 1 6 false _ A14.out).mono ?_);rintro e w' ⟨rfl,⟨nd,rfl⟩⟩;(try first | exact ⟨rfl,_,World.drewN_drewN _ _ _⟩ | exact ⟨rfl,_,Eq.trans (World.drewN_drewN _ _ _) (congrArg (World.drewN _) (Nat.add_assoc _ _ _))⟩)));try go_wp2_with (first | (go_at_call 62;(with_reducible refine (q3_Table.calls k1 _ _ l0_0 a0_1 true _ ?side1 ?side2 A12.out).mono ?_);(case side1 => repeat (first | exact (kC HR0_0.out HB.out) | (with_reducible refine Kd.C_alloc ?_ _) | (with_reducible refine Kd.C_drewN ?_ _) | (with_reducible refine Kd.C_drew ?_)));(case side2 => exact HC0_0.out);rintro e w26 ⟨rfl,hb⟩;replace BK470 := (kmv hb BK470);replace HB := am (below_step (by repeat (first | (with_reducible first | exact HB.out | refine below_set ?_ GE470.out | apply below_alloc | apply pw_below_drewN) | exact HB.out)) hb);(try clear hb);(try clear hb2);(try clear hk);(try clear hi);obtain ⟨hcz27_0,hcz27_1,hcz27_2,hcz27_3,hcz27_4⟩ := cO5 BK470.out) | (go_at_call 61;(with_reducible refine (q4_in.calls (l0_2.length : Int) 1 6 false _ A14.out).mono ?_);rintro e w' ⟨rfl,⟨nd,rfl⟩⟩;(try first | exact ⟨rfl,_,World.drewN_drewN _ _ _⟩ | exact ⟨rfl,_,Eq.trans (World.drewN_drewN _ _ _) (congrArg (World.drewN _) (Nat.add_assoc _ _ _))⟩))))
      go_ret
      exact ⟨by first | rfl | (simp [*] <;> rfl),pw_below_drewN HB.out _⟩
     subst c15
     replace H : ((q4_Height.f a0_3).bind fun t477 => (if t477 = true then ((q4_in.f a0_4 0 100).bind fun t478 => (some t478)) else (some false))) = some r := by rw [if_pos rfl] at H;exact H
     replace H := obm H
     obtain ⟨t477,A160,H⟩ := H
     replace H : (if t477 = true then ((q4_in.f a0_4 0 100).bind fun t478 => (some t478)) else (some false)) = some r := H
     have A16 := am A160
     clear A160
     by_cases c17 : t477 = true
     case neg =>
      replace c17 := Bool.eq_false_iff.mpr c17
      subst c17
      replace H : (some false) = some r := by rw [if_neg (show ¬ (false = true) by decide)] at H;exact H
      obtain rfl := Option.some.inj H
      obtain ⟨hcz22_0,hcz22_1,hcz22_2,hcz22_3,hcz22_4⟩ := cO5 BK470.out
      go_wp2_with (first | (go_at_call 62;(with_reducible refine (q3_Table.calls k1 _ _ l0_0 a0_1 true _ ?side1 ?side2 A12.out).mono ?_);(case side1 => exact kC HR0_0.out HB.out);(case side2 => exact HC0_0.out);rintro e w23 ⟨rfl,hb⟩;replace BK470 := (kmv hb BK470);replace HB := am (below_step (HB.out) hb);(try clear hb);(try clear hb2);(try clear hk);(try clear hi);obtain ⟨hcz24_0,hcz24_1,hcz24_2,hcz24_3,hcz24_4⟩ := cO5 BK470.out) | (go_at_call 61;(with_reducible refine (q4_in.calls (l0_2.length : Int) 1 6 true _ A14.out).mono ?_);rintro e w' ⟨rfl,⟨nd,rfl⟩⟩;(try first | exact ⟨rfl,_,World.drewN_drewN _ _ _⟩ | exact ⟨rfl,_,Eq.trans (World.drewN_drewN _ _ _) (congrArg (World.drewN _) (Nat.add_assoc _ _ _))⟩)) | (go_at_call 21;(with_reducible refine (q4_Height.calls a0_3 false _ A16.out).mono ?_);rintro e w' ⟨rfl,⟨nd,rfl⟩⟩;(try first | exact ⟨rfl,_,World.drewN_drewN _ _ _⟩ | exact ⟨rfl,_,Eq.trans (World.drewN_drewN _ _ _) (congrArg (World.drewN _) (Nat.add_assoc _ _ _))⟩)))
      repeat (go_quiet (first | (go_at_call 62;(with_reducible refine (q3_Table.calls k1 _ _ l0_0 a0_1 true _ ?side1 ?side2 A12.out).mono ?_);(case side1 => repeat (first | exact (kC HR0_0.out HB.out) | (with_reducible refine Kd.C_alloc ?_ _) | (with_reducible refine Kd.C_drewN ?_ _) | (with_reducible refine Kd.C_drew ?_)));(case side2 => exact HC0_0.out);rintro e w23 ⟨rfl,hb⟩;replace BK470 := (kmv hb BK470);replace HB := am (below_step (by repeat (first | (with_reducible first | exact HB.out | refine below_set ?_ GE470.out | apply below_alloc | apply pw_below_drewN) | exact HB.out)) hb);(try clear hb);(try clear hb2);(try clear hk);(try clear hi);obtain ⟨hcz24_0,hcz24_1,hcz24_2,hcz24_3,hcz24_4⟩ := cO5 BK470.out) | (go_at_call 61;(with_reducible refine (q4_in.calls (l0_2.length : Int) 1 6 true _ A14.out).mono ?_);rintro e w' ⟨rfl,⟨nd,rfl⟩⟩;(try first | exact ⟨rfl,_,World.drewN_drewN _ _ _⟩ | exact ⟨rfl,_,Eq.trans (World.drewN_drewN _ _ _) (congrArg (World.drewN _) (Nat.add_assoc _ _ _))⟩)) | (go_at_call 21;(with_reducible refine (q4_Height.calls a0_3 false _ A16.out).mono ?_);rintro e w' ⟨rfl,⟨nd,rfl⟩⟩;(try first | exact ⟨rfl,_,World.drewN_drewN _ _ _⟩ | exact ⟨rfl,_,Eq.trans (World.drewN_drewN _ _ _) (congrArg (World.drewN _) (Nat.add_assoc _ _ _))⟩)));try go_wp2_with (first | (go_at_call 62;(with_reducible refine (q3_Table.calls k1 _ _ l0_0 a0_1 true _ ?side1 ?side2 A12.out).mono ?_);(case side1 => repeat (first | exact (kC HR0_0.out HB.out) | (with_reducible refine Kd.C_alloc ?_ _) | (with_reducible refine Kd.C_drewN ?_ _) | (with_reducible refine Kd.C_drew ?_)));(case side2 => exact HC0_0.out);rintro e w23 ⟨rfl,hb⟩;replace BK470 := (kmv hb BK470);replace HB := am (below_step (by repeat (first | (with_reducible first | exact HB.out | refine below_set ?_ GE470.out | apply below_alloc | apply pw_below_drewN) | exact HB.out)) hb);(try clear hb);(try clear hb2);(try clear hk);(try clear hi);obtain ⟨hcz24_0,hcz24_1,hcz24_2,hcz24_3,hcz24_4⟩ := cO5 BK470.out) | (go_at_call 61;(with_reducible refine (q4_in.calls (l0_2.length : Int) 1 6 true _ A14.out).mono ?_);rintro e w' ⟨rfl,⟨nd,rfl⟩⟩;(try first | exact ⟨rfl,_,World.drewN_drewN _ _ _⟩ | exact ⟨rfl,_,Eq.trans (World.drewN_drewN _ _ _) (congrArg (World.drewN _) (Nat.add_assoc _ _ _))⟩)) | (go_at_call 21;(with_reducible refine (q4_Height.calls a0_3 false _ A16.out).mono ?_);rintro e w' ⟨rfl,⟨nd,rfl⟩⟩;(try first | exact ⟨rfl,_,World.drewN_drewN _ _ _⟩ | exact ⟨rfl,_,Eq.trans (World.drewN_drewN _ _ _) (congrArg (World.drewN _) (Nat.add_assoc _ _ _))⟩))))
      go_ret
      exact ⟨by first | rfl | (simp [*] <;> rfl),pw_below_drewN HB.out _⟩
     subst c17
     replace H : ((q4_in.f a0_4 0 100).bind fun t478 => (some t478)) = some r := by rw [if_pos rfl] at H;exact H
     replace H := obm H
     obtain ⟨t478,A180,H⟩ := H
     replace H : (some t478) = some r := H
     have A18 := am A180
     clear A180
     obtain rfl := Option.some.inj H
     obtain ⟨hcz19_0,hcz19_1,hcz19_2,hcz19_3,hcz19_4⟩ := cO5 BK470.out
     go_wp2_with (first | (go_at_call 62;(with_reducible refine (q3_Table.calls k1 _ _ l0_0 a0_1 true _ ?side1 ?side2 A12.out).mono ?_);(case side1 => exact kC HR0_0.out HB.out);(case side2 => exact HC0_0.out);rintro e w20 ⟨rfl,hb⟩;replace BK470 := (kmv hb BK470);replace HB := am (below_step (HB.out) hb);(try clear hb);(try clear hb2);(try clear hk);(try clear hi);obtain ⟨hcz21_0,hcz21_1,hcz21_2,hcz21_3,hcz21_4⟩ := cO5 BK470.out) | (go_at_call 61;(with_reducible refine (q4_in.calls (l0_2.length : Int) 1 6 true _ A14.out).mono ?_);rintro e w' ⟨rfl,⟨nd,rfl⟩⟩;(try first | exact ⟨rfl,_,World.drewN_drewN _ _ _⟩ | exact ⟨rfl,_,Eq.trans (World.drewN_drewN _ _ _) (congrArg (World.drewN _) (Nat.add_assoc _ _ _))⟩)) | (go_at_call 21;(with_reducible refine (q4_Height.calls a0_3 true _ A16.out).mono ?_);rintro e w' ⟨rfl,⟨nd,rfl⟩⟩;(try first | exact ⟨rfl,_,World.drewN_drewN _ _ _⟩ | exact ⟨rfl,_,Eq.trans (World.drewN_drewN _ _ _) (congrArg (World.drewN _) (Nat.add_assoc _ _ _))⟩)) | (go_at_call 61;(with_reducible refine (q4_in.calls a0_4 0 100 t478 _ A18.out).mono ?_);rintro e w' ⟨rfl,⟨nd,rfl⟩⟩;(try first | exact ⟨rfl,_,World.drewN_drewN _ _ _⟩ | exact ⟨rfl,_,Eq.trans (World.drewN_drewN _ _ _) (congrArg (World.drewN _) (Nat.add_assoc _ _ _))⟩)))
     repeat (go_quiet (first | (go_at_call 62;(with_reducible refine (q3_Table.calls k1 _ _ l0_0 a0_1 true _ ?side1 ?side2 A12.out).mono ?_);(case side1 => repeat (first | exact (kC HR0_0.out HB.out) | (with_reducible refine Kd.C_alloc ?_ _) | (with_reducible refine Kd.C_drewN ?_ _) | (with_reducible refine Kd.C_drew ?_)));(case side2 => exact HC0_0.out);rintro e w20 ⟨rfl,hb⟩;replace BK470 := (kmv hb BK470);replace HB := am (below_step (by repeat (first | (with_reducible first | exact HB.out | refine below_set ?_ GE470.out | apply below_alloc | apply pw_below_drewN) | exact HB.out)) hb);(try clear hb);(try clear hb2);(try clear hk);(try clear hi);obtain ⟨hcz21_0,hcz21_1,hcz21_2,hcz21_3,hcz21_4⟩ := cO5 BK470.out) | (go_at_call 61;(with_reducible refine (q4_in.calls (l0_2.length : Int) 1 6 true _ A14.out).mono ?_);rintro e w' ⟨rfl,⟨nd,rfl⟩⟩;(try first | exact ⟨rfl,_,World.drewN_drewN _ _ _⟩ | exact ⟨rfl,_,Eq.trans (World.drewN_drewN _ _ _) (congrArg (World.drewN _) (Nat.add_assoc _ _ _))⟩)) | (go_at_call 21;(with_reducible refine (q4_Height.calls a0_3 true _ A16.out).mono ?_);rintro e w' ⟨rfl,⟨nd,rfl⟩⟩;(try first | exact ⟨rfl,_,World.drewN_drewN _ _ _⟩ | exact ⟨rfl,_,Eq.trans (World.drewN_drewN _ _ _) (congrArg (World.drewN _) (Nat.add_assoc _ _ _))⟩)) | (go_at_call 61;(with_reducible refine (q4_in.calls a0_4 0 100 t478 _ A18.out).mono ?_);rintro e w' ⟨rfl,⟨nd,rfl⟩⟩;(try first | exact ⟨rfl,_,World.drewN_drewN _ _ _⟩ | exact ⟨rfl,_,Eq.trans (World.drewN_drewN _ _ _) (congrArg (World.drewN _) (Nat.add_assoc _ _ _))⟩)));try go_wp2_with (first | (go_at_call 62;(with_reducible refine (q3_Table.calls k1 _ _ l0_0 a0_1 true _ ?side1 ?side2 A12.out).mono ?_);(case side1 => repeat (first | exact (kC HR0_0.out HB.out) | (with_reducible refine Kd.C_alloc ?_ _) | (with_reducible refine Kd.C_drewN ?_ _) | (with_reducible refine Kd.C_drew ?_)));(case side2 => exact HC0_0.out);rintro e w20 ⟨rfl,hb⟩;replace BK470 := (kmv hb BK470);replace HB := am (below_step (by repeat (first | (with_reducible first | exact HB.out | refine below_set ?_ GE470.out | apply below_alloc | apply pw_below_drewN) | exact HB.out)) hb);(try clear hb);(try clear hb2);(try clear hk);(try clear hi);obtain ⟨hcz21_0,hcz21_1,hcz21_2,hcz21_3,hcz21_4⟩ := cO5 BK470.out) | (go_at_call 61;(with_reducible refine (q4_in.calls (l0_2.length : Int) 1 6 true _ A14.out).mono ?_);rintro e w' ⟨rfl,⟨nd,rfl⟩⟩;(try first | exact ⟨rfl,_,World.drewN_drewN _ _ _⟩ | exact ⟨rfl,_,Eq.trans (World.drewN_drewN _ _ _) (congrArg (World.drewN _) (Nat.add_assoc _ _ _))⟩)) | (go_at_call 21;(with_reducible refine (q4_Height.calls a0_3 true _ A16.out).mono ?_);rintro e w' ⟨rfl,⟨nd,rfl⟩⟩;(try first | exact ⟨rfl,_,World.drewN_drewN _ _ _⟩ | exact ⟨rfl,_,Eq.trans (World.drewN_drewN _ _ _) (congrArg (World.drewN _) (Nat.add_assoc _ _ _))⟩)) | (go_at_call 61;(with_reducible refine (q4_in.calls a0_4 0 100 t478 _ A18.out).mono ?_);rintro e w' ⟨rfl,⟨nd,rfl⟩⟩;(try first | exact ⟨rfl,_,World.drewN_drewN _ _ _⟩ | exact ⟨rfl,_,Eq.trans (World.drewN_drewN _ _ _) (congrArg (World.drewN _) (Nat.add_assoc _ _ _))⟩))))
     go_ret
     exact ⟨by first | rfl | (simp [*] <;> rfl),pw_below_drewN HB.out _⟩
def q4_Cups.f (a0 : Int) : Option (Bool) := (q4_in.f a0 0 10000).bind fun t479 => (some t479)
theorem q4_Cups.calls (a0 : Int) (r : Bool) (w : World) (h : q4_Cups.f a0 = some r) :
 Calls Tryz.prog 18 #[.int .i64 a0] w fun e w' => e = .returned (.bool r) ∧ Drawn0 w w' := by
 have H : ((q4_in.f a0 0 10000).bind fun t479 => (some t479)) = some r := h
 clear h
 replace H := obm H
 obtain ⟨t479,A20,H⟩ := H
 replace H : (some t479) = some r := H
 have A2 := am A20
 clear A20
 obtain rfl := Option.some.inj H
 go_enter Tryz.func18,Tryz.ntmps18
 go_wp2_with (first | ((with_reducible refine gate_callee (f := 61) rfl ?_);refine goesL_ (some 4) rfl rfl Tryz.func61 (by kernel_rfl) rfl #[.int .i64 a0,.int .i64 0,.int .i64 10000] rfl (by (try simp only [List.map_toArray,List.map_cons,List.map_nil]);first | done | rfl | (simp only [List.length_drop,List.length_take];rfl)) ?_;(with_reducible refine (q4_in.calls a0 0 10000 t479 _ A2.out).mono ?_);rintro e w' ⟨rfl,⟨nd,rfl⟩⟩;refine ⟨_,rfl,?_⟩))
 go_ret
 exact ⟨by first | rfl | (simp;done) | (simp [*];done),by repeat (first | exact Drawn0.refl _ | apply Drawn0.step)⟩
def q4_Flow.f (a0_0 : Int) (a0_1 : Int) : Option (Bool) := (q4_Cups.f a0_0).bind fun t575 => (if t575 = true then ((q4_Cups.f a0_1).bind fun t576 => (if t576 = true then (some (decide (a0_0 ≤ a0_1))) else (some false))) else (some false))
theorem q4_Flow.calls (a0_0 : Int) (a0_1 : Int) (r : Bool) (w : World) (h : q4_Flow.f a0_0 a0_1 = some r) :
 Calls Tryz.prog 26 #[.agg #[.int .i64 a0_0,.int .i64 a0_1]] w fun e w' => e = .returned (.bool r) ∧ Below w.heap.size w w' := by
 have hu40 := Tryz.underlying40
 have HB := am (Below.refl w.heap.size w)
 have H : ((q4_Cups.f a0_0).bind fun t575 => (if t575 = true then ((q4_Cups.f a0_1).bind fun t576 => (if t576 = true then (some (decide (a0_0 ≤ a0_1))) else (some false))) else (some false))) = some r := h
 clear h
 replace H := obm H
 obtain ⟨t575,A20,H⟩ := H
 replace H : (if t575 = true then ((q4_Cups.f a0_1).bind fun t576 => (if t576 = true then (some (decide (a0_0 ≤ a0_1))) else (some false))) else (some false)) = some r := H
 have A2 := am A20
 clear A20
 by_cases c3 : t575 = true
 case neg =>
  replace c3 := Bool.eq_false_iff.mpr c3
  subst c3
  replace H : (some false) = some r := by rw [if_neg (show ¬ (false = true) by decide)] at H;exact H
  obtain rfl := Option.some.inj H
  go_enter Tryz.func26,Tryz.ntmps26
  go_wp2_with (first | ((with_reducible refine gate_dst (N := 1) rfl ?_);refine box_event ?hg (N := 1) ?hd (cs := #[.int .i64 a0_0,.int .i64 a0_1]) (t := 40) ?hr ?_;(case hd => rfl);(case hg => rfl);(case hr => go_simp;try rfl);intro gb574 hg w10 hbox hb;have BK574 := am (hbox);have GW574 := am (ge_new (by repeat (first | (with_reducible first | exact HB.out | apply below_alloc | apply pw_below_drewN) | exact HB.out)) hg);have GE574 := am (ge_new (by repeat (first | (with_reducible first | exact HB.out | apply below_alloc | apply pw_below_drewN) | exact HB.out)) hg);replace HB := am (below_step (by repeat (first | (with_reducible first | exact HB.out | apply below_alloc | apply pw_below_drewN) | exact HB.out)) hb);clear hb hbox hg;obtain ⟨hcz11_0,hcz11_1⟩ := cO2 BK574.out;have hfz11_0 := blk_frozen BK574.out 0;have hfz11_1 := blk_frozen BK574.out 1) | ((with_reducible refine gate_callee (f := 18) rfl ?_);refine goesL_ (some 5) rfl rfl Tryz.func18 (by kernel_rfl) rfl #[.int .i64 a0_0] rfl (by (try simp only [List.map_toArray,List.map_cons,List.map_nil]);first | done | rfl | (simp only [List.length_drop,List.length_take];rfl)) ?_;(with_reducible refine (q4_Cups.calls a0_0 false _ A2.out).mono ?_);rintro e w' ⟨rfl,⟨nd,rfl⟩⟩;refine ⟨_,rfl,?_⟩))
  go_ret
  exact ⟨by first | rfl | (simp [*] <;> rfl),by repeat (first | (with_reducible first | exact HB.out | refine below_set ?_ GE574.out | apply below_alloc | apply pw_below_drewN) | exact HB.out)⟩
 subst c3
 replace H : ((q4_Cups.f a0_1).bind fun t576 => (if t576 = true then (some (decide (a0_0 ≤ a0_1))) else (some false))) = some r := by rw [if_pos rfl] at H;exact H
 replace H := obm H
 obtain ⟨t576,A40,H⟩ := H
 replace H : (if t576 = true then (some (decide (a0_0 ≤ a0_1))) else (some false)) = some r := H
 have A4 := am A40
 clear A40
 by_cases c5 : t576 = true
 · subst c5
   replace H : (some (decide (a0_0 ≤ a0_1))) = some r := by rw [if_pos rfl] at H;exact H
   obtain rfl := Option.some.inj H
   go_enter Tryz.func26,Tryz.ntmps26
   go_wp2_with (first | ((with_reducible refine gate_dst (N := 1) rfl ?_);refine box_event ?hg (N := 1) ?hd (cs := #[.int .i64 a0_0,.int .i64 a0_1]) (t := 40) ?hr ?_;(case hd => rfl);(case hg => rfl);(case hr => go_simp;try rfl);intro gb574 hg w6 hbox hb;have BK574 := am (hbox);have GW574 := am (ge_new (by repeat (first | (with_reducible first | exact HB.out | apply below_alloc | apply pw_below_drewN) | exact HB.out)) hg);have GE574 := am (ge_new (by repeat (first | (with_reducible first | exact HB.out | apply below_alloc | apply pw_below_drewN) | exact HB.out)) hg);replace HB := am (below_step (by repeat (first | (with_reducible first | exact HB.out | apply below_alloc | apply pw_below_drewN) | exact HB.out)) hb);clear hb hbox hg;obtain ⟨hcz7_0,hcz7_1⟩ := cO2 BK574.out;have hfz7_0 := blk_frozen BK574.out 0;have hfz7_1 := blk_frozen BK574.out 1) | ((with_reducible refine gate_callee (f := 18) rfl ?_);refine goesL_ (some 5) rfl rfl Tryz.func18 (by kernel_rfl) rfl #[.int .i64 a0_0] rfl (by (try simp only [List.map_toArray,List.map_cons,List.map_nil]);first | done | rfl | (simp only [List.length_drop,List.length_take];rfl)) ?_;(with_reducible refine (q4_Cups.calls a0_0 true _ A2.out).mono ?_);rintro e w' ⟨rfl,⟨nd,rfl⟩⟩;refine ⟨_,rfl,?_⟩) | (go_at_call 18;(with_reducible refine (q4_Cups.calls a0_1 true _ A4.out).mono ?_);rintro e w' ⟨rfl,⟨nd,rfl⟩⟩))
   go_ret
   exact ⟨by first | rfl | (simp [*] <;> rfl),by repeat (first | (with_reducible first | exact HB.out | refine below_set ?_ GE574.out | apply below_alloc | apply pw_below_drewN) | exact HB.out)⟩
 · replace c5 := Bool.eq_false_iff.mpr c5
   subst c5
   replace H : (some false) = some r := by rw [if_neg (show ¬ (false = true) by decide)] at H;exact H
   obtain rfl := Option.some.inj H
   go_enter Tryz.func26,Tryz.ntmps26
   go_wp2_with (first | ((with_reducible refine gate_dst (N := 1) rfl ?_);refine box_event ?hg (N := 1) ?hd (cs := #[.int .i64 a0_0,.int .i64 a0_1]) (t := 40) ?hr ?_;(case hd => rfl);(case hg => rfl);(case hr => go_simp;try rfl);intro gb574 hg w8 hbox hb;have BK574 := am (hbox);have GW574 := am (ge_new (by repeat (first | (with_reducible first | exact HB.out | apply below_alloc | apply pw_below_drewN) | exact HB.out)) hg);have GE574 := am (ge_new (by repeat (first | (with_reducible first | exact HB.out | apply below_alloc | apply pw_below_drewN) | exact HB.out)) hg);replace HB := am (below_step (by repeat (first | (with_reducible first | exact HB.out | apply below_alloc | apply pw_below_drewN) | exact HB.out)) hb);clear hb hbox hg;obtain ⟨hcz9_0,hcz9_1⟩ := cO2 BK574.out;have hfz9_0 := blk_frozen BK574.out 0;have hfz9_1 := blk_frozen BK574.out 1) | ((with_reducible refine gate_callee (f := 18) rfl ?_);refine goesL_ (some 5) rfl rfl Tryz.func18 (by kernel_rfl) rfl #[.int .i64 a0_0] rfl (by (try simp only [List.map_toArray,List.map_cons,List.map_nil]);first | done | rfl | (simp only [List.length_drop,List.length_take];rfl)) ?_;(with_reducible refine (q4_Cups.calls a0_0 true _ A2.out).mono ?_);rintro e w' ⟨rfl,⟨nd,rfl⟩⟩;refine ⟨_,rfl,?_⟩) | (go_at_call 18;(with_reducible refine (q4_Cups.calls a0_1 false _ A4.out).mono ?_);rintro e w' ⟨rfl,⟨nd,rfl⟩⟩))
   go_ret
   exact ⟨by first | rfl | (simp [*] <;> rfl),by repeat (first | (with_reducible first | exact HB.out | refine below_set ?_ GE574.out | apply below_alloc | apply pw_below_drewN) | exact HB.out)⟩
end
end Go.Proofs.YticlelgmmonloaaGreatDoor.C
namespace Go.Abs
open Go.RowKit Go.Proofs.YticlelgmmonloaaGreatDoorW.PrintWords Go.Proofs.YticlelgmmonloaaGreatDoorW.PrintMore
set_option linter.unusedVariables false
set_option linter.unusedSimpArgs false
set_option maxHeartbeats 16000000
set_option maxRecDepth 100000
noncomputable def capOk (k : Nat) (s : St) (v : AV) : Bool :=
 match v with
 | .nilSlice => true
 | .slice _ _ n c => Nat.ble n c
 | .opn b n => match s.heap.get b with
  | some (.cells _ (some k') cs) => Nat.beq k' k && Nat.ble 1 k && Nat.ble (n * k) cs.length
  | some (.ro _ (some k') cs) => Nat.beq k' k && Nat.ble 1 k && Nat.ble (n * k) cs.length
  | _ => false
 | _ => false
theorem capOk_le {e : Env} {s : St} {w : World} (hs : Sim e s w) {k n m c : Nat} {v : AV} {A : Option Addr} (h : capOk k s v = true) (hx : conc e v = some (.slice A m c)) : m ≤ c := by
 unfold capOk at h
 split at h
 · simp only [conc,Option.some.injEq,Value.slice.injEq] at hx;omega
 · simp only [conc,Option.map_eq_some_iff,Value.slice.injEq] at hx
   obtain ⟨p,_,_,rfl,rfl⟩ := hx
   exact Nat.le_of_ble_eq_true h
 · simp only [conc,Option.map_eq_some_iff,Value.slice.injEq] at hx
   obtain ⟨p,hp,_,rfl,rfl⟩ := hx
   have key : ∀ {n' k' : Nat} {cs : List AV} {vs rest : List Value},(Nat.beq k' k && Nat.ble 1 k && Nat.ble (n' * k) cs.length) = true → concL e cs = some vs → (vs ++ rest).length = p.2 * k' → n' ≤ p.2 := by
    intro n' k' cs vs rest h h1 h2
    simp only [Bool.and_eq_true,Nat.beq_eq,Nat.ble_eq] at h
    obtain ⟨⟨rfl,h3⟩,h4⟩ := h
    rw [List.length_append,concL_length h1] at h2
    exact Nat.le_of_mul_le_mul_right (by omega : n' * k' ≤ p.2 * k') (by omega)
   split at h
   · rename_i hb
     obtain ⟨b,q,ob,he,_,vs,rest,h1,rfl,h2⟩ := hs.at_ _ _ hb
     rw [hp] at he;cases he
     exact key h h1 h2
   · rename_i hb
     obtain ⟨b,q,ob,he,_,vs,rest,h1,rfl,h2⟩ := hs.at_ _ _ hb
     rw [hp] at he;cases he
     exact key h h1 (h2 _ rfl)
   · cases h
 · cases h
theorem first_cells {e : Env} {s : St} {w : World} (hs : Sim e s w) {m n c : Nat} {v : AV} {cs : List AV} {A : Option Addr} (h : firstA m v s = some cs) (hx : conc e v = some (.slice A n c)) (hm : 0 < m) :
 ∃ ad vs,A = some ad ∧ concL e cs = some vs ∧ ∀ i u,vs[i]? = some u → w.cell? (ad.add i) = some u := by
 have cell : ∀ {g o : Nat} {t : TypeId} {vs rest us : List Value},w.heap[g]? = some (.cells (vs ++ rest).toArray t (0,0)) → (∀ i u,us[i]? = some u → vs[o + i]? = some u) → ∀ i u,us[i]? = some u → w.cell? ((⟨g,o,none⟩ : Addr).add i) = some u := by
  intro g o t vs rest us hg hus i u hu
  have h1 := hus i u hu
  have h2 : o + i < vs.length := (List.getElem?_eq_some_iff.1 h1).1
  rw [addr_add]
  simp only [World.cell?,hg]
  simp only [Option.isSome_none,Bool.false_eq_true,if_false,List.getElem?_toArray]
  rw [List.getElem?_append_left h2];exact h1
 unfold firstA at h
 split at h
 · split at h
   · omega
   · cases h
 · simp only [Option.bind_eq_some_iff] at h
   obtain ⟨ds,hg,h⟩ := h
   split at h
   · simp only [Option.some.injEq] at h;subst h
     obtain ⟨g,q,t,vs,rest,he,hb,hvs⟩ := rd_at hs hg
     simp only [conc,he,Option.map_some,Option.some.injEq,Value.slice.injEq] at hx
     obtain ⟨rfl,_,_⟩ := hx
     refine ⟨_,_,rfl,concL_take (concL_drop hvs _) _,cell hb fun i u hu => ?_⟩
     rw [List.getElem?_take] at hu
     split at hu
     · rw [List.getElem?_drop] at hu;exact hu
     · cases hu
   · cases h
 · simp only [Option.bind_eq_some_iff] at h
   obtain ⟨ds,hg,h⟩ := h
   split at h
   · simp only [Option.some.injEq] at h;subst h
     obtain ⟨g,q,t,vs,rest,he,hb,hvs⟩ := rd_at hs hg
     simp only [conc,he,Option.map_some,Option.some.injEq,Value.slice.injEq] at hx
     obtain ⟨rfl,_,_⟩ := hx
     refine ⟨_,_,rfl,concL_take hvs _,cell hb fun i u hu => ?_⟩
     rw [List.getElem?_take] at hu
     split at hu
     · rw [Nat.zero_add];exact hu
     · cases hu
   · cases h
 · cases h
noncomputable def rdG {α : Type} (sz : Nat) (dec : List AV → Option (List α)) (s : St) (v : AV) : Option (List α) :=
 if capOk sz s v then (lenSl v).bind fun n => if Nat.ble n 1000000 then (firstA (n * sz) v s).bind fun cs => (dec cs).bind fun xs => if Nat.beq xs.length n then some xs else none else none else none
theorem rdG_ok {α : Type} {d : Kd α} {e : Env} {s : St} {w : World} (hs : Sim e s w) {dec : List AV → Option (List α)} (hsz : 0 < d.sz)
 (hdec : ∀ cs xs vs,dec cs = some xs → concL e cs = some vs → ∀ j p,xs[j]? = some p → d.K w p ((vs.drop (j * d.sz)).take d.sz))
 {v : AV} {xs : List α} {x : Value} (h : rdG d.sz dec s v = some xs) (hx : conc e v = some x) : ∃ A c,x = .slice A xs.length c ∧ xs.length ≤ c ∧ d.C w A xs.length xs := by
 unfold rdG at h
 split at h
 case isFalse => cases h
 rename_i hcap
 simp only [Option.bind_eq_some_iff] at h
 obtain ⟨n,hn,h⟩ := h
 split at h
 case isFalse => cases h
 rename_i hle
 simp only [Option.bind_eq_some_iff] at h
 obtain ⟨cs,hcs,xs',hxs,h⟩ := h
 split at h
 case isFalse => cases h
 rename_i hlen
 cases h
 have hlen : xs.length = n := Nat.eq_of_beq_eq_true hlen
 subst hlen
 obtain ⟨_,A,c,rfl⟩ := lenSl_run hn hx
 refine ⟨A,c,rfl,capOk_le hs (n := 0) hcap hx,rfl,by have := Nat.le_of_ble_eq_true hle;omega,fun h0 => ?_⟩
 obtain ⟨ad,vs,rfl,hvs,hcell⟩ := first_cells hs hcs hx (Nat.mul_pos h0 hsz)
 refine ⟨ad,rfl,fun j p hj => ⟨_,d.K_len (hdec cs xs vs hxs hvs j p hj),hdec cs xs vs hxs hvs j p hj,fun i u hu => ?_⟩⟩
 rw [List.getElem?_take] at hu
 split at hu
 · rw [List.getElem?_drop] at hu
   exact hcell _ u hu
 · cases hu
def intsA : List AV → Option (List Int)
 | [] => some []
 | .int .i64 a :: l => (intsA l).map (a :: ·)
 | _ => none
theorem intsA_eq : ∀ {cs : List AV} {xs : List Int},intsA cs = some xs → cs = xs.map (.int .i64)
 | [],_,h => by cases h;rfl
 | a :: l,xs,h => by
  unfold intsA at h
  split at h
  · cases ‹_ :: _ = []›
  · rename_i heq;cases heq
    simp only [Option.map_eq_some_iff] at h
    obtain ⟨ys,h1,rfl⟩ := h
    rw [intsA_eq h1];rfl
  · cases h
theorem concL_ints (e : Env) : ∀ xs : List Int,concL e (xs.map (.int .i64)) = some (xs.map (Value.int .i64))
 | [] => rfl
 | x :: xs => by simp [concL,conc,concL_ints e xs]
noncomputable def rdInts : St → AV → Option (List Int) := rdG 1 intsA
theorem rdInts_ok {e : Env} {s : St} {w : World} (hs : Sim e s w) {v : AV} {xs : List Int} {x : Value} (h : rdInts s v = some xs) (hx : conc e v = some x) : ∃ A c,x = .slice A xs.length c ∧ xs.length ≤ c ∧ (Kd.int .i64).C w A xs.length xs := by
 refine rdG_ok (d := Kd.int .i64) hs (by show 0 < 1;omega) (fun cs xs vs h1 h2 j p hj => ?_) h hx
 rw [intsA_eq h1,concL_ints] at h2;cases h2
 show ((xs.map (Value.int .i64)).drop (j * 1)).take 1 = [.int .i64 p]
 have : (xs.map (Value.int .i64))[j * 1]? = some (.int .i64 p) := by simp [hj]
 rw [List.drop_eq_getElem?_toList_append]
 rw [this];rfl
noncomputable def eachA {α : Type} (f : AV → Option α) : List AV → Option (List α)
 | [] => some []
 | v :: l => (f v).bind fun x => (eachA f l).map (x :: ·)
theorem eachA_at {α : Type} {f : AV → Option α} : ∀ {cs : List AV} {xs : List α},eachA f cs = some xs → ∀ {e : Env} {vs : List Value},concL e cs = some vs → ∀ j p,xs[j]? = some p → ∃ v y,f v = some p ∧ conc e v = some y ∧ (vs.drop (j * 1)).take 1 = [y]
 | [],_,h,e,vs,hv,j,p,hj => by cases h;simp at hj
 | c :: cs,xs,h,e,vs,hv,j,p,hj => by
  simp only [eachA,Option.bind_eq_some_iff,Option.map_eq_some_iff] at h
  obtain ⟨x,hx,ys,hys,rfl⟩ := h
  obtain ⟨y,zs,hy,hzs,rfl⟩ := concL_cons hv
  cases j with
  | zero => cases hj;exact ⟨c,y,hx,hy,by simp⟩
  | succ j =>
   obtain ⟨v,y',h1,h2,h3⟩ := eachA_at hys hzs j p (by simpa using hj)
   exact ⟨v,y',h1,h2,by rw [show (j + 1) * 1 = j * 1 + 1 by omega];exact h3⟩
noncomputable def rdLists (s : St) : AV → Option (List (List Int)) := rdG 1 (eachA (rdInts s)) s
theorem rdLists_ok {e : Env} {s : St} {w : World} (hs : Sim e s w) {v : AV} {xs : List (List Int)} {x : Value} (h : rdLists s v = some xs) (hx : conc e v = some x) : ∃ A c,x = .slice A xs.length c ∧ xs.length ≤ c ∧ (Kd.slice 3 (Kd.int .i64)).C w A xs.length xs := by
 refine rdG_ok (d := Kd.slice 3 (Kd.int .i64)) hs (by show 0 < 1;omega) (fun cs xs vs h1 h2 j p hj => ?_) h hx
 obtain ⟨v,y,h3,h4,h5⟩ := eachA_at h1 h2 j p hj
 obtain ⟨A,c,rfl,h6,h7⟩ := rdInts_ok hs h3 h4
 exact ⟨A,c,h5,h6,h7⟩
theorem grow {e : Env} {s : St} {w w' : World} (h : Sim e s w) (hb : Below w.heap.size w w') : Sim e s w' ∧ Goes e s w e s w' := by
 refine ⟨⟨fun n x hx => ?_,h.inj,fun n b q hn => Nat.lt_of_lt_of_le (h.bound n b q hn) hb.size⟩,⟨Env.le.refl e,fun _ h => .inl h,fun _ _ h => h,fun _ _ h => h,fun b hb' _ => hb.block b hb',hb.size,hb.os,hb.tape,hb.output,fun _ _ => rfl,fun _ h => h,Nat.le_refl _⟩⟩
 obtain ⟨b,q,ob,he,hw,hr⟩ := h.at_ n x hx
 exact ⟨b,q,ob,he,(hb.block b (h.bound n b q he)).trans hw,hr⟩
def RwBelow (e : Env) (s : St) (B : Nat) : Prop := ∀ n x b q,s.heap.get n = some x → x.rw → e n = some (b,q) → b < B
theorem addAt {e0 e : Env} {s0 s : St} {w0 w : World} (hg : Goes e0 s0 w0 e s w) (h : Sim e s w) (hr : RwBelow e s w0.heap.size) {g q : Nat} {blk : Blk} {ob : Obj} (hfree : e s.next = none) (h0 : w0.heap.size ≤ g) (hlt : g < w.heap.size)
 (hro : ¬ blk.rw ∨ ∀ n x q,s.heap.get n = some x → e n ≠ some (g,q)) (hob : w.heap[g]? = some ob) (hb : BlkRel (e.upd s.next (g,q)) q blk ob) :
 Sim (e.upd s.next (g,q)) (s.add blk) w ∧ Goes e0 s0 w0 (e.upd s.next (g,q)) (s.add blk) w ∧ (¬ blk.rw → RwBelow (e.upd s.next (g,q)) (s.add blk) w0.heap.size) := by
 have hle := Env.le_upd (g,q) hfree
 refine ⟨⟨?_,?_,?_⟩,⟨hg.le.trans hle,?_,?_,?_,hg.frame,hg.size,hg.os,hg.tape,hg.output,?_,?_,Nat.le_trans hg.next (Nat.le_succ _)⟩,?_⟩
 · intro m x hx
   simp only [St.add,Tr.get_set] at hx
   split at hx
   · subst m;cases hx;exact ⟨g,q,ob,Env.upd_self ..,hob,hb⟩
   · obtain ⟨b',q',ob',he',hb',hr'⟩ := h.at_ m x hx
     exact ⟨b',q',ob',hle _ _ he',hb',hr'.le hle⟩
 · intro m k b' q1 q2 x y hm hmr hk em ek
   simp only [St.add,Tr.get_set] at hm hk
   by_cases e1 : m = s.next <;> by_cases e2 : k = s.next
   · rw [e1,e2]
   · subst e1;rw [Env.upd_self] at em;cases em;rw [Env.upd_ne _ _ e2] at ek;rw [if_neg e2] at hk;rw [if_pos rfl] at hm;cases hm
     rcases hro with hro | hro
     · exact absurd hmr hro
     · exact absurd ek (hro _ _ _ hk)
   · subst e2;rw [Env.upd_self] at ek;cases ek;rw [Env.upd_ne _ _ e1] at em;rw [if_neg e1] at hm
     exact absurd (hr m _ _ _ hm hmr em) (by omega)
   · rw [if_neg e1] at hm;rw [if_neg e2] at hk;rw [Env.upd_ne _ _ e1] at em;rw [Env.upd_ne _ _ e2] at ek
     exact h.inj m k b' q1 q2 _ _ hm hmr hk em ek
 · intro m b' q' hm
   by_cases e1 : m = s.next
   · subst e1;rw [Env.upd_self] at hm;cases hm;exact hlt
   · rw [Env.upd_ne _ _ e1] at hm;exact h.bound m b' q' hm
 · intro m hm
   by_cases e1 : m = s.next
   · exact .inr ⟨by rw [e1];exact hg.next,by simp only [St.add];omega⟩
   · rw [Env.upd_ne _ _ e1] at hm
     rcases hg.rng m hm with h1 | ⟨h1,h2⟩
     · exact .inl h1
     · exact .inr ⟨h1,Nat.lt_succ_of_lt h2⟩
 · rintro b' hb' ⟨m,x,q',hx,hxr,hm⟩
   simp only [St.add,Tr.get_set] at hx
   by_cases e1 : m = s.next
   · subst e1;rw [Env.upd_self] at hm;cases hm;omega
   · rw [if_neg e1] at hx;rw [Env.upd_ne _ _ e1] at hm;exact hg.own b' hb' ⟨m,x,q',hx,hxr,hm⟩
 · rintro b' hb' ⟨m,x,q',hx,hm⟩
   simp only [St.add,Tr.get_set] at hx
   by_cases e1 : m = s.next
   · subst e1;rw [Env.upd_self] at hm;cases hm;omega
   · rw [if_neg e1] at hx;rw [Env.upd_ne _ _ e1] at hm;exact hg.met b' hb' ⟨m,x,q',hx,hm⟩
 · intro m hm
   simp only [St.add,List.mem_cons,not_or] at hm ⊢
   rw [Tr.get_set,if_neg hm.1];exact hg.log m hm.2
 · intro m hm;exact List.mem_cons_of_mem _ (hg.logs m hm)
 · intro hro m x b' q' hx hxr hm
   simp only [St.add,Tr.get_set] at hx
   by_cases e1 : m = s.next
   · subst e1;rw [if_pos rfl] at hx;cases hx;exact absurd hxr hro
   · rw [if_neg e1] at hx;rw [Env.upd_ne _ _ e1] at hm;exact hr m x b' q' hx hxr hm
theorem rwBelow {e : Env} {s : St} {w : World} (h : Sim e s w) : RwBelow e s w.heap.size := fun n x b q _ _ he => h.bound n b q he
theorem endsC {P : Program} {f : FuncId} {xs : Array Value} {w : World} {R : Ending → World → Prop} (h : Calls P f xs w R) (c : Frame) (cs : List Frame) :
 ∃ e w',R e w' ∧ ∀ v,e = .returned v → Steps P (lone (Frame.enter P f xs .normal) (c :: cs) w) (lone (c.finish v) cs w') := by
 obtain ⟨e,w',fr,hR,hc,_,hl⟩ := h (c :: cs)
 refine ⟨e,w',hR,fun v hv => ?_⟩
 subst hv
 exact Steps.trans hc (.one (step_leave_returned hl))
theorem row_of {d : Kd Int} {e base n : Nat} {w : World} {ok : Nat → Prop} {v : Value} {xs : List Int} (h : (Kd.int .i64).R e w base ok v xs) (hx : xs ≠ []) :
 ∃ g cap rest,v = .slice (some ⟨g,0,none⟩) xs.length cap ∧ base ≤ g ∧ g < w.heap.size ∧ w.heap[g]? = some (.cells (xs.map (Value.int .i64) ++ rest).toArray e (0,0)) ∧ (xs.map (Value.int .i64) ++ rest).length = cap * 1 := by
 obtain ⟨_,inner,ho,hr⟩ := h
 obtain ⟨h1,h2⟩ := ho
 rcases h2 with ⟨_,h2⟩ | ⟨g,cap,cur,rfl,h3,h4,h5,h6,h7,h8⟩
 · exact absurd (List.length_eq_zero_iff.1 h2) hx
 have hin : inner = xs.map (Value.int .i64) := by
  apply List.ext_getElem?
  intro j
  have hl : inner.length = xs.length * 1 := h1
  cases hj : xs[j]? with
  | none =>
   rw [List.getElem?_map,hj,List.getElem?_eq_none];· rfl
   have := List.getElem?_eq_none_iff.1 hj;omega
  | some p =>
   have h9 : (inner.drop (j * 1)).take 1 = [.int .i64 p] := hr.2 j p hj
   rw [List.getElem?_map,hj]
   have : ((inner.drop (j * 1)).take 1)[0]? = some (Value.int .i64 p) := by rw [h9];rfl
   rw [List.getElem?_take,if_pos (by omega),List.getElem?_drop] at this
   simpa using this
 have hsz : (Kd.int .i64).sz = 1 := rfl
 rw [hsz] at h7 h8
 refine ⟨g,cap,cur.toList.drop (xs.length * 1),rfl,h3,(Array.getElem?_eq_some_iff.1 h4).1,?_,?_⟩
 · rw [h4,← hin,← h8,List.take_append_drop]
 · rw [← hin,← h8,List.take_append_drop,Array.length_toList];exact h7
noncomputable def addInts (t : TypeId) : List (List Int) → St → List AV × St
 | [],s => ([],s)
 | l :: r,s => let q := addInts t r (s.add (.ro t (some 1) (l.map (.int .i64))));(.opn s.next l.length :: q.1,q.2)
theorem addInts_next (t : TypeId) : ∀ (l : List (List Int)) (s : St),(addInts t l s).2.next = s.next + l.length
 | [],s => rfl
 | x :: r,s => by
  show (addInts t r _).2.next = _
  rw [addInts_next t r];simp only [St.add,List.length_cons];omega
theorem addInts_ok {e0 : Env} {s0 : St} {w0 w : World} {t : TypeId} {ok : Nat → Prop} : ∀ {l : List (List Int)} {vs : List Value} {e : Env} {s : St},Goes e0 s0 w0 e s w → Sim e s w → RwBelow e s w0.heap.size → Free e s.next (s.next + l.length) →
 vs.length = l.length → (∀ (j : Nat) (xs : List Int),l[j]? = some xs → xs ≠ [] ∧ ∃ v,vs[j]? = some v ∧ (Kd.int .i64).R t w w0.heap.size ok v xs) →
 ∃ e',Goes e0 s0 w0 e' (addInts t l s).2 w ∧ Sim e' (addInts t l s).2 w ∧ RwBelow e' (addInts t l s).2 w0.heap.size ∧ e.le e' ∧ concL e' (addInts t l s).1 = some vs ∧ ∀ n,s.next + l.length ≤ n → e n = none → e' n = none
 | [],vs,e,s,hg,hs,hr,hf,hl,h => by
  obtain rfl : vs = [] := List.length_eq_zero_iff.1 hl
  exact ⟨e,hg,hs,hr,Env.le.refl e,rfl,fun _ _ h => h⟩
 | x :: r,vs,e,s,hg,hs,hr,hf,hl,h => by
  obtain ⟨v,vs,rfl⟩ : ∃ v vs',vs = v :: vs' := by cases vs with | nil => simp at hl | cons a b => exact ⟨a,b,rfl⟩
  obtain ⟨hx,v',hv',hR⟩ := h 0 x rfl
  cases hv'
  obtain ⟨g,cap,rest,rfl,h1,h2,h3,h4⟩ := row_of (d := Kd.int .i64) (n := 0) hR hx
  have hfree : e s.next = none := hf _ (Nat.le_refl _) (by simp only [List.length_cons];omega)
  have hle := Env.le_upd (g,cap) hfree
  obtain ⟨q1,q2,q3⟩ := addAt (q := cap) (blk := .ro t (some 1) (x.map (.int .i64))) hg hs hr hfree h1 h2 (.inl fun z => z) h3 ⟨_,rest,concL_ints _ x,rfl,fun m hm => by cases hm;exact h4⟩
  obtain ⟨e',p1,p2,p3,p4,p5,p6⟩ := addInts_ok (l := r) (vs := vs) (s := s.add (.ro t (some 1) (x.map (.int .i64)))) q2 q1 (q3 fun z => z) (fun n a b => by
   rw [Env.upd_ne _ _ (by simp only [St.add] at a;omega)]
   exact hf n (by simp only [St.add] at a;omega) (by simp only [St.add] at b;simp only [List.length_cons];omega)) (by simpa using hl) (fun j xs hj => h (j + 1) xs (by simpa using hj))
  refine ⟨e',p1,p2,p3,hle.trans p4,?_,fun n a b => p6 n (by simp only [St.add,List.length_cons] at a ⊢;omega) ?_⟩
  · simp only [addInts,concL,conc,p4 _ _ (Env.upd_self e s.next (g,cap)),Option.map_some,Option.bind_some,p5]
  · rw [Env.upd_ne _ _ (by simp only [List.length_cons] at a;omega)];exact b
end Go.Abs

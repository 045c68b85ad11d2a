/- A part of the proof: the walks of the functions that it reaches. TIGHT. -/
import Derived.Test.YticlelgmmonloaaGreatDoorM10
set_option linter.unusedVariables false
set_option linter.unusedSimpArgs false
namespace Go.Proofs.YticlelgmmonloaaGreatDoor.C
open Go.RowKit Go.Proofs.YticlelgmmonloaaGreatDoorW.PrintWords Go.Proofs.YticlelgmmonloaaGreatDoorW.PrintLast Go.Proofs.YticlelgmmonloaaGreatDoorW.PrintMore
set_option linter.unusedVariables false
set_option linter.unusedSimpArgs false
set_option maxHeartbeats 16000000
set_option maxRecDepth 100000
section
attribute [local go_sem] max2_int min2_int max_two min_two
def q4_Basin.l0 : Nat → Int → List (S126) → Int → List (S64) → Int → Int → Option (Bool)
 | 0,_,_,_,_,_,_ => none
 | k + 1,x3,x471000,x471001,x471002,x471003,x471004 => if x3 < (x471002.length : Int) then (if 0 ≤ x3 then ((q4_in.f ((rd_T64 x471002 x3).f0) 0 (wrap64 ((x471000.length : Int) - 1))).bind fun t472 => (if t472 = true then ((q4_Height.f ((rd_T64 x471002 x3).f1)).bind fun t474 => (if t474 = true then (q4_Basin.l0 k (wrap64 (x3 + 1)) x471000 x471001 x471002 x471003 x471004) else (some false))) else (some false))) else (none)) else ((q3_Table.f k x471000 x471001).bind fun t475 => (if t475 = true then ((q4_in.f (x471002.length : Int) 1 6).bind fun t476 => (if t476 = true then ((q4_Height.f x471003).bind fun t477 => (if t477 = true then ((q4_in.f x471004 0 100).bind fun t478 => (some t478)) else (some false))) else (some false))) else (some false)))
def q4_Basin.f (k : Nat) (l0_0 : List (S126)) (a0_1 : Int) (l0_2 : List (S64)) (a0_3 : Int) (a0_4 : Int) : Option (Bool) := q4_Basin.l0 k 0 l0_0 a0_1 l0_2 a0_3 a0_4
theorem in_w {a b c : Int} {r : Bool} (h : q4_in.f a b (wrap64 c) = some r) : q4_in.f a b (IntKind.i64.wrap c) = some r := by rw [i64_w];exact h
theorem q4_Basin.calls (k : Nat) (A0_0 : Option Addr) (c0_0 : Nat) (l0_0 : List (S126)) (a0_1 : Int) (A0_2 : Option Addr) (c0_2 : Nat) (l0_2 : List (S64)) (a0_3 : Int) (a0_4 : Int) (r : Bool) (w : World) (hr0_0 : Kd.C k126 w A0_0 l0_0.length l0_0) (hc0_0 : l0_0.length ≤ c0_0) (hr0_2 : Kd.C k64 w A0_2 l0_2.length l0_2) (hc0_2 : l0_2.length ≤ c0_2) (h : q4_Basin.f k l0_0 a0_1 l0_2 a0_3 a0_4 = some r) :
 Calls Tryz.prog 17 #[.agg #[.slice A0_0 l0_0.length c0_0,.int .i64 a0_1,.slice A0_2 l0_2.length c0_2,.int .i64 a0_3,.int .i64 a0_4]] w fun e w' => e = .returned (.bool r) ∧ Below w.heap.size w w' := by
 have hu27 := Tryz.underlying27
 have hu24 := Tryz.underlying24
 have HR0_0 := am hr0_0
 have HC0_0 := am hc0_0
 clear hr0_0 hc0_0
 have HR0_2 := am hr0_2
 have HC0_2 := am hc0_2
 clear hr0_2 hc0_2
 have HB := am (Below.refl w.heap.size w)
 have H : (q4_Basin.l0 k 0 l0_0 a0_1 l0_2 a0_3 a0_4) = some r := h
 clear h
 replace H' := am H
 go_enter Tryz.func17,Tryz.ntmps17
 go_wp2_with (first | ((refine gate_dst (N := 1) rfl ?_);(try (refine gate_guard (by rfl) ?_;dsimp only));refine box_event rfl (N := 1) rfl (cs := #[.slice A0_0 l0_0.length c0_0,.int .i64 a0_1,.slice A0_2 l0_2.length c0_2,.int .i64 a0_3,.int .i64 a0_4]) (t := 27) ?hr ?_;(case hr => go_simp;try rfl);intro gb470 hg w2 hbox hb;have BK470 := am (hbox);have GW470 := am (ge_new (HB.out) hg);have GE470 := am (ge_new (HB.out) hg);replace HB := am (below_step (HB.out) hb);clear hb hbox hg))
 repeat (go_quiet (first | ((refine gate_dst (N := 1) rfl ?_);(try (refine gate_guard (by rfl) ?_;dsimp only));refine box_event rfl (N := 1) rfl (cs := #[.slice A0_0 l0_0.length c0_0,.int .i64 a0_1,.slice A0_2 l0_2.length c0_2,.int .i64 a0_3,.int .i64 a0_4]) (t := 27) ?hr ?_;(case hr => go_simp;try rfl);intro gb470 hg w2 hbox hb;have BK470 := am (hbox);have GW470 := am (ge_new (by repeat (first | (with_reducible first | exact HB.out | apply below_alloc | apply pw_below_drewN) | exact HB.out)) hg);have GE470 := am (ge_new (by repeat (first | (with_reducible first | exact HB.out | apply below_alloc | apply pw_below_drewN) | exact HB.out)) hg);replace HB := am (below_step (by repeat (first | (with_reducible first | exact HB.out | apply below_alloc | apply pw_below_drewN) | exact HB.out)) hb);clear hb hbox hg));try go_wp2_with (first | ((refine gate_dst (N := 1) rfl ?_);(try (refine gate_guard (by rfl) ?_;dsimp only));refine box_event rfl (N := 1) rfl (cs := #[.slice A0_0 l0_0.length c0_0,.int .i64 a0_1,.slice A0_2 l0_2.length c0_2,.int .i64 a0_3,.int .i64 a0_4]) (t := 27) ?hr ?_;(case hr => go_simp;try rfl);intro gb470 hg w2 hbox hb;have BK470 := am (hbox);have GW470 := am (ge_new (by repeat (first | (with_reducible first | exact HB.out | apply below_alloc | apply pw_below_drewN) | exact HB.out)) hg);have GE470 := am (ge_new (by repeat (first | (with_reducible first | exact HB.out | apply below_alloc | apply pw_below_drewN) | exact HB.out)) hg);replace HB := am (below_step (by repeat (first | (with_reducible first | exact HB.out | apply below_alloc | apply pw_below_drewN) | exact HB.out)) hb);clear hb hbox hg)))
 go_loopg [3] k (fun kq v3 w' => ∃ (x3_1 : Int),v3 = .int .i64 x3_1 ∧ Aside0 (q4_Basin.l0 kq x3_1 l0_0 a0_1 l0_2 a0_3 a0_4 = some r) ∧ Aside0 (kq ≤ k) ∧ Aside0 (w'.heap[gb470]? = some (.cells #[(.slice A0_0 l0_0.length c0_0),.int .i64 a0_1,(.slice A0_2 l0_2.length c0_2),.int .i64 a0_3,.int .i64 a0_4] 27 (0,0))) ∧ Aside0 (Below w.heap.size w w'))
 case atStart => exact ⟨(0),(by first | rfl | (simp;done) | (simp [*];done)),H',⟨Nat.le_refl _⟩,⟨BK470.out⟩,⟨HB.out⟩⟩
 case round =>
  clear H'
  obtain ⟨x3_1,rfl,HA,HK1,BK470,HB⟩ := hrel
  cases gk with
  | zero => exact absurd HA.out (by simp [q4_Basin.l0])
  | succ k1 =>
   have H := HA.out
   clear HA
   simp only [q4_Basin.l0] at H
   by_cases c3 : x3_1 < (l0_2.length : Int)
   · rw [if_pos c3] at H
     have c3b0 : decide (x3_1 < (l0_2.length : Int)) = true := decide_eq_true c3
     clear c3
     by_cases c4 : 0 ≤ x3_1
     case neg =>
      rw [if_neg c4] at H
      exact absurd H (by simp)
     rw [if_pos c4] at H
     have c4b0 : decide (0 ≤ x3_1) = true := decide_eq_true c4
     clear c4
     replace H := obm H
     obtain ⟨t472,A50,H⟩ := H
     replace H : (if t472 = true then ((q4_Height.f ((rd_T64 l0_2 x3_1).f1)).bind fun t474 => (if t474 = true then (q4_Basin.l0 k1 (wrap64 (x3_1 + 1)) l0_0 a0_1 l0_2 a0_3 a0_4) else (some false))) else (some false)) = some r := H
     have A5 := am A50
     clear A50
     by_cases c6 : t472 = true
     case neg =>
      replace c6 := Bool.eq_false_iff.mpr c6
      subst c6
      replace H : (some false) = some r := by rw [if_neg (show ¬ (false = true) by decide)] at H;exact H
      obtain rfl := Option.some.inj H
      obtain ⟨hcz11_0,hcz11_1,hcz11_2,hcz11_3,hcz11_4⟩ := cO5 BK470.out
      have p471 : 0 ≤ (x3_1 : Int) := of_decide_eq_true (by assumption)
      have q471 : x3_1 < (l0_2.length : Int) := of_decide_eq_true (by assumption)
      obtain ⟨ad471,e471,hx471_0,hx471_1⟩ := at_T64 HR0_2.out x3_1 p471 q471
      cases e471
      replace hx471_0 := (HB.out.cell (wbl hx471_0)).trans hx471_0
      replace hx471_1 := (HB.out.cell (wbl hx471_1)).trans hx471_1
      replace p471 := eq_true p471
      replace q471 := eq_true q471
      go_wp2_with (first | (go_at_call 61;(with_reducible refine (q4_in.calls ((rd_T64 l0_2 x3_1).f0) 0 (wrap64 ((l0_0.length : Int) - 1)) false _ A5.out).mono ?_);rintro e w' ⟨rfl,⟨nd,rfl⟩⟩;(try first | exact ⟨rfl,_,World.drewN_drewN _ _ _⟩ | exact ⟨rfl,_,Eq.trans (World.drewN_drewN _ _ _) (congrArg (World.drewN _) (Nat.add_assoc _ _ _))⟩)))
      repeat (go_quiet (first | (go_at_call 61;(with_reducible refine (q4_in.calls ((rd_T64 l0_2 x3_1).f0) 0 (wrap64 ((l0_0.length : Int) - 1)) false _ A5.out).mono ?_);rintro e w' ⟨rfl,⟨nd,rfl⟩⟩;(try first | exact ⟨rfl,_,World.drewN_drewN _ _ _⟩ | exact ⟨rfl,_,Eq.trans (World.drewN_drewN _ _ _) (congrArg (World.drewN _) (Nat.add_assoc _ _ _))⟩)));try go_wp2_with (first | (go_at_call 61;(with_reducible refine (q4_in.calls ((rd_T64 l0_2 x3_1).f0) 0 (wrap64 ((l0_0.length : Int) - 1)) false _ A5.out).mono ?_);rintro e w' ⟨rfl,⟨nd,rfl⟩⟩;(try first | exact ⟨rfl,_,World.drewN_drewN _ _ _⟩ | exact ⟨rfl,_,Eq.trans (World.drewN_drewN _ _ _) (congrArg (World.drewN _) (Nat.add_assoc _ _ _))⟩))))
      go_ret
      exact ⟨by first | rfl | (simp [*] <;> rfl),pw_below_drewN HB.out _⟩
     subst c6
     replace H : ((q4_Height.f ((rd_T64 l0_2 x3_1).f1)).bind fun t474 => (if t474 = true then (q4_Basin.l0 k1 (wrap64 (x3_1 + 1)) l0_0 a0_1 l0_2 a0_3 a0_4) else (some false))) = some r := by rw [if_pos rfl] at H;exact H
     replace H := obm H
     obtain ⟨t474,A70,H⟩ := H
     replace H : (if t474 = true then (q4_Basin.l0 k1 (wrap64 (x3_1 + 1)) l0_0 a0_1 l0_2 a0_3 a0_4) else (some false)) = some r := H
     have A7 := am A70
     clear A70
     by_cases c8 : t474 = true
     · subst c8
       replace H : (q4_Basin.l0 k1 (wrap64 (x3_1 + 1)) l0_0 a0_1 l0_2 a0_3 a0_4) = some r := by rw [if_pos rfl] at H;exact H
       replace H' := am H
       obtain ⟨hcz9_0,hcz9_1,hcz9_2,hcz9_3,hcz9_4⟩ := cO5 BK470.out
       have p471 : 0 ≤ (x3_1 : Int) := of_decide_eq_true (by assumption)
       have q471 : x3_1 < (l0_2.length : Int) := of_decide_eq_true (by assumption)
       obtain ⟨ad471,e471,hx471_0,hx471_1⟩ := at_T64 HR0_2.out x3_1 p471 q471
       cases e471
       replace hx471_0 := (HB.out.cell (wbl hx471_0)).trans hx471_0
       replace hx471_1 := (HB.out.cell (wbl hx471_1)).trans hx471_1
       replace p471 := eq_true p471
       replace q471 := eq_true q471
       go_wp2_with (first | (go_at_call 61;(with_reducible refine (q4_in.calls ((rd_T64 l0_2 x3_1).f0) 0 (IntKind.i64.wrap ((l0_0.length : Int) - 1)) true _ (in_w A5.out)).mono ?_);rintro e w' ⟨rfl,⟨nd,rfl⟩⟩;(try first | exact ⟨rfl,_,World.drewN_drewN _ _ _⟩ | exact ⟨rfl,_,Eq.trans (World.drewN_drewN _ _ _) (congrArg (World.drewN _) (Nat.add_assoc _ _ _))⟩);have p473 : 0 ≤ (x3_1 : Int) := of_decide_eq_true (by assumption);have q473 : x3_1 < (l0_2.length : Int) := of_decide_eq_true (by assumption);obtain ⟨ad473,e473,hx473_0,hx473_1⟩ := at_T64 HR0_2.out x3_1 p473 q473;obtain rfl : ad471 = ad473 := (by injection e473);replace hx473_0 := (HB.out.cell (wbl hx473_0)).trans hx473_0;replace hx473_1 := (HB.out.cell (wbl hx473_1)).trans hx473_1;replace p473 := eq_true p473;replace q473 := eq_true q473) | (go_at_call 21;(with_reducible refine (q4_Height.calls ((rd_T64 l0_2 x3_1).f1) true _ A7.out).mono ?_);rintro e w' ⟨rfl,⟨nd,rfl⟩⟩;(try first | exact ⟨rfl,_,World.drewN_drewN _ _ _⟩ | exact ⟨rfl,_,Eq.trans (World.drewN_drewN _ _ _) (congrArg (World.drewN _) (Nat.add_assoc _ _ _))⟩)))
       repeat (go_quiet (first | (go_at_call 61;(with_reducible refine (q4_in.calls ((rd_T64 l0_2 x3_1).f0) 0 (IntKind.i64.wrap ((l0_0.length : Int) - 1)) true _ (in_w A5.out)).mono ?_);rintro e w' ⟨rfl,⟨nd,rfl⟩⟩;(try first | exact ⟨rfl,_,World.drewN_drewN _ _ _⟩ | exact ⟨rfl,_,Eq.trans (World.drewN_drewN _ _ _) (congrArg (World.drewN _) (Nat.add_assoc _ _ _))⟩);have p473 : 0 ≤ (x3_1 : Int) := of_decide_eq_true (by assumption);have q473 : x3_1 < (l0_2.length : Int) := of_decide_eq_true (by assumption);obtain ⟨ad473,e473,hx473_0,hx473_1⟩ := at_T64 HR0_2.out x3_1 p473 q473;obtain rfl : ad471 = ad473 := (by injection e473);replace hx473_0 := (HB.out.cell (wbl hx473_0)).trans hx473_0;replace hx473_1 := (HB.out.cell (wbl hx473_1)).trans hx473_1;replace p473 := eq_true p473;replace q473 := eq_true q473) | (go_at_call 21;(with_reducible refine (q4_Height.calls ((rd_T64 l0_2 x3_1).f1) true _ A7.out).mono ?_);rintro e w' ⟨rfl,⟨nd,rfl⟩⟩;(try first | exact ⟨rfl,_,World.drewN_drewN _ _ _⟩ | exact ⟨rfl,_,Eq.trans (World.drewN_drewN _ _ _) (congrArg (World.drewN _) (Nat.add_assoc _ _ _))⟩)));try go_wp2_with (first | (go_at_call 61;(with_reducible refine (q4_in.calls ((rd_T64 l0_2 x3_1).f0) 0 (IntKind.i64.wrap ((l0_0.length : Int) - 1)) true _ (in_w A5.out)).mono ?_);rintro e w' ⟨rfl,⟨nd,rfl⟩⟩;(try first | exact ⟨rfl,_,World.drewN_drewN _ _ _⟩ | exact ⟨rfl,_,Eq.trans (World.drewN_drewN _ _ _) (congrArg (World.drewN _) (Nat.add_assoc _ _ _))⟩);have p473 : 0 ≤ (x3_1 : Int) := of_decide_eq_true (by assumption);have q473 : x3_1 < (l0_2.length : Int) := of_decide_eq_true (by assumption);obtain ⟨ad473,e473,hx473_0,hx473_1⟩ := at_T64 HR0_2.out x3_1 p473 q473;obtain rfl : ad471 = ad473 := (by injection e473);replace hx473_0 := (HB.out.cell (wbl hx473_0)).trans hx473_0;replace hx473_1 := (HB.out.cell (wbl hx473_1)).trans hx473_1;replace p473 := eq_true p473;replace q473 := eq_true q473) | (go_at_call 21;(with_reducible refine (q4_Height.calls ((rd_T64 l0_2 x3_1).f1) true _ A7.out).mono ?_);rintro e w' ⟨rfl,⟨nd,rfl⟩⟩;(try first | exact ⟨rfl,_,World.drewN_drewN _ _ _⟩ | exact ⟨rfl,_,Eq.trans (World.drewN_drewN _ _ _) (congrArg (World.drewN _) (Nat.add_assoc _ _ _))⟩))))
       go_roundg k1
       case measure => have := HK1.out;omega
       case rel => exact ⟨(wrap64 (x3_1 + 1)),(by first | rfl | (simp;done) | (simp [*];done)),H',⟨by have := HK1.out;omega⟩,⟨BK470.out⟩,⟨pw_below_drewN HB.out _⟩⟩
     · replace c8 := Bool.eq_false_iff.mpr c8
       subst c8
       replace H : (some false) = some r := by rw [if_neg (show ¬ (false = true) by decide)] at H;exact H
       obtain rfl := Option.some.inj H
       obtain ⟨hcz10_0,hcz10_1,hcz10_2,hcz10_3,hcz10_4⟩ := cO5 BK470.out
       have p471 : 0 ≤ (x3_1 : Int) := of_decide_eq_true (by assumption)
       have q471 : x3_1 < (l0_2.length : Int) := of_decide_eq_true (by assumption)
       obtain ⟨ad471,e471,hx471_0,hx471_1⟩ := at_T64 HR0_2.out x3_1 p471 q471
       cases e471
       replace hx471_0 := (HB.out.cell (wbl hx471_0)).trans hx471_0
       replace hx471_1 := (HB.out.cell (wbl hx471_1)).trans hx471_1
       replace p471 := eq_true p471
       replace q471 := eq_true q471
       go_wp2_with (first | (go_at_call 61;(with_reducible refine (q4_in.calls ((rd_T64 l0_2 x3_1).f0) 0 (IntKind.i64.wrap ((l0_0.length : Int) - 1)) true _ (in_w A5.out)).mono ?_);rintro e w' ⟨rfl,⟨nd,rfl⟩⟩;(try first | exact ⟨rfl,_,World.drewN_drewN _ _ _⟩ | exact ⟨rfl,_,Eq.trans (World.drewN_drewN _ _ _) (congrArg (World.drewN _) (Nat.add_assoc _ _ _))⟩);have p473 : 0 ≤ (x3_1 : Int) := of_decide_eq_true (by assumption);have q473 : x3_1 < (l0_2.length : Int) := of_decide_eq_true (by assumption);obtain ⟨ad473,e473,hx473_0,hx473_1⟩ := at_T64 HR0_2.out x3_1 p473 q473;obtain rfl : ad471 = ad473 := (by injection e473);replace hx473_0 := (HB.out.cell (wbl hx473_0)).trans hx473_0;replace hx473_1 := (HB.out.cell (wbl hx473_1)).trans hx473_1;replace p473 := eq_true p473;replace q473 := eq_true q473) | (go_at_call 21;(with_reducible refine (q4_Height.calls ((rd_T64 l0_2 x3_1).f1) false _ A7.out).mono ?_);rintro e w' ⟨rfl,⟨nd,rfl⟩⟩;(try first | exact ⟨rfl,_,World.drewN_drewN _ _ _⟩ | exact ⟨rfl,_,Eq.trans (World.drewN_drewN _ _ _) (congrArg (World.drewN _) (Nat.add_assoc _ _ _))⟩)))
       repeat (go_quiet (first | (go_at_call 61;(with_reducible refine (q4_in.calls ((rd_T64 l0_2 x3_1).f0) 0 (IntKind.i64.wrap ((l0_0.length : Int) - 1)) true _ (in_w A5.out)).mono ?_);rintro e w' ⟨rfl,⟨nd,rfl⟩⟩;(try first | exact ⟨rfl,_,World.drewN_drewN _ _ _⟩ | exact ⟨rfl,_,Eq.trans (World.drewN_drewN _ _ _) (congrArg (World.drewN _) (Nat.add_assoc _ _ _))⟩);have p473 : 0 ≤ (x3_1 : Int) := of_decide_eq_true (by assumption);have q473 : x3_1 < (l0_2.length : Int) := of_decide_eq_true (by assumption);obtain ⟨ad473,e473,hx473_0,hx473_1⟩ := at_T64 HR0_2.out x3_1 p473 q473;obtain rfl : ad471 = ad473 := (by injection e473);replace hx473_0 := (HB.out.cell (wbl hx473_0)).trans hx473_0;replace hx473_1 := (HB.out.cell (wbl hx473_1)).trans hx473_1;replace p473 := eq_true p473;replace q473 := eq_true q473) | (go_at_call 21;(with_reducible refine (q4_Height.calls ((rd_T64 l0_2 x3_1).f1) false _ A7.out).mono ?_);rintro e w' ⟨rfl,⟨nd,rfl⟩⟩;(try first | exact ⟨rfl,_,World.drewN_drewN _ _ _⟩ | exact ⟨rfl,_,Eq.trans (World.drewN_drewN _ _ _) (congrArg (World.drewN _) (Nat.add_assoc _ _ _))⟩)));try go_wp2_with (first | (go_at_call 61;(with_reducible refine (q4_in.calls ((rd_T64 l0_2 x3_1).f0) 0 (IntKind.i64.wrap ((l0_0.length : Int) - 1)) true _ (in_w A5.out)).mono ?_);rintro e w' ⟨rfl,⟨nd,rfl⟩⟩;(try first | exact ⟨rfl,_,World.drewN_drewN _ _ _⟩ | exact ⟨rfl,_,Eq.trans (World.drewN_drewN _ _ _) (congrArg (World.drewN _) (Nat.add_assoc _ _ _))⟩);have p473 : 0 ≤ (x3_1 : Int) := of_decide_eq_true (by assumption);have q473 : x3_1 < (l0_2.length : Int) := of_decide_eq_true (by assumption);obtain ⟨ad473,e473,hx473_0,hx473_1⟩ := at_T64 HR0_2.out x3_1 p473 q473;obtain rfl : ad471 = ad473 := (by injection e473);replace hx473_0 := (HB.out.cell (wbl hx473_0)).trans hx473_0;replace hx473_1 := (HB.out.cell (wbl hx473_1)).trans hx473_1;replace p473 := eq_true p473;replace q473 := eq_true q473) | (go_at_call 21;(with_reducible refine (q4_Height.calls ((rd_T64 l0_2 x3_1).f1) false _ A7.out).mono ?_);rintro e w' ⟨rfl,⟨nd,rfl⟩⟩;(try first | exact ⟨rfl,_,World.drewN_drewN _ _ _⟩ | exact ⟨rfl,_,Eq.trans (World.drewN_drewN _ _ _) (congrArg (World.drewN _) (Nat.add_assoc _ _ _))⟩))))
       go_ret
       exact ⟨by first | rfl | (simp [*] <;> rfl),pw_below_drewN HB.out _⟩
   · rw [if_neg c3] at H
     have c3b0 : decide (x3_1 < (l0_2.length : Int)) = false := decide_eq_false c3
     clear c3
     replace H := obm H
     obtain ⟨t475,A120,H⟩ := H
     replace H : (if t475 = true then ((q4_in.f (l0_2.length : Int) 1 6).bind fun t476 => (if t476 = true then ((q4_Height.f a0_3).bind fun t477 => (if t477 = true then ((q4_in.f a0_4 0 100).bind fun t478 => (some t478)) else (some false))) else (some false))) else (some false)) = some r := H
     have A12 := am A120
     clear A120
     by_cases c13 : t475 = true
     case neg =>
      replace c13 := Bool.eq_false_iff.mpr c13
      subst c13
      replace H : (some false) = some r := by rw [if_neg (show ¬ (false = true) by decide)] at H;exact H
      obtain rfl := Option.some.inj H
      obtain ⟨hcz28_0,hcz28_1,hcz28_2,hcz28_3,hcz28_4⟩ := cO5 BK470.out
      go_wp2_with (first | (go_at_call 62;(with_reducible refine (q3_Table.calls k1 _ _ l0_0 a0_1 false _ ?side1 ?side2 A12.out).mono ?_);(case side1 => exact kC HR0_0.out HB.out);(case side2 => exact HC0_0.out);rintro e w29 ⟨rfl,hb⟩;replace BK470 := (kmv hb BK470);replace HB := am (below_step (HB.out) hb);(try clear hb);(try clear hb2);(try clear hk);(try clear hi)))
      repeat (go_quiet (first | (go_at_call 62;(with_reducible refine (q3_Table.calls k1 _ _ l0_0 a0_1 false _ ?side1 ?side2 A12.out).mono ?_);(case side1 => repeat (first | exact (kC HR0_0.out HB.out) | (with_reducible refine Kd.C_alloc ?_ _) | (with_reducible refine Kd.C_drewN ?_ _) | (with_reducible refine Kd.C_drew ?_)));(case side2 => exact HC0_0.out);rintro e w29 ⟨rfl,hb⟩;replace BK470 := (kmv hb BK470);replace HB := am (below_step (by repeat (first | (with_reducible first | exact HB.out | refine below_set ?_ GE470.out | apply below_alloc | apply pw_below_drewN) | exact HB.out)) hb);(try clear hb);(try clear hb2);(try clear hk);(try clear hi)));try go_wp2_with (first | (go_at_call 62;(with_reducible refine (q3_Table.calls k1 _ _ l0_0 a0_1 false _ ?side1 ?side2 A12.out).mono ?_);(case side1 => repeat (first | exact (kC HR0_0.out HB.out) | (with_reducible refine Kd.C_alloc ?_ _) | (with_reducible refine Kd.C_drewN ?_ _) | (with_reducible refine Kd.C_drew ?_)));(case side2 => exact HC0_0.out);rintro e w29 ⟨rfl,hb⟩;replace BK470 := (kmv hb BK470);replace HB := am (below_step (by repeat (first | (with_reducible first | exact HB.out | refine below_set ?_ GE470.out | apply below_alloc | apply pw_below_drewN) | exact HB.out)) hb);(try clear hb);(try clear hb2);(try clear hk);(try clear hi))))
      go_ret
      exact ⟨by first | rfl | (simp [*] <;> rfl),HB.out⟩
     subst c13
     replace H : ((q4_in.f (l0_2.length : Int) 1 6).bind fun t476 => (if t476 = true then ((q4_Height.f a0_3).bind fun t477 => (if t477 = true then ((q4_in.f a0_4 0 100).bind fun t478 => (some t478)) else (some false))) else (some false))) = some r := by rw [if_pos rfl] at H;exact H
     replace H := obm H
     obtain ⟨t476,A140,H⟩ := H
     replace H : (if t476 = true then ((q4_Height.f a0_3).bind fun t477 => (if t477 = true then ((q4_in.f a0_4 0 100).bind fun t478 => (some t478)) else (some false))) else (some false)) = some r := H
     have A14 := am A140
     clear A140
     by_cases c15 : t476 = true
     case neg =>
      replace c15 := Bool.eq_false_iff.mpr c15
      subst c15
      replace H : (some false) = some r := by rw [if_neg (show ¬ (false = true) by decide)] at H;exact H
      obtain rfl := Option.some.inj H
      obtain ⟨hcz25_0,hcz25_1,hcz25_2,hcz25_3,hcz25_4⟩ := cO5 BK470.out
      go_wp2_with (first | (go_at_call 62;(with_reducible refine (q3_Table.calls k1 _ _ l0_0 a0_1 true _ ?side1 ?side2 A12.out).mono ?_);(case side1 => exact kC HR0_0.out HB.out);(case side2 => exact HC0_0.out);rintro e w26 ⟨rfl,hb⟩;replace BK470 := (kmv hb BK470);replace HB := am (below_step (HB.out) hb);(try clear hb);(try clear hb2);(try clear hk);(try clear hi);obtain ⟨hcz27_0,hcz27_1,hcz27_2,hcz27_3,hcz27_4⟩ := cO5 BK470.out) | (go_at_call 61;(with_reducible refine (q4_in.calls (l0_2.length : Int) 1 6 false _ A14.out).mono ?_);rintro e w' ⟨rfl,⟨nd,rfl⟩⟩;(try first | exact ⟨rfl,_,World.drewN_drewN _ _ _⟩ | exact ⟨rfl,_,Eq.trans (World.drewN_drewN _ _ _) (congrArg (World.drewN _) (Nat.add_assoc _ _ _))⟩)))
      repeat (go_quiet (first | (go_at_call 62;(with_reducible refine (q3_Table.calls k1 _ _ l0_0 a0_1 true _ ?side1 ?side2 A12.out).mono ?_);(case side1 => repeat (first | exact (kC HR0_0.out HB.out) | (with_reducible refine Kd.C_alloc ?_ _) | (with_reducible refine Kd.C_drewN ?_ _) | (with_reducible refine Kd.C_drew ?_)));(case side2 => exact HC0_0.out);rintro e w26 ⟨rfl,hb⟩;replace BK470 := (kmv hb BK470);replace HB := am (below_step (by repeat (first | (with_reducible first | exact HB.out | refine below_set ?_ GE470.out | apply below_alloc | apply pw_below_drewN) | exact HB.out)) hb);(try clear hb);(try clear hb2);(try clear hk);(try clear hi);obtain ⟨hcz27_0,hcz27_1,hcz27_2,hcz27_3,hcz27_4⟩ := cO5 BK470.out) | (go_at_call 61;(with_reducible refine (q4_in.calls (l0_2.length : Int) 1 6 false _ A14.out).mono ?_);rintro e w' ⟨rfl,⟨nd,rfl⟩⟩;(try first | exact ⟨rfl,_,World.drewN_drewN _ _ _⟩ | exact ⟨rfl,_,Eq.trans (World.drewN_drewN _ _ _) (congrArg (World.drewN _) (Nat.add_assoc _ _ _))⟩)));try go_wp2_with (first | (go_at_call 62;(with_reducible refine (q3_Table.calls k1 _ _ l0_0 a0_1 true _ ?side1 ?side2 A12.out).mono ?_);(case side1 => repeat (first | exact (kC HR0_0.out HB.out) | (with_reducible refine Kd.C_alloc ?_ _) | (with_reducible refine Kd.C_drewN ?_ _) | (with_reducible refine Kd.C_drew ?_)));(case side2 => exact HC0_0.out);rintro e w26 ⟨rfl,hb⟩;replace BK470 := (kmv hb BK470);replace HB := am (below_step (by repeat (first | (with_reducible first | exact HB.out | refine below_set ?_ GE470.out | apply below_alloc | apply pw_below_drewN) | exact HB.out)) hb);(try clear hb);(try clear hb2);(try clear hk);(try clear hi);obtain ⟨hcz27_0,hcz27_1,hcz27_2,hcz27_3,hcz27_4⟩ := cO5 BK470.out) | (go_at_call 61;(with_reducible refine (q4_in.calls (l0_2.length : Int) 1 6 false _ A14.out).mono ?_);rintro e w' ⟨rfl,⟨nd,rfl⟩⟩;(try first | exact ⟨rfl,_,World.drewN_drewN _ _ _⟩ | exact ⟨rfl,_,Eq.trans (World.drewN_drewN _ _ _) (congrArg (World.drewN _) (Nat.add_assoc _ _ _))⟩))))
      go_ret
      exact ⟨by first | rfl | (simp [*] <;> rfl),pw_below_drewN HB.out _⟩
     subst c15
     replace H : ((q4_Height.f a0_3).bind fun t477 => (if t477 = true then ((q4_in.f a0_4 0 100).bind fun t478 => (some t478)) else (some false))) = some r := by rw [if_pos rfl] at H;exact H
     replace H := obm H
     obtain ⟨t477,A160,H⟩ := H
     replace H : (if t477 = true then ((q4_in.f a0_4 0 100).bind fun t478 => (some t478)) else (some false)) = some r := H
     have A16 := am A160
     clear A160
     by_cases c17 : t477 = true
     case neg =>
      replace c17 := Bool.eq_false_iff.mpr c17
      subst c17
      replace H : (some false) = some r := by rw [if_neg (show ¬ (false = true) by decide)] at H;exact H
      obtain rfl := Option.some.inj H
      obtain ⟨hcz22_0,hcz22_1,hcz22_2,hcz22_3,hcz22_4⟩ := cO5 BK470.out
      go_wp2_with (first | (go_at_call 62;(with_reducible refine (q3_Table.calls k1 _ _ l0_0 a0_1 true _ ?side1 ?side2 A12.out).mono ?_);(case side1 => exact kC HR0_0.out HB.out);(case side2 => exact HC0_0.out);rintro e w23 ⟨rfl,hb⟩;replace BK470 := (kmv hb BK470);replace HB := am (below_step (HB.out) hb);(try clear hb);(try clear hb2);(try clear hk);(try clear hi);obtain ⟨hcz24_0,hcz24_1,hcz24_2,hcz24_3,hcz24_4⟩ := cO5 BK470.out) | (go_at_call 61;(with_reducible refine (q4_in.calls (l0_2.length : Int) 1 6 true _ A14.out).mono ?_);rintro e w' ⟨rfl,⟨nd,rfl⟩⟩;(try first | exact ⟨rfl,_,World.drewN_drewN _ _ _⟩ | exact ⟨rfl,_,Eq.trans (World.drewN_drewN _ _ _) (congrArg (World.drewN _) (Nat.add_assoc _ _ _))⟩)) | (go_at_call 21;(with_reducible refine (q4_Height.calls a0_3 false _ A16.out).mono ?_);rintro e w' ⟨rfl,⟨nd,rfl⟩⟩;(try first | exact ⟨rfl,_,World.drewN_drewN _ _ _⟩ | exact ⟨rfl,_,Eq.trans (World.drewN_drewN _ _ _) (congrArg (World.drewN _) (Nat.add_assoc _ _ _))⟩)))
      repeat (go_quiet (first | (go_at_call 62;(with_reducible refine (q3_Table.calls k1 _ _ l0_0 a0_1 true _ ?side1 ?side2 A12.out).mono ?_);(case side1 => repeat (first | exact (kC HR0_0.out HB.out) | (with_reducible refine Kd.C_alloc ?_ _) | (with_reducible refine Kd.C_drewN ?_ _) | (with_reducible refine Kd.C_drew ?_)));(case side2 => exact HC0_0.out);rintro e w23 ⟨rfl,hb⟩;replace BK470 := (kmv hb BK470);replace HB := am (below_step (by repeat (first | (with_reducible first | exact HB.out | refine below_set ?_ GE470.out | apply below_alloc | apply pw_below_drewN) | exact HB.out)) hb);(try clear hb);(try clear hb2);(try clear hk);(try clear hi);obtain ⟨hcz24_0,hcz24_1,hcz24_2,hcz24_3,hcz24_4⟩ := cO5 BK470.out) | (go_at_call 61;(with_reducible refine (q4_in.calls (l0_2.length : Int) 1 6 true _ A14.out).mono ?_);rintro e w' ⟨rfl,⟨nd,rfl⟩⟩;(try first | exact ⟨rfl,_,World.drewN_drewN _ _ _⟩ | exact ⟨rfl,_,Eq.trans (World.drewN_drewN _ _ _) (congrArg (World.drewN _) (Nat.add_assoc _ _ _))⟩)) | (go_at_call 21;(with_reducible refine (q4_Height.calls a0_3 false _ A16.out).mono ?_);rintro e w' ⟨rfl,⟨nd,rfl⟩⟩;(try first | exact ⟨rfl,_,World.drewN_drewN _ _ _⟩ | exact ⟨rfl,_,Eq.trans (World.drewN_drewN _ _ _) (congrArg (World.drewN _) (Nat.add_assoc _ _ _))⟩)));try go_wp2_with (first | (go_at_call 62;(with_reducible refine (q3_Table.calls k1 _ _ l0_0 a0_1 true _ ?side1 ?side2 A12.out).mono ?_);(case side1 => repeat (first | exact (kC HR0_0.out HB.out) | (with_reducible refine Kd.C_alloc ?_ _) | (with_reducible refine Kd.C_drewN ?_ _) | (with_reducible refine Kd.C_drew ?_)));(case side2 => exact HC0_0.out);rintro e w23 ⟨rfl,hb⟩;replace BK470 := (kmv hb BK470);replace HB := am (below_step (by repeat (first | (with_reducible first | exact HB.out | refine below_set ?_ GE470.out | apply below_alloc | apply pw_below_drewN) | exact HB.out)) hb);(try clear hb);(try clear hb2);(try clear hk);(try clear hi);obtain ⟨hcz24_0,hcz24_1,hcz24_2,hcz24_3,hcz24_4⟩ := cO5 BK470.out) | (go_at_call 61;(with_reducible refine (q4_in.calls (l0_2.length : Int) 1 6 true _ A14.out).mono ?_);rintro e w' ⟨rfl,⟨nd,rfl⟩⟩;(try first | exact ⟨rfl,_,World.drewN_drewN _ _ _⟩ | exact ⟨rfl,_,Eq.trans (World.drewN_drewN _ _ _) (congrArg (World.drewN _) (Nat.add_assoc _ _ _))⟩)) | (go_at_call 21;(with_reducible refine (q4_Height.calls a0_3 false _ A16.out).mono ?_);rintro e w' ⟨rfl,⟨nd,rfl⟩⟩;(try first | exact ⟨rfl,_,World.drewN_drewN _ _ _⟩ | exact ⟨rfl,_,Eq.trans (World.drewN_drewN _ _ _) (congrArg (World.drewN _) (Nat.add_assoc _ _ _))⟩))))
      go_ret
      exact ⟨by first | rfl | (simp [*] <;> rfl),pw_below_drewN HB.out _⟩
     subst c17
     replace H : ((q4_in.f a0_4 0 100).bind fun t478 => (some t478)) = some r := by rw [if_pos rfl] at H;exact H
     replace H := obm H
     obtain ⟨t478,A180,H⟩ := H
     replace H : (some t478) = some r := H
     have A18 := am A180
     clear A180
     obtain rfl := Option.some.inj H
     obtain ⟨hcz19_0,hcz19_1,hcz19_2,hcz19_3,hcz19_4⟩ := cO5 BK470.out
     go_wp2_with (first | (go_at_call 62;(with_reducible refine (q3_Table.calls k1 _ _ l0_0 a0_1 true _ ?side1 ?side2 A12.out).mono ?_);(case side1 => exact kC HR0_0.out HB.out);(case side2 => exact HC0_0.out);rintro e w20 ⟨rfl,hb⟩;replace BK470 := (kmv hb BK470);replace HB := am (below_step (HB.out) hb);(try clear hb);(try clear hb2);(try clear hk);(try clear hi);obtain ⟨hcz21_0,hcz21_1,hcz21_2,hcz21_3,hcz21_4⟩ := cO5 BK470.out) | (go_at_call 61;(with_reducible refine (q4_in.calls (l0_2.length : Int) 1 6 true _ A14.out).mono ?_);rintro e w' ⟨rfl,⟨nd,rfl⟩⟩;(try first | exact ⟨rfl,_,World.drewN_drewN _ _ _⟩ | exact ⟨rfl,_,Eq.trans (World.drewN_drewN _ _ _) (congrArg (World.drewN _) (Nat.add_assoc _ _ _))⟩)) | (go_at_call 21;(with_reducible refine (q4_Height.calls a0_3 true _ A16.out).mono ?_);rintro e w' ⟨rfl,⟨nd,rfl⟩⟩;(try first | exact ⟨rfl,_,World.drewN_drewN _ _ _⟩ | exact ⟨rfl,_,Eq.trans (World.drewN_drewN _ _ _) (congrArg (World.drewN _) (Nat.add_assoc _ _ _))⟩)) | (go_at_call 61;(with_reducible refine (q4_in.calls a0_4 0 100 t478 _ A18.out).mono ?_);rintro e w' ⟨rfl,⟨nd,rfl⟩⟩;(try first | exact ⟨rfl,_,World.drewN_drewN _ _ _⟩ | exact ⟨rfl,_,Eq.trans (World.drewN_drewN _ _ _) (congrArg (World.drewN _) (Nat.add_assoc _ _ _))⟩)))
     repeat (go_quiet (first | (go_at_call 62;(with_reducible refine (q3_Table.calls k1 _ _ l0_0 a0_1 true _ ?side1 ?side2 A12.out).mono ?_);(case side1 => repeat (first | exact (kC HR0_0.out HB.out) | (with_reducible refine Kd.C_alloc ?_ _) | (with_reducible refine Kd.C_drewN ?_ _) | (with_reducible refine Kd.C_drew ?_)));(case side2 => exact HC0_0.out);rintro e w20 ⟨rfl,hb⟩;replace BK470 := (kmv hb BK470);replace HB := am (below_step (by repeat (first | (with_reducible first | exact HB.out | refine below_set ?_ GE470.out | apply below_alloc | apply pw_below_drewN) | exact HB.out)) hb);(try clear hb);(try clear hb2);(try clear hk);(try clear hi);obtain ⟨hcz21_0,hcz21_1,hcz21_2,hcz21_3,hcz21_4⟩ := cO5 BK470.out) | (go_at_call 61;(with_reducible refine (q4_in.calls (l0_2.length : Int) 1 6 true _ A14.out).mono ?_);rintro e w' ⟨rfl,⟨nd,rfl⟩⟩;(try first | exact ⟨rfl,_,World.drewN_drewN _ _ _⟩ | exact ⟨rfl,_,Eq.trans (World.drewN_drewN _ _ _) (congrArg (World.drewN _) (Nat.add_assoc _ _ _))⟩)) | (go_at_call 21;(with_reducible refine (q4_Height.calls a0_3 true _ A16.out).mono ?_);rintro e w' ⟨rfl,⟨nd,rfl⟩⟩;(try first | exact ⟨rfl,_,World.drewN_drewN _ _ _⟩ | exact ⟨rfl,_,Eq.trans (World.drewN_drewN _ _ _) (congrArg (World.drewN _) (Nat.add_assoc _ _ _))⟩)) | (go_at_call 61;(with_reducible refine (q4_in.calls a0_4 0 100 t478 _ A18.out).mono ?_);rintro e w' ⟨rfl,⟨nd,rfl⟩⟩;(try first | exact ⟨rfl,_,World.drewN_drewN _ _ _⟩ | exact ⟨rfl,_,Eq.trans (World.drewN_drewN _ _ _) (congrArg (World.drewN _) (Nat.add_assoc _ _ _))⟩)));try go_wp2_with (first | (go_at_call 62;(with_reducible refine (q3_Table.calls k1 _ _ l0_0 a0_1 true _ ?side1 ?side2 A12.out).mono ?_);(case side1 => repeat (first | exact (kC HR0_0.out HB.out) | (with_reducible refine Kd.C_alloc ?_ _) | (with_reducible refine Kd.C_drewN ?_ _) | (with_reducible refine Kd.C_drew ?_)));(case side2 => exact HC0_0.out);rintro e w20 ⟨rfl,hb⟩;replace BK470 := (kmv hb BK470);replace HB := am (below_step (by repeat (first | (with_reducible first | exact HB.out | refine below_set ?_ GE470.out | apply below_alloc | apply pw_below_drewN) | exact HB.out)) hb);(try clear hb);(try clear hb2);(try clear hk);(try clear hi);obtain ⟨hcz21_0,hcz21_1,hcz21_2,hcz21_3,hcz21_4⟩ := cO5 BK470.out) | (go_at_call 61;(with_reducible refine (q4_in.calls (l0_2.length : Int) 1 6 true _ A14.out).mono ?_);rintro e w' ⟨rfl,⟨nd,rfl⟩⟩;(try first | exact ⟨rfl,_,World.drewN_drewN _ _ _⟩ | exact ⟨rfl,_,Eq.trans (World.drewN_drewN _ _ _) (congrArg (World.drewN _) (Nat.add_assoc _ _ _))⟩)) | (go_at_call 21;(with_reducible refine (q4_Height.calls a0_3 true _ A16.out).mono ?_);rintro e w' ⟨rfl,⟨nd,rfl⟩⟩;(try first | exact ⟨rfl,_,World.drewN_drewN _ _ _⟩ | exact ⟨rfl,_,Eq.trans (World.drewN_drewN _ _ _) (congrArg (World.drewN _) (Nat.add_assoc _ _ _))⟩)) | (go_at_call 61;(with_reducible refine (q4_in.calls a0_4 0 100 t478 _ A18.out).mono ?_);rintro e w' ⟨rfl,⟨nd,rfl⟩⟩;(try first | exact ⟨rfl,_,World.drewN_drewN _ _ _⟩ | exact ⟨rfl,_,Eq.trans (World.drewN_drewN _ _ _) (congrArg (World.drewN _) (Nat.add_assoc _ _ _))⟩))))
     go_ret
     exact ⟨by first | rfl | (simp [*] <;> rfl),pw_below_drewN HB.out _⟩
def q4_Cups.f (a0 : Int) : Option (Bool) := (q4_in.f a0 0 10000).bind fun t479 => (some t479)
theorem q4_Cups.calls (a0 : Int) (r : Bool) (w : World) (h : q4_Cups.f a0 = some r) :
 Calls Tryz.prog 18 #[.int .i64 a0] w fun e w' => e = .returned (.bool r) ∧ Drawn0 w w' := by
 have H : ((q4_in.f a0 0 10000).bind fun t479 => (some t479)) = some r := h
 clear h
 replace H := obm H
 obtain ⟨t479,A20,H⟩ := H
 replace H : (some t479) = some r := H
 have A2 := am A20
 clear A20
 obtain rfl := Option.some.inj H
 go_enter Tryz.func18,Tryz.ntmps18
 go_wp2_with (first | ((with_reducible refine gate_callee (f := 61) rfl ?_);refine goesL_ (some 4) rfl rfl Tryz.func61 (by kernel_rfl) rfl #[.int .i64 a0,.int .i64 0,.int .i64 10000] rfl (by (try simp only [List.map_toArray,List.map_cons,List.map_nil]);first | done | rfl | (simp only [List.length_drop,List.length_take];rfl)) ?_;(with_reducible refine (q4_in.calls a0 0 10000 t479 _ A2.out).mono ?_);rintro e w' ⟨rfl,⟨nd,rfl⟩⟩;refine ⟨_,rfl,?_⟩))
 go_ret
 exact ⟨by first | rfl | (simp;done) | (simp [*];done),by repeat (first | exact Drawn0.refl _ | apply Drawn0.step)⟩
def q4_Claims.l0 : Nat → List Int → Int → List (S126) → Int → List (S64) → Int → Int → Option (Bool)
 | 0,_,_,_,_,_,_,_ => none
 | k + 1,x1,x5,x813000,x813001,x813002,x813003,x813004 => if x5 < (x1.length : Int) then (if 0 ≤ x5 then ((q4_Cups.f (rd x1 x5)).bind fun t814 => (if t814 = true then (q4_Claims.l0 k x1 (wrap64 (x5 + 1)) x813000 x813001 x813002 x813003 x813004) else (some false))) else (none)) else (some ((x1.length : Int) == (x813002.length : Int)))
def q4_Claims.f (k : Nat) (l0_0 : List (S126)) (a0_1 : Int) (l0_2 : List (S64)) (a0_3 : Int) (a0_4 : Int) (l1 : List Int) : Option (Bool) := q4_Claims.l0 k l1 0 l0_0 a0_1 l0_2 a0_3 a0_4
theorem q4_Claims.calls (k : Nat) (A0_0 : Option Addr) (c0_0 : Nat) (l0_0 : List (S126)) (a0_1 : Int) (A0_2 : Option Addr) (c0_2 : Nat) (l0_2 : List (S64)) (a0_3 : Int) (a0_4 : Int) (A1 : Option Addr) (c1 : Nat) (l1 : List Int) (r : Bool) (w : World) (hr0_0 : Kd.C k126 w A0_0 l0_0.length l0_0) (hc0_0 : l0_0.length ≤ c0_0) (hr0_2 : Kd.C k64 w A0_2 l0_2.length l0_2) (hc0_2 : l0_2.length ≤ c0_2) (hr1 : Kd.C (Kd.int .i64) w A1 l1.length l1) (hc1 : l1.length ≤ c1) (h : q4_Claims.f k l0_0 a0_1 l0_2 a0_3 a0_4 l1 = some r) :
 Calls Tryz.prog 37 #[.agg #[.slice A0_0 l0_0.length c0_0,.int .i64 a0_1,.slice A0_2 l0_2.length c0_2,.int .i64 a0_3,.int .i64 a0_4],.slice A1 l1.length c1] w fun e w' => e = .returned (.bool r) ∧ Below w.heap.size w w' := by
 have hu27 := Tryz.underlying27
 have HR0_0 := am hr0_0
 have HC0_0 := am hc0_0
 clear hr0_0 hc0_0
 have HR0_2 := am hr0_2
 have HC0_2 := am hc0_2
 clear hr0_2 hc0_2
 have HR1 := am hr1
 have HC1 := am hc1
 clear hr1 hc1
 have HB := am (Below.refl w.heap.size w)
 have H : (q4_Claims.l0 k l1 0 l0_0 a0_1 l0_2 a0_3 a0_4) = some r := h
 clear h
 replace H' := am H
 go_enter Tryz.func37,Tryz.ntmps37
 go_wp2_with (first | ((refine gate_dst (N := 2) rfl ?_);refine box_event rfl (N := 2) rfl (cs := #[.slice A0_0 l0_0.length c0_0,.int .i64 a0_1,.slice A0_2 l0_2.length c0_2,.int .i64 a0_3,.int .i64 a0_4]) (t := 27) ?hr ?_;(case hr => go_simp;try rfl);intro gb812 hg w3 hbox hb;have BK812 := am (hbox);have GW812 := am (ge_new (HB.out) hg);have GE812 := am (ge_new (HB.out) hg);replace HB := am (below_step (HB.out) hb);clear hb hbox hg))
 go_loopg [5] k (fun kq v5 w' => ∃ (x5_1 : Int),v5 = .int .i64 x5_1 ∧ Aside0 (q4_Claims.l0 kq l1 x5_1 l0_0 a0_1 l0_2 a0_3 a0_4 = some r) ∧ Aside0 (kq ≤ k) ∧ Aside0 (w'.heap[gb812]? = some (.cells #[(.slice A0_0 l0_0.length c0_0),.int .i64 a0_1,(.slice A0_2 l0_2.length c0_2),.int .i64 a0_3,.int .i64 a0_4] 27 (0,0))) ∧ Aside0 (Below w.heap.size w w'))
 case atStart => exact ⟨(0),(by first | rfl | (simp;done) | (simp [*];done)),H',⟨Nat.le_refl _⟩,⟨BK812.out⟩,⟨HB.out⟩⟩
 case round =>
  clear H'
  obtain ⟨x5_1,rfl,HA,HK1,BK812,HB⟩ := hrel
  cases gk with
  | zero => exact absurd HA.out (by simp [q4_Claims.l0])
  | succ k1 =>
   have H := HA.out
   clear HA
   simp only [q4_Claims.l0] at H
   by_cases c4 : x5_1 < (l1.length : Int)
   case neg =>
    rw [if_neg c4] at H
    have c4b0 : decide (x5_1 < (l1.length : Int)) = false := decide_eq_false c4
    clear c4
    obtain rfl := Option.some.inj H
    obtain ⟨hcz8_0,hcz8_1,hcz8_2,hcz8_3,hcz8_4⟩ := cO5 BK812.out
    go_wp2
    go_ret
    exact ⟨by first | rfl | (simp [*] <;> rfl),HB.out⟩
   rw [if_pos c4] at H
   have c4b0 : decide (x5_1 < (l1.length : Int)) = true := decide_eq_true c4
   clear c4
   by_cases c5 : 0 ≤ x5_1
   case neg =>
    rw [if_neg c5] at H
    exact absurd H (by simp)
   rw [if_pos c5] at H
   have c5b0 : decide (0 ≤ x5_1) = true := decide_eq_true c5
   clear c5
   replace H := obm H
   obtain ⟨t814,A60,H⟩ := H
   replace H : (if t814 = true then (q4_Claims.l0 k1 l1 (wrap64 (x5_1 + 1)) l0_0 a0_1 l0_2 a0_3 a0_4) else (some false)) = some r := H
   have A6 := am A60
   clear A60
   by_cases c7 : t814 = true
   · subst c7
     replace H : (q4_Claims.l0 k1 l1 (wrap64 (x5_1 + 1)) l0_0 a0_1 l0_2 a0_3 a0_4) = some r := by rw [if_pos rfl] at H;exact H
     replace H' := am H
     have p813 : 0 ≤ (x5_1 : Int) := of_decide_eq_true (by assumption)
     have q813 : x5_1 < (l1.length : Int) := of_decide_eq_true (by assumption)
     obtain ⟨ad813,e813,hx813_0⟩ := Kd.at_int HR1.out x5_1 p813 q813
     cases e813
     replace hx813_0 := (HB.out.cell (wbl hx813_0)).trans hx813_0
     replace p813 := eq_true p813
     replace q813 := eq_true q813
     go_wp2_with (first | ((with_reducible refine gate_callee (f := 18) rfl ?_);refine goesL_ (some 16) rfl rfl Tryz.func18 (by kernel_rfl) rfl #[.int .i64 (rd l1 x5_1)] rfl (by (try simp only [List.map_toArray,List.map_cons,List.map_nil]);first | done | rfl | (simp only [List.length_drop,List.length_take];rfl)) ?_;(refine (q4_Cups.calls (rd l1 x5_1) true _ A6.out).mono ?_);rintro e w' ⟨rfl,⟨nd,rfl⟩⟩;refine ⟨_,rfl,?_⟩))
     go_roundg k1
     case measure => have := HK1.out;omega
     case rel => exact ⟨(wrap64 (x5_1 + 1)),(by first | rfl | (simp;done) | (simp [*];done)),H',⟨by have := HK1.out;omega⟩,⟨BK812.out⟩,⟨pw_below_drewN HB.out _⟩⟩
   · replace c7 := Bool.eq_false_iff.mpr c7
     subst c7
     replace H : (some false) = some r := by rw [if_neg (show ¬ (false = true) by decide)] at H;exact H
     obtain rfl := Option.some.inj H
     have p813 : 0 ≤ (x5_1 : Int) := of_decide_eq_true (by assumption)
     have q813 : x5_1 < (l1.length : Int) := of_decide_eq_true (by assumption)
     obtain ⟨ad813,e813,hx813_0⟩ := Kd.at_int HR1.out x5_1 p813 q813
     cases e813
     replace hx813_0 := (HB.out.cell (wbl hx813_0)).trans hx813_0
     replace p813 := eq_true p813
     replace q813 := eq_true q813
     go_wp2_with (first | ((with_reducible refine gate_callee (f := 18) rfl ?_);refine goesL_ (some 16) rfl rfl Tryz.func18 (by kernel_rfl) rfl #[.int .i64 (rd l1 x5_1)] rfl (by (try simp only [List.map_toArray,List.map_cons,List.map_nil]);first | done | rfl | (simp only [List.length_drop,List.length_take];rfl)) ?_;(refine (q4_Cups.calls (rd l1 x5_1) false _ A6.out).mono ?_);rintro e w' ⟨rfl,⟨nd,rfl⟩⟩;refine ⟨_,rfl,?_⟩))
     go_ret
     exact ⟨by first | rfl | (simp [*] <;> rfl),pw_below_drewN HB.out _⟩
def q4_Out.l0 : Nat → Int → List Int → Int → List (S126) → Int → List (S64) → Int → Int → Option (List Int × Int)
 | 0,_,_,_,_,_,_,_,_ => none
 | k + 1,x1,x6,x7,x481000,x481001,x481002,x481003,x481004 => if x7 < (x481002.length : Int) then (if 0 ≤ x7 then (if 0 ≤ ((rd_T64 x481002 x7).f0) then (if ((rd_T64 x481002 x7).f0) < (x481000.length : Int) then (if x6.length < 17592186044416 then (q4_Out.l0 k x1 (x6 ++ [wrap64 (Int.tdiv (wrap64 (((rd_T126 x481000 ((rd_T64 x481002 x7).f0)).f2) * (mn 5 (mx 0 (wrap64 (x1 - ((rd_T64 x481002 x7).f1))))))) 5)]) (wrap64 (x7 + 1)) x481000 x481001 x481002 x481003 x481004) else (none)) else (none)) else (none)) else (none)) else (some (x6,wrap64 (x481004 * (mx 0 (wrap64 (x1 - x481003))))))
def q4_Out.f (k : Nat) (l0_0 : List (S126)) (a0_1 : Int) (l0_2 : List (S64)) (a0_3 : Int) (a0_4 : Int) (a1 : Int) : Option (List Int × Int) := q4_Out.l0 k a1 ([] : List Int) 0 l0_0 a0_1 l0_2 a0_3 a0_4
def q4_Out.T6 : Bool × List (List Nat × List Nat) := (true,[([],[]),([],[]),([1],[1]),([2],[2]),([],[]),([4],[4]),([3,5],[3,5]),([6],[6]),([7],[7]),([],[]),([],[]),([10],[10]),([9,11],[9,11]),([12],[12]),([13],[13]),([8,14],[8,14]),([15],[15]),([16],[16]),([0,17],[0,17]),([18,18,0,1,2,3,4,5,6,7,8,9,10,11,12,13,14,15,16,17,18],[0,18])])
def q4_Out.B6 : List Nat := [0,0,2,6,0,16,62,126,254,0,0,1024,3584,7680,15872,32766,65534,131070,262143,524287]
theorem q4_Out.tab6 : rtab .any (opsOf Tryz.f63 6) = q4_Out.T6 := by kernel_rfl
theorem q4_Out.bits6 : waitsOk q4_Out.T6.2 q4_Out.B6 = true := by kernel_rfl
def q4_Out.T7 : Bool × List (List Nat × List Nat) := (true,[([],[]),([],[]),([1],[1]),([],[]),([],[]),([4],[4]),([3,5],[3,5]),([6],[6]),([2,7],[2,7]),([0,0],[0]),([8,9,0,1,2,3,4,5,6,7,8,9],[8])])
def q4_Out.B7 : List Nat := [0,0,2,0,0,16,56,120,254,1,1023]
theorem q4_Out.tab7 : rtab .any (opsOf Tryz.f63 7) = q4_Out.T7 := by kernel_rfl
theorem q4_Out.bits7 : waitsOk q4_Out.T7.2 q4_Out.B7 = true := by kernel_rfl
theorem q4_Out.calls (k : Nat) (A0_0 : Option Addr) (c0_0 : Nat) (l0_0 : List (S126)) (a0_1 : Int) (A0_2 : Option Addr) (c0_2 : Nat) (l0_2 : List (S64)) (a0_3 : Int) (a0_4 : Int) (a1 : Int) (r1 : List Int) (r2 : Int) (w : World) (hr0_0 : Kd.C k126 w A0_0 l0_0.length l0_0) (hc0_0 : l0_0.length ≤ c0_0) (hr0_2 : Kd.C k64 w A0_2 l0_2.length l0_2) (hc0_2 : l0_2.length ≤ c0_2) (h : q4_Out.f k l0_0 a0_1 l0_2 a0_3 a0_4 a1 = some (r1,r2)) :
 Calls Tryz.prog 63 #[.agg #[.slice A0_0 l0_0.length c0_0,.int .i64 a0_1,.slice A0_2 l0_2.length c0_2,.int .i64 a0_3,.int .i64 a0_4],.int .i64 a1] w fun e w' => ∃ v0_ : Value,e = .returned (.tuple #[v0_,.int .i64 r2]) ∧ Kd.R (Kd.int .i64) 3 w' w.heap.size (fun _ => True) v0_ r1 ∧ Below w.heap.size w w' := by
 have hu27 := Tryz.underlying27
 have hu64 := Tryz.underlying64
 have HR0_0 := am hr0_0
 have HC0_0 := am hc0_0
 clear hr0_0 hc0_0
 have HR0_2 := am hr0_2
 have HC0_2 := am hc0_2
 clear hr0_2 hc0_2
 have HB := am (Below.refl w.heap.size w)
 have H : (q4_Out.l0 k a1 ([] : List Int) 0 l0_0 a0_1 l0_2 a0_3 a0_4) = some (r1,r2) := h
 clear h
 replace H' := am H
 go_enter Tryz.func63,Tryz.ntmps63
 go_wp2_with (first | ((refine gate_dst (N := 2) rfl ?_);refine box_event rfl (N := 2) rfl (cs := #[.slice A0_0 l0_0.length c0_0,.int .i64 a0_1,.slice A0_2 l0_2.length c0_2,.int .i64 a0_3,.int .i64 a0_4]) (t := 27) ?hr ?_;(case hr => go_simp;try rfl);intro gb480 hg w3 hbox hb;have BK480 := am (hbox);have GW480 := am (ge_new (HB.out) hg);have GE480 := am (ge_new (HB.out) hg);replace HB := am (below_step (HB.out) hb);clear hb hbox hg))
 go_loopg [6,7] k (fun kq v6 v7 w' => ∃ (x6_1 : List Int) (x7_1 : Int),v7 = .int .i64 x7_1 ∧ Aside0 (q4_Out.l0 kq a1 x6_1 x7_1 l0_0 a0_1 l0_2 a0_3 a0_4 = some (r1,r2)) ∧ Aside0 (kq ≤ k) ∧ Aside0 (Kd.R (Kd.int .i64) 3 w' w.heap.size (fun _ => True) v6 x6_1) ∧ Aside0 (w'.heap[gb480]? = some (.cells #[(.slice A0_0 l0_0.length c0_0),.int .i64 a0_1,(.slice A0_2 l0_2.length c0_2),.int .i64 a0_3,.int .i64 a0_4] 27 (0,0))) ∧ Aside0 (Below w.heap.size w w'))
 case atStart => exact ⟨(([] : List Int)),(0),(by first | rfl | (simp;done) | (simp [*];done)),H',⟨Nat.le_refl _⟩,⟨by first | exact Kd.R_nil _ _ _ _ _ | exact Kd.N_nil _ _ _ _ _ | exact Kd.V_nil _ _ _ _ _ | exact Kd.Q_nil _ _ _ _ _ | exact Kd.S_nil _ _ _ _ _⟩,⟨BK480.out⟩,⟨HB.out⟩⟩
 case round =>
  clear H'
  obtain ⟨x6_1,x7_1,rfl,HA,HK1,HO_6,BK480,HB⟩ := hrel
  cases gk with
  | zero => exact absurd HA.out (by simp [q4_Out.l0])
  | succ k1 =>
   have H := HA.out
   clear HA
   simp only [q4_Out.l0] at H
   by_cases c4 : x7_1 < (l0_2.length : Int)
   case neg =>
    rw [if_neg c4] at H
    have c4b0 : decide (x7_1 < (l0_2.length : Int)) = false := decide_eq_false c4
    clear c4
    obtain ⟨ji18,hji18⟩ : ∃ j_ : Int,(mx 0 (wrap64 (a1 - a0_3))) = j_ := ⟨_,rfl⟩
    replace H : (some (x6_1,wrap64 (a0_4 * (ji18)))) = some (r1,r2) := by first | (rw [hji18] at H;exact H) | (simp only [hji18] at H ⊢;exact H)
    (try (have hji18l : 0 ≤ ji18 := by (rw [← hji18];unfold mx;(repeat' split) <;> omega)))
    (try (have hji18m : 0 ≤ ji18 := by omega))
    have hji18_ : (if 0 < (wrap64 (a1 - a0_3)) then (wrap64 (a1 - a0_3)) else 0) = ji18 := hji18
    simp only [Option.some.injEq,Prod.mk.injEq] at H
    obtain ⟨rfl,rfl⟩ := H
    obtain ⟨hcz19_0,hcz19_1,hcz19_2,hcz19_3,hcz19_4⟩ := cO5 BK480.out
    try go_wp2
    replace HO_6 := am (Kd.R_drew HO_6.out)
    replace BK480 := am (blk_drew BK480.out)
    replace HB := am (below_drew1 HB.out)
    refine start_ (n := 11) (S := fun w' => w'.cell? ⟨gb480,0,none⟩ = some (.slice A0_0 l0_0.length c0_0) ∧ w'.cell? ⟨gb480,1,none⟩ = some (.int .i64 a0_1) ∧ w'.cell? ⟨gb480,2,none⟩ = some (.slice A0_2 l0_2.length c0_2) ∧ w'.cell? ⟨gb480,3,none⟩ = some (.int .i64 a0_3) ∧ w'.cell? ⟨gb480,4,none⟩ = some (.int .i64 a0_4)) (ds := []) (ba 11 0) (by kernel_rfl) rfl rfl ⟨(blk_cell BK480.out 0).trans rfl,(blk_cell BK480.out 1).trans rfl,(blk_cell BK480.out 2).trans rfl,(blk_cell BK480.out 3).trans rfl,(blk_cell BK480.out 4).trans rfl⟩ (fun hHeld => ?_);refine with_tabW q4_Out.tab7 q4_Out.bits7 (fun HT_ HW_ => ?_)
    generalize wr.drew = w20 at HO_6 BK480 HB hHeld ⊢
    refine pure_ (i := 0) (N := some 40) (v := ?_) (a' := ?_) (ba 11 1) rfl rfl (any_of HT_.out (by kernel_rfl)) (fun _ _ _ h => h) (Or.inl ⟨by rfl,?_⟩) ?_ ?_
    rotate_left
    · intro w'
      go_simp
      with_reducible rfl
    rotate_left
    · simp only [Act.put,NRM]
      rfl
    refine pure_ (i := 1) (N := some 41) (v := ?_) (a' := ?_) (ba 11 3) rfl rfl (any_of HT_.out (by kernel_rfl)) (fun _ _ _ h => h) (Or.inl ⟨by rfl,?_⟩) ?_ ?_
    rotate_left
    · intro w'
      go_simp
      with_reducible rfl
    rotate_left
    · simp only [Act.put,NRM]
      rfl
    refine pure_ (i := 3) (N := some 43) (v := ?_) (a' := ?_) (ba 11 11) rfl rfl (any_of HT_.out (by kernel_rfl)) (fun _ _ _ h => h) (Or.inl ⟨by rfl,?_⟩) ?_ ?_
    rotate_left
    · intro w'
      go_simp
      with_reducible rfl
    rotate_left
    · simp only [Act.put,NRM]
      rfl
    refine pure_ (i := 4) (N := some 44) (v := ?_) (a' := ?_) (ba 11 27) rfl rfl (any_of HT_.out (by kernel_rfl)) (fun _ _ _ h => h) (Or.inl ⟨by rfl,?_⟩) ?_ ?_
    rotate_left
    · intro w'
      go_simp
      with_reducible rfl
    rotate_left
    · simp only [Act.put,NRM]
      rfl
    refine pure_ (i := 9) (N := some 4) (v := ?_) (a' := ?_) (ba 11 539) rfl rfl (any_of HT_.out (by kernel_rfl)) (fun _ _ _ h => h) (Or.inl ⟨by rfl,?_⟩) ?_ ?_
    rotate_left
    · intro w'
      go_simp
      with_reducible rfl
    rotate_left
    · simp only [Act.put,NRM]
      rfl
    refine take_ (i := 2) (N := some 42) (v := ?_) (a' := ?_) (ba 11 543) rfl rfl (take_ofW HT_.out HW_.out (by kernel_rfl)) (fun _ _ _ h => h) (Or.inl ⟨by rfl,?_⟩) hHeld ?_ ?_
    rotate_left
    · rintro w' ⟨s0,s1,s2,s3,s4⟩
      go_simp
      with_reducible rfl
    rotate_left
    · simp only [Act.put,NRM]
      rfl
    refine take_ (i := 5) (N := some 45) (v := ?_) (a' := ?_) (ba 11 575) rfl rfl (take_ofW HT_.out HW_.out (by kernel_rfl)) (fun _ _ _ h => h) (Or.inl ⟨by rfl,?_⟩) hHeld ?_ ?_
    rotate_left
    · rintro w' ⟨s0,s1,s2,s3,s4⟩
      go_simp
      with_reducible rfl
    rotate_left
    · simp only [Act.put,NRM]
      rfl
    refine pure_ (i := 6) (N := some 46) (v := ?_) (a' := ?_) (ba 11 639) rfl rfl (any_of HT_.out (by kernel_rfl)) (fun _ _ _ h => h) (Or.inl ⟨by rfl,?_⟩) ?_ ?_
    rotate_left
    · intro w'
      go_simp
      with_reducible rfl
    rotate_left
    · simp only [Act.put,NRM]
      rfl
    refine pure_ (i := 7) (N := some 47) (v := ?_) (a' := ?_) (ba 11 767) rfl rfl (any_of HT_.out (by kernel_rfl)) (fun _ _ _ h => h) (Or.inl ⟨by rfl,?_⟩) ?_ ?_
    rotate_left
    · intro w'
      go_simp
      with_reducible rfl
    rotate_left
    · simp only [Act.put,NRM]
      rfl
    refine pure_ (i := 8) (N := some 48) (v := ?_) (a' := ?_) (ba 11 1023) rfl rfl (any_of HT_.out (by kernel_rfl)) (fun _ _ _ h => h) (Or.inl ⟨by rfl,?_⟩) ?_ ?_
    rotate_left
    · intro w'
      go_simp
      with_reducible rfl
    rotate_left
    · simp only [Act.put,NRM]
      rfl
    refine pure_ (i := 10) (N := some 5) (v := ?_) (a' := ?_) (ba 11 2047) rfl rfl (any_of HT_.out (by kernel_rfl)) (fun _ _ _ h => h) (Or.inl ⟨by rfl,?_⟩) ?_ ?_
    rotate_left
    · intro w'
      go_simp
      with_reducible rfl
    rotate_left
    · simp only [Act.put,NRM]
      rfl
    refine done_ (done_of HT_.out (by kernel_rfl)) ?_
    try go_wp2
    go_ret2
    exact ⟨_,by first | rfl | (simp [errW_none,errW_some] <;> rfl) | (simp only [← hji18];first | rfl | (simp [errW_none,errW_some] <;> rfl)) | (simp [*,errW_none,errW_some] <;> rfl),by (with_reducible repeat (first | apply Kd.R_alloc | apply Kd.R_drewN | apply Kd.R_drew));exact HO_6.out,HB.out⟩
   rw [if_pos c4] at H
   have c4b0 : decide (x7_1 < (l0_2.length : Int)) = true := decide_eq_true c4
   clear c4
   by_cases c5 : 0 ≤ x7_1
   case neg =>
    rw [if_neg c5] at H
    exact absurd H (by simp)
   rw [if_pos c5] at H
   have c5b0 : decide (0 ≤ x7_1) = true := decide_eq_true c5
   clear c5
   by_cases c6 : 0 ≤ ((rd_T64 l0_2 x7_1).f0)
   case neg =>
    rw [if_neg c6] at H
    exact absurd H (by simp)
   rw [if_pos c6] at H
   have c6b0 : decide (0 ≤ ((rd_T64 l0_2 x7_1).f0)) = true := decide_eq_true c6
   clear c6
   by_cases c7 : ((rd_T64 l0_2 x7_1).f0) < (l0_0.length : Int)
   case neg =>
    rw [if_neg c7] at H
    exact absurd H (by simp)
   rw [if_pos c7] at H
   have c7b0 : decide (((rd_T64 l0_2 x7_1).f0) < (l0_0.length : Int)) = true := decide_eq_true c7
   clear c7
   obtain ⟨ji8,hji8⟩ : ∃ j_ : Int,(mx 0 (wrap64 (a1 - ((rd_T64 l0_2 x7_1).f1)))) = j_ := ⟨_,rfl⟩
   replace H : (if x6_1.length < 17592186044416 then (q4_Out.l0 k1 a1 (x6_1 ++ [wrap64 (Int.tdiv (wrap64 (((rd_T126 l0_0 ((rd_T64 l0_2 x7_1).f0)).f2) * (mn 5 (ji8)))) 5)]) (wrap64 (x7_1 + 1)) l0_0 a0_1 l0_2 a0_3 a0_4) else (none)) = some (r1,r2) := by first | (rw [hji8] at H;exact H) | (simp only [hji8] at H ⊢;exact H)
   have hji8_ : (if 0 < (wrap64 (a1 - ((rd_T64 l0_2 x7_1).f1))) then (wrap64 (a1 - ((rd_T64 l0_2 x7_1).f1))) else 0) = ji8 := hji8
   obtain ⟨ji9,hji9⟩ : ∃ j_ : Int,(mn 5 (ji8)) = j_ := ⟨_,rfl⟩
   replace H : (if x6_1.length < 17592186044416 then (q4_Out.l0 k1 a1 (x6_1 ++ [wrap64 (Int.tdiv (wrap64 (((rd_T126 l0_0 ((rd_T64 l0_2 x7_1).f0)).f2) * (ji9))) 5)]) (wrap64 (x7_1 + 1)) l0_0 a0_1 l0_2 a0_3 a0_4) else (none)) = some (r1,r2) := by first | (rw [hji9] at H;exact H) | (simp only [hji9] at H ⊢;exact H)
   have hji9_ : (if (ji8) < 5 then (ji8) else 5) = ji9 := hji9
   by_cases c10 : x6_1.length < 17592186044416
   case neg =>
    rw [if_neg c10] at H
    exact absurd H (by simp)
   rw [if_pos c10] at H
   have LMc10 := am c10
   clear c10
   obtain ⟨y484,hy484⟩ : ∃ y_ : List Int,y_ = (x6_1 ++ [wrap64 (Int.tdiv (wrap64 (((rd_T126 l0_0 ((rd_T64 l0_2 x7_1).f0)).f2) * (ji9))) 5)]) := ⟨_,rfl⟩
   replace H : (q4_Out.l0 k1 a1 y484 (wrap64 (x7_1 + 1)) l0_0 a0_1 l0_2 a0_3 a0_4) = some (r1,r2) := by first | (rw [hy484];with_reducible exact H) | (have H2_ := (Option.bind_some _ _).symm.trans H;rw [hy484];with_reducible exact H2_) | (have H2_ := (Option.bind_some _ _).symm.trans H;with_reducible exact H2_) | with_reducible exact H | (rw [hy484];exact H) | exact H
   have Ny484 := am hy484
   clear hy484
   replace H' := am H
   obtain ⟨hcz11_0,hcz11_1,hcz11_2,hcz11_3,hcz11_4⟩ := cO5 BK480.out
   have p481 : 0 ≤ (x7_1 : Int) := of_decide_eq_true (by assumption)
   have q481 : x7_1 < (l0_2.length : Int) := of_decide_eq_true (by assumption)
   obtain ⟨ad481,e481,hx481_0,hx481_1⟩ := at_T64 HR0_2.out x7_1 p481 q481
   cases e481
   replace hx481_0 := (HB.out.cell (wbl hx481_0)).trans hx481_0
   replace hx481_1 := (HB.out.cell (wbl hx481_1)).trans hx481_1
   replace p481 := eq_true p481
   replace q481 := eq_true q481
   try go_wp2_with (first | ((refine gate_dst (N := 8) rfl ?_);refine box_event rfl (N := 8) rfl (cs := #[.int .i64 0,.int .i64 0]) (t := 64) ?hr ?_;(case hr => go_simp;try rfl);intro gb482 hg w12 hbox hb;have BK482 := am (hbox);have GW482 := am (ge_new (HB.out) hg);have GE482 := am (ge_new (HB.out) hg);have NB480_482 := am (ne_new BK480.out hg);have NB482_480 := am (ne_new2 BK480.out hg);replace HO_6 := am (Kd.R_below HO_6.out hb);replace BK480 := (kmv hb BK480);replace HB := am (below_step (HB.out) hb);clear hb hbox hg;have hnb13 := NB482_480.out;have hnc13 := NB480_482.out;obtain ⟨hcz14_0,hcz14_1⟩ := cO2 BK482.out;have hfz14_0 := blk_frozen BK482.out 0;have hfz14_1 := blk_frozen BK482.out 1))
   have n0_ : Aside0 (Kd.R (Kd.int .i64) 3 ((w12.setCell ⟨gb482,0,none⟩ (.int .i64 ((rd_T64 l0_2 x7_1).f0))).setCell ⟨gb482,1,none⟩ (.int .i64 ((rd_T64 l0_2 x7_1).f1))) w.heap.size (fun _ => True) u6 x6_1) := ⟨by (with_reducible repeat (first | apply Kd.R_alloc | apply Kd.R_drewN | apply Kd.R_drew));exact Kd.R_mono (Kd.R_far (p := ⟨gb482,1,none⟩) (Kd.R_far (p := ⟨gb482,0,none⟩) (Kd.R_types HO_6.out BK482.out (by decide)) (fun _ hk => hk.2) (.int .i64 ((rd_T64 l0_2 x7_1).f0))) (fun _ hk => hk.2) (.int .i64 ((rd_T64 l0_2 x7_1).f1))) (fun _ hk => trivial)⟩
   have n1_ : Aside0 (((w12.setCell ⟨gb482,0,none⟩ (.int .i64 ((rd_T64 l0_2 x7_1).f0))).setCell ⟨gb482,1,none⟩ (.int .i64 ((rd_T64 l0_2 x7_1).f1))).heap[gb480]? = some (.cells #[.slice A0_0 l0_0.length c0_0,.int .i64 a0_1,.slice (some ad481) l0_2.length c0_2,.int .i64 a0_3,.int .i64 a0_4] 27 (0,0))) := ⟨(blk_far (blk_far BK480.out NB480_482.out _) NB480_482.out _)⟩
   have n2_ : Aside0 (((w12.setCell ⟨gb482,0,none⟩ (.int .i64 ((rd_T64 l0_2 x7_1).f0))).setCell ⟨gb482,1,none⟩ (.int .i64 ((rd_T64 l0_2 x7_1).f1))).heap[gb482]? = some (.cells #[.int .i64 ((rd_T64 l0_2 x7_1).f0),.int .i64 ((rd_T64 l0_2 x7_1).f1)] 64 (0,0))) := ⟨(blk_put (cs := #[.int .i64 ((rd_T64 l0_2 x7_1).f0),.int .i64 0]) (blk_put (cs := #[.int .i64 0,.int .i64 0]) BK482.out 0 _ rfl) 1 _ rfl)⟩
   have n3_ : Aside0 (Below w.heap.size w ((w12.setCell ⟨gb482,0,none⟩ (.int .i64 ((rd_T64 l0_2 x7_1).f0))).setCell ⟨gb482,1,none⟩ (.int .i64 ((rd_T64 l0_2 x7_1).f1)))) := ⟨by repeat (first | (with_reducible first | exact HB.out | refine below_set ?_ (Aside0.out (by assumption)) | apply below_alloc | apply pw_below_drewN) | exact HB.out)⟩
   (try clear HO_6)
   (try clear BK480)
   (try clear BK482)
   (try clear HB)
   generalize ((w12.setCell ⟨gb482,0,none⟩ (.int .i64 ((rd_T64 l0_2 x7_1).f0))).setCell ⟨gb482,1,none⟩ (.int .i64 ((rd_T64 l0_2 x7_1).f1))) = w15 at n0_ n1_ n2_ n3_ ⊢
   have HO_6 := n0_
   have BK480 := n1_
   have BK482 := n2_
   have HB := n3_
   clear n0_ n1_ n2_ n3_
   replace HO_6 := am (Kd.R_drew HO_6.out)
   replace BK480 := am (blk_drew BK480.out)
   replace BK482 := am (blk_drew BK482.out)
   replace HB := am (below_drew1 HB.out)
   have p483 : 0 ≤ (((rd_T64 l0_2 x7_1).f0) : Int) := of_decide_eq_true (by assumption)
   have q483 : ((rd_T64 l0_2 x7_1).f0) < (l0_0.length : Int) := of_decide_eq_true (by assumption)
   obtain ⟨ad483,e483,hx483_0,hx483_1,hx483_2⟩ := at_T126 HR0_0.out ((rd_T64 l0_2 x7_1).f0) p483 q483
   have hw483_2 := hx483_2
   have hw483_1 := hx483_1
   have hw483_0 := hx483_0
   cases e483
   replace hx483_0 := (HB.out.cell (wbl hx483_0)).trans hx483_0
   replace hx483_1 := (HB.out.cell (wbl hx483_1)).trans hx483_1
   replace hx483_2 := (HB.out.cell (wbl hx483_2)).trans hx483_2
   replace p483 := eq_true p483
   replace q483 := eq_true q483
   refine start_ (n := 20) (S := fun w' => w'.cell? ⟨gb480,0,none⟩ = some (.slice (some ad483) l0_0.length c0_0) ∧ w'.cell? ⟨gb480,1,none⟩ = some (.int .i64 a0_1) ∧ w'.cell? ⟨gb480,2,none⟩ = some (.slice (some ad481) l0_2.length c0_2) ∧ w'.cell? ⟨gb480,3,none⟩ = some (.int .i64 a0_3) ∧ w'.cell? ⟨gb480,4,none⟩ = some (.int .i64 a0_4) ∧ w'.cell? ⟨gb482,0,none⟩ = some (.int .i64 ((rd_T64 l0_2 x7_1).f0)) ∧ w'.cell? ⟨gb482,1,none⟩ = some (.int .i64 ((rd_T64 l0_2 x7_1).f1)) ∧ w'.cell? (ad483.add ((((rd_T64 l0_2 x7_1).f0)).toNat * 3)) = some (.int .i64 ((rd_T126 l0_0 ((rd_T64 l0_2 x7_1).f0)).f0)) ∧ w'.cell? ⟨(ad483.add ((((rd_T64 l0_2 x7_1).f0)).toNat * 3)).block,(ad483.add ((((rd_T64 l0_2 x7_1).f0)).toNat * 3)).off + 1,none⟩ = some (.int .i64 ((rd_T126 l0_0 ((rd_T64 l0_2 x7_1).f0)).f1)) ∧ w'.cell? ⟨(ad483.add ((((rd_T64 l0_2 x7_1).f0)).toNat * 3)).block,(ad483.add ((((rd_T64 l0_2 x7_1).f0)).toNat * 3)).off + 2,none⟩ = some (.int .i64 ((rd_T126 l0_0 ((rd_T64 l0_2 x7_1).f0)).f2))) (ds := []) (ba 20 0) (by kernel_rfl) rfl rfl ⟨(blk_cell BK480.out 0).trans rfl,(blk_cell BK480.out 1).trans rfl,(blk_cell BK480.out 2).trans rfl,(blk_cell BK480.out 3).trans rfl,(blk_cell BK480.out 4).trans rfl,(blk_cell BK482.out 0).trans rfl,(blk_cell BK482.out 1).trans rfl,((HB.out.cell (wbl hw483_0)).trans hw483_0),((HB.out.cell (wbl hw483_1)).trans hw483_1),((HB.out.cell (wbl hw483_2)).trans hw483_2)⟩ (fun hHeld => ?_);refine with_tabW q4_Out.tab6 q4_Out.bits6 (fun HT_ HW_ => ?_)
   generalize w15.drew = w16 at HO_6 BK480 BK482 HB hx483_0 hx483_1 hx483_2 hHeld ⊢
   refine pure_ (i := 0) (N := some 21) (v := ?_) (a' := ?_) (ba 20 1) rfl rfl (any_of HT_.out (by kernel_rfl)) (fun _ _ _ h => h) (Or.inl ⟨by rfl,?_⟩) ?_ ?_
   rotate_left
   · intro w'
     go_simp
     with_reducible rfl
   rotate_left
   · simp only [Act.put,NRM]
     rfl
   refine pure_ (i := 1) (N := some 22) (v := ?_) (a' := ?_) (ba 20 3) rfl rfl (any_of HT_.out (by kernel_rfl)) (fun _ _ _ h => h) (Or.inl ⟨by rfl,?_⟩) ?_ ?_
   rotate_left
   · intro w'
     go_simp
     with_reducible rfl
   rotate_left
   · simp only [Act.put,NRM]
     rfl
   refine pure_ (i := 2) (N := some 23) (v := ?_) (a' := ?_) (ba 20 7) rfl rfl (any_of HT_.out (by kernel_rfl)) (fun _ _ _ h => h) (Or.inl ⟨by rfl,?_⟩) ?_ ?_
   rotate_left
   · intro w'
     go_simp
     with_reducible rfl
   rotate_left
   · simp only [Act.put,NRM]
     rfl
   refine pure_ (i := 4) (N := some 25) (v := ?_) (a' := ?_) (ba 20 23) rfl rfl (any_of HT_.out (by kernel_rfl)) (fun _ _ _ h => h) (Or.inl ⟨by rfl,?_⟩) ?_ ?_
   rotate_left
   · intro w'
     go_simp
     with_reducible rfl
   rotate_left
   · simp only [Act.put,NRM]
     rfl
   refine pure_ (i := 9) (N := some 30) (v := ?_) (a' := ?_) (ba 20 535) rfl rfl (any_of HT_.out (by kernel_rfl)) (fun _ _ _ h => h) (Or.inl ⟨by rfl,?_⟩) ?_ ?_
   rotate_left
   · intro w'
     go_simp
     with_reducible rfl
   rotate_left
   · simp only [Act.put,NRM]
     rfl
   refine pure_ (i := 10) (N := some 31) (v := ?_) (a' := ?_) (ba 20 1559) rfl rfl (any_of HT_.out (by kernel_rfl)) (fun _ _ _ h => h) (Or.inl ⟨by rfl,?_⟩) ?_ ?_
   rotate_left
   · intro w'
     go_simp
     with_reducible rfl
   rotate_left
   · simp only [Act.put,NRM]
     rfl
   refine take_ (i := 3) (N := some 24) (v := ?_) (a' := ?_) (ba 20 1567) rfl rfl (take_ofW HT_.out HW_.out (by kernel_rfl)) (fun _ _ _ h => h) (Or.inl ⟨by rfl,?_⟩) hHeld ?_ ?_
   rotate_left
   · rintro w' ⟨s0,s1,s2,s3,s4,s5,s6,s7,s8,s9⟩
     go_simp
     with_reducible rfl
   rotate_left
   · simp only [Act.put,NRM]
     rfl
   refine take_ (i := 5) (N := some 26) (v := ?_) (a' := ?_) (ba 20 1599) rfl rfl (take_ofW HT_.out HW_.out (by kernel_rfl)) (fun _ _ _ h => h) (Or.inl ⟨by rfl,?_⟩) hHeld ?_ ?_
   rotate_left
   · rintro w' ⟨s0,s1,s2,s3,s4,s5,s6,s7,s8,s9⟩
     go_simp
     with_reducible rfl
   rotate_left
   · simp only [Act.put,NRM]
     rfl
   refine pure_ (i := 6) (N := some 27) (v := ?_) (a' := ?_) (ba 20 1663) rfl rfl (any_of HT_.out (by kernel_rfl)) (fun _ _ _ h => h) (Or.inl ⟨by rfl,?_⟩) ?_ ?_
   rotate_left
   · intro w'
     go_simp
     with_reducible rfl
   rotate_left
   · simp only [Act.put,NRM]
     rfl
   refine pure_ (i := 7) (N := some 28) (v := ?_) (a' := ?_) (ba 20 1791) rfl rfl (any_of HT_.out (by kernel_rfl)) (fun _ _ _ h => h) (Or.inl ⟨by rfl,?_⟩) ?_ ?_
   rotate_left
   · intro w'
     go_simp
     with_reducible rfl
   rotate_left
   · simp only [Act.put,NRM]
     rfl
   refine take_ (i := 8) (N := some 29) (v := ?_) (a' := ?_) (ba 20 2047) rfl rfl (take_ofW HT_.out HW_.out (by kernel_rfl)) (fun _ _ _ h => h) (Or.inl ⟨by rfl,?_⟩) hHeld ?_ ?_
   rotate_left
   · rintro w' ⟨s0,s1,s2,s3,s4,s5,s6,s7,s8,s9⟩
     go_simp
     with_reducible rfl
   rotate_left
   · simp only [Act.put,NRM]
     rfl
   refine take_ (i := 11) (N := some 32) (v := ?_) (a' := ?_) (ba 20 4095) rfl rfl (take_ofW HT_.out HW_.out (by kernel_rfl)) (fun _ _ _ h => h) (Or.inl ⟨by rfl,?_⟩) hHeld ?_ ?_
   rotate_left
   · rintro w' ⟨s0,s1,s2,s3,s4,s5,s6,s7,s8,s9⟩
     go_simp
     with_reducible rfl
   rotate_left
   · simp only [Act.put,NRM]
     rfl
   refine pure_ (i := 12) (N := some 33) (v := ?_) (a' := ?_) (ba 20 8191) rfl rfl (any_of HT_.out (by kernel_rfl)) (fun _ _ _ h => h) (Or.inl ⟨by rfl,?_⟩) ?_ ?_
   rotate_left
   · intro w'
     go_simp
     with_reducible rfl
   rotate_left
   · simp only [Act.put,NRM]
     rfl
   refine pure_ (i := 13) (N := some 34) (v := ?_) (a' := ?_) (ba 20 16383) rfl rfl (any_of HT_.out (by kernel_rfl)) (fun _ _ _ h => h) (Or.inl ⟨by rfl,?_⟩) ?_ ?_
   rotate_left
   · intro w'
     go_simp
     with_reducible rfl
   rotate_left
   · simp only [Act.put,NRM]
     rfl
   refine pure_ (i := 14) (N := some 35) (v := ?_) (a' := ?_) (ba 20 32767) rfl rfl (any_of HT_.out (by kernel_rfl)) (fun _ _ _ h => h) (Or.inl ⟨by rfl,?_⟩) ?_ ?_
   rotate_left
   · intro w'
     go_simp
     with_reducible rfl
   rotate_left
   · simp only [Act.put,NRM]
     rfl
   refine pure_ (i := 15) (N := some 36) (v := ?_) (a' := ?_) (ba 20 65535) rfl rfl (any_of HT_.out (by kernel_rfl)) (fun _ _ _ h => h) (Or.inl ⟨by rfl,?_⟩) ?_ ?_
   rotate_left
   · intro w'
     go_simp
     with_reducible rfl
   rotate_left
   · simp only [Act.put,NRM]
     rfl
   refine pure_ (i := 16) (N := some 37) (v := ?_) (a' := ?_) (ba 20 131071) rfl rfl (any_of HT_.out (by kernel_rfl)) (fun _ _ _ h => h) (Or.inl ⟨by rfl,?_⟩) ?_ ?_
   rotate_left
   · intro w'
     go_simp
     with_reducible rfl
   rotate_left
   · simp only [Act.put,NRM]
     rfl
   refine one_ (i := 17) (N := some 38) (ba 20 262143) rfl rfl (one_of HT_.out (by kernel_rfl)) (by decide) (fun K hK => ?_)
   refine value_ (w1 := ?_) (v := ?_) (by rfl) rfl ?_ ?_
   rotate_left 2
   · go_simp
     constructor
     · rfl
     · rfl
   refine hK.out _ _ ⟨(blk_cell (blk_alloc BK480.out _) 0).trans rfl,(blk_cell (blk_alloc BK480.out _) 1).trans rfl,(blk_cell (blk_alloc BK480.out _) 2).trans rfl,(blk_cell (blk_alloc BK480.out _) 3).trans rfl,(blk_cell (blk_alloc BK480.out _) 4).trans rfl,(blk_cell (blk_alloc BK482.out _) 0).trans rfl,(blk_cell (blk_alloc BK482.out _) 1).trans rfl,(World.cell?_alloc_lt _ _ _ (World.block_lt_of_cell? _ _ (((HB.out.cell (wbl hw483_0)).trans hw483_0)))).trans (((HB.out.cell (wbl hw483_0)).trans hw483_0)),(World.cell?_alloc_lt _ _ _ (World.block_lt_of_cell? _ _ (((HB.out.cell (wbl hw483_1)).trans hw483_1)))).trans (((HB.out.cell (wbl hw483_1)).trans hw483_1)),(World.cell?_alloc_lt _ _ _ (World.block_lt_of_cell? _ _ (((HB.out.cell (wbl hw483_2)).trans hw483_2)))).trans (((HB.out.cell (wbl hw483_2)).trans hw483_2))⟩ (fun hHeld => ?_)
   clear hK K
   refine norm_ (a' := ?_) ?_ ?_
   rotate_left
   · show Act.put _ (some 38) _ = _
     simp only [Act.put,NRM]
     rfl
   refine one_ (i := 18) (N := some 39) (ba 20 524287) rfl rfl (one_of HT_.out (by kernel_rfl)) (by decide) (fun K hK => ?_)
   refine Kd.R_append_step (Kd.int .i64) (w0 := w) w.heap.size (by rfl) (.tmp 21) (.tmp 38) 30 3 (.int .i64 0) 8 rfl Tryz.underlying30 info3 rfl (by decide) (by omega) u6 x6_1 (wrap64 (Int.tdiv (wrap64 (((rd_T126 l0_0 ((rd_T64 l0_2 x7_1).f0)).f2) * (ji9))) 5)) [.int .i64 (wrap64 (Int.tdiv (wrap64 (((rd_T126 l0_0 ((rd_T64 l0_2 x7_1).f0)).f2) * (ji9))) 5))] (fun _ => True) (fun _ => False) rfl rfl ?aP (fun _ hk => hk.elim) ?aF ?aO ?aB ?aS ?aL ?_
   (case aP => exact rfl)
   (case aB => exact (HB.out))
   (case aF => exact (fun _ _ => trivial))
   (case aO => exact HO_6.out)
   (case aS => exact (below_size (HB.out)))
   (case aL => have := LMc10.out;omega)
   intro v485 w17 ho hb hg hat
   rw [← Ny484.out] at ho
   have n0_ := am (blk_grown (g := gb480) (o := .cells #[.slice (some ad483) l0_0.length c0_0,.int .i64 a0_1,.slice (some ad481) l0_2.length c0_2,.int .i64 a0_3,.int .i64 a0_4] 27 (0,0)) BK480.out hg (Kd.R_ne HO_6.out BK480.out (by decide)))
   have n1_ := am (blk_grown (g := gb482) (o := .cells #[.int .i64 ((rd_T64 l0_2 x7_1).f0),.int .i64 ((rd_T64 l0_2 x7_1).f1)] 64 (0,0)) BK482.out hg (Kd.R_ne HO_6.out BK482.out (by decide)))
   have n2_ := am (hb)
   have n3_ := am (ho)
   clear BK480
   clear BK482
   clear HB
   clear HO_6
   have BK480 := n0_
   have BK482 := n1_
   have HB := n2_
   have HO486 := n3_
   clear n0_ n1_ n2_ n3_
   clear ho hb hg hat
   refine hK.out _ _ ⟨(blk_cell BK480.out 0).trans rfl,(blk_cell BK480.out 1).trans rfl,(blk_cell BK480.out 2).trans rfl,(blk_cell BK480.out 3).trans rfl,(blk_cell BK480.out 4).trans rfl,(blk_cell BK482.out 0).trans rfl,(blk_cell BK482.out 1).trans rfl,((HB.out.cell (wbl hw483_0)).trans hw483_0),((HB.out.cell (wbl hw483_1)).trans hw483_1),((HB.out.cell (wbl hw483_2)).trans hw483_2)⟩ (fun hHeld => ?_)
   clear hK K
   refine norm_ (a' := ?_) ?_ ?_
   rotate_left
   · show Act.put _ (some 39) _ = _
     simp only [Act.put,NRM]
     rfl
   refine pure_ (i := 19) (N := some 6) (v := ?_) (a' := ?_) (ba 20 1048575) rfl rfl (any_of HT_.out (by kernel_rfl)) (fun _ _ _ h => h) (Or.inl ⟨by rfl,?_⟩) ?_ ?_
   rotate_left
   · intro w'
     go_simp
     with_reducible rfl
   rotate_left
   · simp only [Act.put,NRM]
     rfl
   refine done_ (done_of HT_.out (by kernel_rfl)) ?_
   try go_wp2
   go_roundg k1
   case measure => have := HK1.out;omega
   case rel => exact ⟨(y484),(wrap64 (x7_1 + 1)),(by first | rfl | (simp;done) | (simp [*];done)),H',⟨by have := HK1.out;omega⟩,⟨by (with_reducible repeat (first | apply Kd.R_alloc | apply Kd.R_drewN | apply Kd.R_drew));exact HO486.out⟩,⟨BK480.out⟩,⟨HB.out⟩⟩
end
end Go.Proofs.YticlelgmmonloaaGreatDoor.C

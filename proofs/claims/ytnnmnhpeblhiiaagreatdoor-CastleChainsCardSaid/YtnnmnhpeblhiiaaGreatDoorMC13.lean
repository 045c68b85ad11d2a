/- A part of the proof: the walks of the functions that it reaches. TIGHT. -/
import Derived.Test.YtnnmnhpeblhiiaaGreatDoorMC12
set_option linter.unusedVariables false
set_option linter.unusedSimpArgs false
namespace Go.Proofs.YtnnmnhpeblhiiaaGreatDoor.C
open Go.RowKit Go.Proofs.YtnnmnhpeblhiiaaGreatDoorW.PrintWords Go.Proofs.YtnnmnhpeblhiiaaGreatDoorW.PrintLast Go.Proofs.YtnnmnhpeblhiiaaGreatDoorW.PrintMore
set_option linter.unusedVariables false
set_option linter.unusedSimpArgs false
set_option maxHeartbeats 16000000
set_option maxRecDepth 100000
section
attribute [local go_sem] max2_int min2_int max_two min_two
attribute [local go_sem high] eqA66
mutual
def q4_Chain.l0 : Nat → Int → List (S27) → List (S66) → Option (Bool)
 | 0,_,_,_ => none
 | k + 1,x3,x664000,x664001 => if x3 < (x664000.length : Int) then (if 0 ≤ x3 then ((q4_Basin.f k ((rd_T27 x664000 x3).f0.f0) ((rd_T27 x664000 x3).f0.f1) ((rd_T27 x664000 x3).f1) ((rd_T27 x664000 x3).f2) ((rd_T27 x664000 x3).f3)).bind fun t665 => (if t665 = true then (q4_Chain.l0 k (wrap64 (x3 + 1)) x664000 x664001) else (some false))) else (none)) else ((q4_in.f (x664000.length : Int) 1 4).bind fun t666 => (if t666 = true then (q4_Chain.j1 k ((x664001.length : Int) != (wrap64 ((x664000.length : Int) - 1))) x664000 x664001) else (q4_Chain.j1 k true x664000 x664001)))
def q4_Chain.j1 : Nat → Bool → List (S27) → List (S66) → Option (Bool)
 | 0,_,_,_ => none
 | k + 1,x35,x664000,x664001 => if x35 = true then (some false) else (q4_Chain.l1 k 0 x664000 x664001)
def q4_Chain.l1 : Nat → Int → List (S27) → List (S66) → Option (Bool)
 | 0,_,_,_ => none
 | k + 1,x4,x664000,x664001 => if x4 < (x664001.length : Int) then (if 0 ≤ x4 then ((q4_in.f ((rd_T66 x664001 x4).f0) 0 x4).bind fun t669 => (if t669 = true then (if 0 ≤ ((rd_T66 x664001 x4).f0) then (if ((rd_T66 x664001 x4).f0) < (x664000.length : Int) then ((q4_in.f ((rd_T66 x664001 x4).f1) (-1) (wrap64 ((((rd_T27 x664000 ((rd_T66 x664001 x4).f0)).f1).length : Int) - 1))).bind fun t671 => (q4_Chain.j3 k x4 (!t671) x664000 x664001 ((rd_T66 x664001 x4).f0) ((rd_T66 x664001 x4).f1))) else (none)) else (none)) else (q4_Chain.j3 k x4 true x664000 x664001 ((rd_T66 x664001 x4).f0) ((rd_T66 x664001 x4).f1)))) else (none)) else (some true)
def q4_Chain.j3 : Nat → Int → Bool → List (S27) → List (S66) → Int → Int → Option (Bool)
 | 0,_,_,_,_,_,_ => none
 | k + 1,x4,x67,x664000,x664001,x669000,x669001 => if x67 = true then (some false) else (q4_Chain.l2 k x4 0 x664000 x664001 x669000 x669001)
def q4_Chain.l2 : Nat → Int → Int → List (S27) → List (S66) → Int → Int → Option (Bool)
 | 0,_,_,_,_,_,_ => none
 | k + 1,x4,x6,x664000,x664001,x669000,x669001 => if x6 < x4 then (if 0 ≤ x6 then (if x6 < (x664001.length : Int) then (if (((rd_T66 x664001 x6).f0) == x669000 && (((rd_T66 x664001 x6).f1) == x669001)) = true then (some false) else (q4_Chain.l2 k x4 (wrap64 (x6 + 1)) x664000 x664001 x669000 x669001)) else (none)) else (none)) else (q4_Chain.l1 k (wrap64 (x4 + 1)) x664000 x664001)
end
def q4_Chain.f (k : Nat) (l0_0 : List (S27)) (l0_1 : List (S66)) : Option (Bool) := q4_Chain.l0 k 0 l0_0 l0_1
theorem in_wr {a b c : Int} {r : Bool} (h : q4_in.f a b (wrap64 c) = some r) : q4_in.f a b (IntKind.i64.wrap c) = some r := by rw [i64_w];exact h
theorem q4_Chain.calls (k : Nat) (A0_0 : Option Addr) (c0_0 : Nat) (l0_0 : List (S27)) (A0_1 : Option Addr) (c0_1 : Nat) (l0_1 : List (S66)) (r : Bool) (w : World) (hr0_0 : Kd.C k27 w A0_0 l0_0.length l0_0) (hc0_0 : l0_0.length ≤ c0_0) (hr0_1 : Kd.C k66 w A0_1 l0_1.length l0_1) (hc0_1 : l0_1.length ≤ c0_1) (h : q4_Chain.f k l0_0 l0_1 = some r) :
 Calls Tryz.prog 31 #[.agg #[.slice A0_0 l0_0.length c0_0,.slice A0_1 l0_1.length c0_1]] w fun e w' => e = .returned (.bool r) ∧ Below w.heap.size w w' := by
 have hu59 := Tryz.underlying59
 have hu27 := Tryz.underlying27
 have hu66 := Tryz.underlying66
 have HR0_0 := am hr0_0
 have HC0_0 := am hc0_0
 clear hr0_0 hc0_0
 have HR0_1 := am hr0_1
 have HC0_1 := am hc0_1
 clear hr0_1 hc0_1
 have HB := am (Below.refl w.heap.size w)
 have H : (q4_Chain.l0 k 0 l0_0 l0_1) = some r := h
 clear h
 replace H' := am H
 go_enter Tryz.func31,Tryz.ntmps31
 go_wp2_with (first | ((refine gate_dst (N := 1) rfl ?_);(try (refine gate_guard (by rfl) ?_;dsimp only));refine box_event rfl (N := 1) rfl (cs := #[.slice A0_0 l0_0.length c0_0,.slice A0_1 l0_1.length c0_1]) (t := 59) ?hr ?_;(case hr => go_simp;try rfl);intro gb663 hg w2 hbox hb;have BK663 := am (hbox);have GW663 := am (ge_new (HB.out) hg);have GE663 := am (ge_new (HB.out) hg);replace HB := am (below_step (HB.out) hb);clear hb hbox hg))
 repeat (go_quiet (first | ((refine gate_dst (N := 1) rfl ?_);(try (refine gate_guard (by rfl) ?_;dsimp only));refine box_event rfl (N := 1) rfl (cs := #[.slice A0_0 l0_0.length c0_0,.slice A0_1 l0_1.length c0_1]) (t := 59) ?hr ?_;(case hr => go_simp;try rfl);intro gb663 hg w2 hbox hb;have BK663 := am (hbox);have GW663 := am (ge_new (by repeat (first | (with_reducible first | exact HB.out | apply below_alloc | apply pw_below_drewN) | exact HB.out)) hg);have GE663 := am (ge_new (by repeat (first | (with_reducible first | exact HB.out | apply below_alloc | apply pw_below_drewN) | exact HB.out)) hg);replace HB := am (below_step (by repeat (first | (with_reducible first | exact HB.out | apply below_alloc | apply pw_below_drewN) | exact HB.out)) hb);clear hb hbox hg));try go_wp2_with (first | ((refine gate_dst (N := 1) rfl ?_);(try (refine gate_guard (by rfl) ?_;dsimp only));refine box_event rfl (N := 1) rfl (cs := #[.slice A0_0 l0_0.length c0_0,.slice A0_1 l0_1.length c0_1]) (t := 59) ?hr ?_;(case hr => go_simp;try rfl);intro gb663 hg w2 hbox hb;have BK663 := am (hbox);have GW663 := am (ge_new (by repeat (first | (with_reducible first | exact HB.out | apply below_alloc | apply pw_below_drewN) | exact HB.out)) hg);have GE663 := am (ge_new (by repeat (first | (with_reducible first | exact HB.out | apply below_alloc | apply pw_below_drewN) | exact HB.out)) hg);replace HB := am (below_step (by repeat (first | (with_reducible first | exact HB.out | apply below_alloc | apply pw_below_drewN) | exact HB.out)) hb);clear hb hbox hg)))
 go_loopg [3] k (fun kq v3 w' => ∃ (x3_1 : Int),v3 = .int .i64 x3_1 ∧ Aside0 (q4_Chain.l0 kq x3_1 l0_0 l0_1 = some r) ∧ Aside0 (kq ≤ k) ∧ Aside0 (w'.heap[gb663]? = some (.cells #[(.slice A0_0 l0_0.length c0_0),(.slice A0_1 l0_1.length c0_1)] 59 (0,0))) ∧ Aside0 (Below w.heap.size w w'))
 case atStart => exact ⟨(0),(by first | rfl | (simp;done) | (simp [*];done)),H',⟨Nat.le_refl _⟩,⟨BK663.out⟩,⟨HB.out⟩⟩
 case round =>
  clear H'
  obtain ⟨x3_1,rfl,HA,HK1,BK663,HB⟩ := hrel
  cases gk with
  | zero => exact absurd HA.out (by simp [q4_Chain.l0])
  | succ k1 =>
   have H := HA.out
   clear HA
   simp only [q4_Chain.l0] at H
   by_cases c3 : x3_1 < (l0_0.length : Int)
   · rw [if_pos c3] at H
     have c3b0 : decide (x3_1 < (l0_0.length : Int)) = true := decide_eq_true c3
     clear c3
     by_cases c4 : 0 ≤ x3_1
     case neg =>
      rw [if_neg c4] at H
      exact absurd H (by simp)
     rw [if_pos c4] at H
     have c4b0 : decide (0 ≤ x3_1) = true := decide_eq_true c4
     clear c4
     replace H := obm H
     obtain ⟨t665,A50,H⟩ := H
     replace H : (if t665 = true then (q4_Chain.l0 k1 (wrap64 (x3_1 + 1)) l0_0 l0_1) else (some false)) = some r := H
     have A5 := am A50
     clear A50
     by_cases c6 : t665 = true
     · subst c6
       replace H : (q4_Chain.l0 k1 (wrap64 (x3_1 + 1)) l0_0 l0_1) = some r := by rw [if_pos rfl] at H;exact H
       replace H' := am H
       obtain ⟨hcz7_0,hcz7_1⟩ := cO2 BK663.out
       have p664 : 0 ≤ (x3_1 : Int) := of_decide_eq_true (by assumption)
       have q664 : x3_1 < (l0_0.length : Int) := of_decide_eq_true (by assumption)
       obtain ⟨ad664,A664_0,c664_0,A664_2,c664_2,e664,hx664_0,hx664_1,hx664_2,hx664_3,hx664_4,hl664_0,hi664_0,hl664_2,hi664_2⟩ := at_T27 HR0_0.out x3_1 p664 q664
       cases e664
       replace hx664_0 := (HB.out.cell (wbl hx664_0)).trans hx664_0
       replace hx664_1 := (HB.out.cell (wbl hx664_1)).trans hx664_1
       replace hx664_2 := (HB.out.cell (wbl hx664_2)).trans hx664_2
       replace hx664_3 := (HB.out.cell (wbl hx664_3)).trans hx664_3
       replace hx664_4 := (HB.out.cell (wbl hx664_4)).trans hx664_4
       have HR664_0 := am hi664_0
       have HC664_0 := am hl664_0
       clear hi664_0 hl664_0
       have HR664_2 := am hi664_2
       have HC664_2 := am hl664_2
       clear hi664_2 hl664_2
       replace p664 := eq_true p664
       replace q664 := eq_true q664
       go_wp2_with (first | (go_at_call 15;(with_reducible refine (q4_Basin.calls k1 _ _ ((rd_T27 l0_0 x3_1).f0.f0) ((rd_T27 l0_0 x3_1).f0.f1) _ _ ((rd_T27 l0_0 x3_1).f1) ((rd_T27 l0_0 x3_1).f2) ((rd_T27 l0_0 x3_1).f3) true _ ?side1 ?side2 ?side3 ?side4 A5.out).mono ?_);(case side1 => exact kC HR664_0.out HB.out);(case side2 => exact HC664_0.out);(case side3 => exact kC HR664_2.out HB.out);(case side4 => exact HC664_2.out);rintro e w8 ⟨rfl,hb⟩;replace BK663 := (kmv hb BK663);replace HB := am (below_step (HB.out) hb);(try clear hb);(try clear hb2);(try clear hk);(try clear hi)))
       repeat (go_quiet (first | (go_at_call 15;(with_reducible refine (q4_Basin.calls k1 _ _ ((rd_T27 l0_0 x3_1).f0.f0) ((rd_T27 l0_0 x3_1).f0.f1) _ _ ((rd_T27 l0_0 x3_1).f1) ((rd_T27 l0_0 x3_1).f2) ((rd_T27 l0_0 x3_1).f3) true _ ?side1 ?side2 ?side3 ?side4 A5.out).mono ?_);(case side1 => repeat (first | exact (kC HR664_0.out HB.out) | (with_reducible refine Kd.C_alloc ?_ _) | (with_reducible refine Kd.C_drewN ?_ _) | (with_reducible refine Kd.C_drew ?_)));(case side2 => exact HC664_0.out);(case side3 => repeat (first | exact (kC HR664_2.out HB.out) | (with_reducible refine Kd.C_alloc ?_ _) | (with_reducible refine Kd.C_drewN ?_ _) | (with_reducible refine Kd.C_drew ?_)));(case side4 => exact HC664_2.out);rintro e w8 ⟨rfl,hb⟩;replace BK663 := (kmv hb BK663);replace HB := am (below_step (by repeat (first | (with_reducible first | exact HB.out | refine below_set ?_ GE663.out | apply below_alloc | apply pw_below_drewN) | exact HB.out)) hb);(try clear hb);(try clear hb2);(try clear hk);(try clear hi)));try go_wp2_with (first | (go_at_call 15;(with_reducible refine (q4_Basin.calls k1 _ _ ((rd_T27 l0_0 x3_1).f0.f0) ((rd_T27 l0_0 x3_1).f0.f1) _ _ ((rd_T27 l0_0 x3_1).f1) ((rd_T27 l0_0 x3_1).f2) ((rd_T27 l0_0 x3_1).f3) true _ ?side1 ?side2 ?side3 ?side4 A5.out).mono ?_);(case side1 => repeat (first | exact (kC HR664_0.out HB.out) | (with_reducible refine Kd.C_alloc ?_ _) | (with_reducible refine Kd.C_drewN ?_ _) | (with_reducible refine Kd.C_drew ?_)));(case side2 => exact HC664_0.out);(case side3 => repeat (first | exact (kC HR664_2.out HB.out) | (with_reducible refine Kd.C_alloc ?_ _) | (with_reducible refine Kd.C_drewN ?_ _) | (with_reducible refine Kd.C_drew ?_)));(case side4 => exact HC664_2.out);rintro e w8 ⟨rfl,hb⟩;replace BK663 := (kmv hb BK663);replace HB := am (below_step (by repeat (first | (with_reducible first | exact HB.out | refine below_set ?_ GE663.out | apply below_alloc | apply pw_below_drewN) | exact HB.out)) hb);(try clear hb);(try clear hb2);(try clear hk);(try clear hi))))
       go_roundg k1
       case measure => have := HK1.out;omega
       case rel => exact ⟨(wrap64 (x3_1 + 1)),(by first | rfl | (simp;done) | (simp [*];done)),H',⟨by have := HK1.out;omega⟩,⟨BK663.out⟩,⟨HB.out⟩⟩
     · replace c6 := Bool.eq_false_iff.mpr c6
       subst c6
       replace H : (some false) = some r := by rw [if_neg (show ¬ (false = true) by decide)] at H;exact H
       obtain rfl := Option.some.inj H
       obtain ⟨hcz9_0,hcz9_1⟩ := cO2 BK663.out
       have p664 : 0 ≤ (x3_1 : Int) := of_decide_eq_true (by assumption)
       have q664 : x3_1 < (l0_0.length : Int) := of_decide_eq_true (by assumption)
       obtain ⟨ad664,A664_0,c664_0,A664_2,c664_2,e664,hx664_0,hx664_1,hx664_2,hx664_3,hx664_4,hl664_0,hi664_0,hl664_2,hi664_2⟩ := at_T27 HR0_0.out x3_1 p664 q664
       cases e664
       replace hx664_0 := (HB.out.cell (wbl hx664_0)).trans hx664_0
       replace hx664_1 := (HB.out.cell (wbl hx664_1)).trans hx664_1
       replace hx664_2 := (HB.out.cell (wbl hx664_2)).trans hx664_2
       replace hx664_3 := (HB.out.cell (wbl hx664_3)).trans hx664_3
       replace hx664_4 := (HB.out.cell (wbl hx664_4)).trans hx664_4
       have HR664_0 := am hi664_0
       have HC664_0 := am hl664_0
       clear hi664_0 hl664_0
       have HR664_2 := am hi664_2
       have HC664_2 := am hl664_2
       clear hi664_2 hl664_2
       replace p664 := eq_true p664
       replace q664 := eq_true q664
       go_wp2_with (first | (go_at_call 15;(with_reducible refine (q4_Basin.calls k1 _ _ ((rd_T27 l0_0 x3_1).f0.f0) ((rd_T27 l0_0 x3_1).f0.f1) _ _ ((rd_T27 l0_0 x3_1).f1) ((rd_T27 l0_0 x3_1).f2) ((rd_T27 l0_0 x3_1).f3) false _ ?side1 ?side2 ?side3 ?side4 A5.out).mono ?_);(case side1 => exact kC HR664_0.out HB.out);(case side2 => exact HC664_0.out);(case side3 => exact kC HR664_2.out HB.out);(case side4 => exact HC664_2.out);rintro e w10 ⟨rfl,hb⟩;replace BK663 := (kmv hb BK663);replace HB := am (below_step (HB.out) hb);(try clear hb);(try clear hb2);(try clear hk);(try clear hi)))
       repeat (go_quiet (first | (go_at_call 15;(with_reducible refine (q4_Basin.calls k1 _ _ ((rd_T27 l0_0 x3_1).f0.f0) ((rd_T27 l0_0 x3_1).f0.f1) _ _ ((rd_T27 l0_0 x3_1).f1) ((rd_T27 l0_0 x3_1).f2) ((rd_T27 l0_0 x3_1).f3) false _ ?side1 ?side2 ?side3 ?side4 A5.out).mono ?_);(case side1 => repeat (first | exact (kC HR664_0.out HB.out) | (with_reducible refine Kd.C_alloc ?_ _) | (with_reducible refine Kd.C_drewN ?_ _) | (with_reducible refine Kd.C_drew ?_)));(case side2 => exact HC664_0.out);(case side3 => repeat (first | exact (kC HR664_2.out HB.out) | (with_reducible refine Kd.C_alloc ?_ _) | (with_reducible refine Kd.C_drewN ?_ _) | (with_reducible refine Kd.C_drew ?_)));(case side4 => exact HC664_2.out);rintro e w10 ⟨rfl,hb⟩;replace BK663 := (kmv hb BK663);replace HB := am (below_step (by repeat (first | (with_reducible first | exact HB.out | refine below_set ?_ GE663.out | apply below_alloc | apply pw_below_drewN) | exact HB.out)) hb);(try clear hb);(try clear hb2);(try clear hk);(try clear hi)));try go_wp2_with (first | (go_at_call 15;(with_reducible refine (q4_Basin.calls k1 _ _ ((rd_T27 l0_0 x3_1).f0.f0) ((rd_T27 l0_0 x3_1).f0.f1) _ _ ((rd_T27 l0_0 x3_1).f1) ((rd_T27 l0_0 x3_1).f2) ((rd_T27 l0_0 x3_1).f3) false _ ?side1 ?side2 ?side3 ?side4 A5.out).mono ?_);(case side1 => repeat (first | exact (kC HR664_0.out HB.out) | (with_reducible refine Kd.C_alloc ?_ _) | (with_reducible refine Kd.C_drewN ?_ _) | (with_reducible refine Kd.C_drew ?_)));(case side2 => exact HC664_0.out);(case side3 => repeat (first | exact (kC HR664_2.out HB.out) | (with_reducible refine Kd.C_alloc ?_ _) | (with_reducible refine Kd.C_drewN ?_ _) | (with_reducible refine Kd.C_drew ?_)));(case side4 => exact HC664_2.out);rintro e w10 ⟨rfl,hb⟩;replace BK663 := (kmv hb BK663);replace HB := am (below_step (by repeat (first | (with_reducible first | exact HB.out | refine below_set ?_ GE663.out | apply below_alloc | apply pw_below_drewN) | exact HB.out)) hb);(try clear hb);(try clear hb2);(try clear hk);(try clear hi))))
       go_ret
       exact ⟨by first | rfl | (simp [*] <;> rfl),HB.out⟩
   · rw [if_neg c3] at H
     have c3b0 : decide (x3_1 < (l0_0.length : Int)) = false := decide_eq_false c3
     clear c3
     have HC11 := am H
     clear H
     obtain ⟨hcz12_0,hcz12_1⟩ := cO2 BK663.out
     go_upto_region 6 with (fail)
     repeat (go_quiet (fail);go_upto_region 6 with (fail))
     go_cut [35] (fun v35 wc => ∃ (kq : Nat) (x35_10 : Bool),v35 = .bool x35_10 ∧ Aside0 (q4_Chain.j1 kq x35_10 l0_0 l0_1 = some r) ∧ Aside0 (kq ≤ k1) ∧ Aside0 (wc.heap[gb663]? = some (.cells #[(.slice A0_0 l0_0.length c0_0),(.slice A0_1 l0_1.length c0_1)] 59 (0,0))) ∧ Aside0 (Below w.heap.size w wc))
     case first =>
      have H := HC11.out
      clear HC11
      replace H := obm H
      obtain ⟨t666,A130,H⟩ := H
      replace H : (if t666 = true then (q4_Chain.j1 k1 ((l0_1.length : Int) != (wrap64 ((l0_0.length : Int) - 1))) l0_0 l0_1) else (q4_Chain.j1 k1 true l0_0 l0_1)) = some r := H
      have A13 := am A130
      clear A130
      by_cases c14 : t666 = true
      · subst c14
        replace H : (q4_Chain.j1 k1 ((l0_1.length : Int) != (wrap64 ((l0_0.length : Int) - 1))) l0_0 l0_1) = some r := by rw [if_pos rfl] at H;exact H
        replace H' := am H
        obtain ⟨hcz15_0,hcz15_1⟩ := cO2 BK663.out
        go_wp2_with (first | (go_at_call 54;(with_reducible refine (q4_in.calls (l0_0.length : Int) 1 4 true _ A13.out).mono ?_);rintro e w' ⟨rfl,⟨nd,rfl⟩⟩;(try first | exact ⟨rfl,_,World.drewN_drewN _ _ _⟩ | exact ⟨rfl,_,Eq.trans (World.drewN_drewN _ _ _) (congrArg (World.drewN _) (Nat.add_assoc _ _ _))⟩)))
        repeat (go_quiet (first | (go_at_call 54;(with_reducible refine (q4_in.calls (l0_0.length : Int) 1 4 true _ A13.out).mono ?_);rintro e w' ⟨rfl,⟨nd,rfl⟩⟩;(try first | exact ⟨rfl,_,World.drewN_drewN _ _ _⟩ | exact ⟨rfl,_,Eq.trans (World.drewN_drewN _ _ _) (congrArg (World.drewN _) (Nat.add_assoc _ _ _))⟩)));try go_wp2_with (first | (go_at_call 54;(with_reducible refine (q4_in.calls (l0_0.length : Int) 1 4 true _ A13.out).mono ?_);rintro e w' ⟨rfl,⟨nd,rfl⟩⟩;(try first | exact ⟨rfl,_,World.drewN_drewN _ _ _⟩ | exact ⟨rfl,_,Eq.trans (World.drewN_drewN _ _ _) (congrArg (World.drewN _) (Nat.add_assoc _ _ _))⟩))))
        go_meet
        case rel => exact ⟨_,(((l0_1.length : Int) != (wrap64 ((l0_0.length : Int) - 1)))),(by first | rfl | (simp;done) | (simp [*];done)),H',⟨by have := HK1.out;first | omega | exact Nat.le_refl _⟩,⟨BK663.out⟩,⟨pw_below_drewN HB.out _⟩⟩
      · replace c14 := Bool.eq_false_iff.mpr c14
        subst c14
        replace H : (q4_Chain.j1 k1 true l0_0 l0_1) = some r := by rw [if_neg (show ¬ (false = true) by decide)] at H;exact H
        replace H' := am H
        obtain ⟨hcz16_0,hcz16_1⟩ := cO2 BK663.out
        go_wp2_with (first | (go_at_call 54;(with_reducible refine (q4_in.calls (l0_0.length : Int) 1 4 false _ A13.out).mono ?_);rintro e w' ⟨rfl,⟨nd,rfl⟩⟩;(try first | exact ⟨rfl,_,World.drewN_drewN _ _ _⟩ | exact ⟨rfl,_,Eq.trans (World.drewN_drewN _ _ _) (congrArg (World.drewN _) (Nat.add_assoc _ _ _))⟩)))
        repeat (go_quiet (first | (go_at_call 54;(with_reducible refine (q4_in.calls (l0_0.length : Int) 1 4 false _ A13.out).mono ?_);rintro e w' ⟨rfl,⟨nd,rfl⟩⟩;(try first | exact ⟨rfl,_,World.drewN_drewN _ _ _⟩ | exact ⟨rfl,_,Eq.trans (World.drewN_drewN _ _ _) (congrArg (World.drewN _) (Nat.add_assoc _ _ _))⟩)));try go_wp2_with (first | (go_at_call 54;(with_reducible refine (q4_in.calls (l0_0.length : Int) 1 4 false _ A13.out).mono ?_);rintro e w' ⟨rfl,⟨nd,rfl⟩⟩;(try first | exact ⟨rfl,_,World.drewN_drewN _ _ _⟩ | exact ⟨rfl,_,Eq.trans (World.drewN_drewN _ _ _) (congrArg (World.drewN _) (Nat.add_assoc _ _ _))⟩))))
        go_meet
        case rel => exact ⟨_,(true),(by first | rfl | (simp;done) | (simp [*];done)),H',⟨by have := HK1.out;first | omega | exact Nat.le_refl _⟩,⟨BK663.out⟩,⟨pw_below_drewN HB.out _⟩⟩
     case rest =>
      clear HC11
      obtain ⟨kq,x35_10,rfl,HA,HJ10,BK663,HB⟩ := hcut
      cases kq with
      | zero => exact absurd HA.out (by simp [q4_Chain.j1])
      | succ kj10 =>
       have H := HA.out
       clear HA
       simp only [q4_Chain.j1] at H
       by_cases c17 : x35_10 = true
       · subst c17
         replace H : (some false) = some r := by rw [if_pos rfl] at H;exact H
         obtain rfl := Option.some.inj H
         go_wp2
         repeat (go_quiet (fail);try go_wp2)
         go_ret
         exact ⟨by first | rfl | (simp [*] <;> rfl),HB.out⟩
       · replace c17 := Bool.eq_false_iff.mpr c17
         subst c17
         replace H : (q4_Chain.l1 kj10 0 l0_0 l0_1) = some r := by rw [if_neg (show ¬ (false = true) by decide)] at H;exact H
         replace H' := am H
         go_wp2
         repeat (go_quiet (fail);try go_wp2)
         go_loopg [4] kj10 (fun kq v4 w' => ∃ (x4_3 : Int),v4 = .int .i64 x4_3 ∧ Aside0 (q4_Chain.l1 kq x4_3 l0_0 l0_1 = some r) ∧ Aside0 (kq ≤ kj10) ∧ Aside0 (w'.heap[gb663]? = some (.cells #[(.slice A0_0 l0_0.length c0_0),(.slice A0_1 l0_1.length c0_1)] 59 (0,0))) ∧ Aside0 (Below w.heap.size w w'))
         case atStart => exact ⟨(0),(by first | rfl | (simp;done) | (simp [*];done)),H',⟨Nat.le_refl _⟩,⟨BK663.out⟩,⟨HB.out⟩⟩
         case round =>
          clear H'
          obtain ⟨x4_3,rfl,HA,HK3,BK663,HB⟩ := hrel
          cases gk with
          | zero => exact absurd HA.out (by simp [q4_Chain.l1])
          | succ k3 =>
           have H := HA.out
           clear HA
           simp only [q4_Chain.l1] at H
           by_cases c18 : x4_3 < (l0_1.length : Int)
           case neg =>
            rw [if_neg c18] at H
            have c18b0 : decide (x4_3 < (l0_1.length : Int)) = false := decide_eq_false c18
            clear c18
            obtain rfl := Option.some.inj H
            obtain ⟨hcz46_0,hcz46_1⟩ := cO2 BK663.out
            go_wp2
            repeat (go_quiet (fail);try go_wp2)
            go_ret
            exact ⟨by first | rfl | (simp [*] <;> rfl),HB.out⟩
           rw [if_pos c18] at H
           have c18b0 : decide (x4_3 < (l0_1.length : Int)) = true := decide_eq_true c18
           clear c18
           by_cases c19 : 0 ≤ x4_3
           case neg =>
            rw [if_neg c19] at H
            exact absurd H (by simp)
           rw [if_pos c19] at H
           have c19b0 : decide (0 ≤ x4_3) = true := decide_eq_true c19
           clear c19
           have HC20 := am H
           clear H
           obtain ⟨hcz21_0,hcz21_1⟩ := cO2 BK663.out
           have p667 : 0 ≤ (x4_3 : Int) := of_decide_eq_true (by assumption)
           have q667 : x4_3 < (l0_1.length : Int) := of_decide_eq_true (by assumption)
           obtain ⟨ad667,e667,hx667_0,hx667_1⟩ := at_T66 HR0_1.out x4_3 p667 q667
           cases e667
           replace hx667_0 := (HB.out.cell (wbl hx667_0)).trans hx667_0
           replace hx667_1 := (HB.out.cell (wbl hx667_1)).trans hx667_1
           replace p667 := eq_true p667
           replace q667 := eq_true q667
           go_upto_region 12 with (first | ((refine gate_dst (N := 5) rfl ?_);(try (refine gate_guard (by rfl) ?_;dsimp only));refine box_event rfl (N := 5) rfl (cs := #[.int .i64 0,.int .i64 0]) (t := 66) ?hr ?_;(case hr => go_simp;try rfl);intro gb668 hg w22 hbox hb;have BK668 := am (hbox);have GW668 := am (ge_new (HB.out) hg);have GE668 := am (ge_new (HB.out) hg);have NB663_668 := am (ne_new BK663.out hg);have NB668_663 := am (ne_new2 BK663.out hg);replace BK663 := (kmv hb BK663);replace HB := am (below_step (HB.out) hb);clear hb hbox hg;have hnb23 := NB668_663.out;have hnc23 := NB663_668.out;obtain ⟨hcz24_0,hcz24_1⟩ := cO2 BK668.out;have hfz24_0 := blk_frozen BK668.out 0;have hfz24_1 := blk_frozen BK668.out 1))
           repeat (go_quiet (first | ((refine gate_dst (N := 5) rfl ?_);(try (refine gate_guard (by rfl) ?_;dsimp only));refine box_event rfl (N := 5) rfl (cs := #[.int .i64 0,.int .i64 0]) (t := 66) ?hr ?_;(case hr => go_simp;try rfl);intro gb668 hg w22 hbox hb;have BK668 := am (hbox);have GW668 := am (ge_new (by repeat (first | (with_reducible first | exact HB.out | refine below_set ?_ GE663.out | apply below_alloc | apply pw_below_drewN) | exact HB.out)) hg);have GE668 := am (ge_new (by repeat (first | (with_reducible first | exact HB.out | refine below_set ?_ GE663.out | apply below_alloc | apply pw_below_drewN) | exact HB.out)) hg);have NB663_668 := am (ne_new BK663.out hg);have NB668_663 := am (ne_new2 BK663.out hg);replace BK663 := (kmv hb BK663);replace HB := am (below_step (by repeat (first | (with_reducible first | exact HB.out | refine below_set ?_ GE663.out | apply below_alloc | apply pw_below_drewN) | exact HB.out)) hb);clear hb hbox hg;have hnb23 := NB668_663.out;have hnc23 := NB663_668.out;obtain ⟨hcz24_0,hcz24_1⟩ := cO2 BK668.out;have hfz24_0 := blk_frozen BK668.out 0;have hfz24_1 := blk_frozen BK668.out 1));go_upto_region 12 with (first | ((refine gate_dst (N := 5) rfl ?_);(try (refine gate_guard (by rfl) ?_;dsimp only));refine box_event rfl (N := 5) rfl (cs := #[.int .i64 0,.int .i64 0]) (t := 66) ?hr ?_;(case hr => go_simp;try rfl);intro gb668 hg w22 hbox hb;have BK668 := am (hbox);have GW668 := am (ge_new (by repeat (first | (with_reducible first | exact HB.out | refine below_set ?_ GE663.out | apply below_alloc | apply pw_below_drewN) | exact HB.out)) hg);have GE668 := am (ge_new (by repeat (first | (with_reducible first | exact HB.out | refine below_set ?_ GE663.out | apply below_alloc | apply pw_below_drewN) | exact HB.out)) hg);have NB663_668 := am (ne_new BK663.out hg);have NB668_663 := am (ne_new2 BK663.out hg);replace BK663 := (kmv hb BK663);replace HB := am (below_step (by repeat (first | (with_reducible first | exact HB.out | refine below_set ?_ GE663.out | apply below_alloc | apply pw_below_drewN) | exact HB.out)) hb);clear hb hbox hg;have hnb23 := NB668_663.out;have hnc23 := NB663_668.out;obtain ⟨hcz24_0,hcz24_1⟩ := cO2 BK668.out;have hfz24_0 := blk_frozen BK668.out 0;have hfz24_1 := blk_frozen BK668.out 1)))
           (try simp only [Act.put,List.setIfInBounds_toArray,List.set_cons_zero,List.set_cons_succ])
           go_cut [67] (fun v67 wc => ∃ (kq : Nat) (x67_19 : Bool),v67 = .bool x67_19 ∧ Aside0 (q4_Chain.j3 kq x4_3 x67_19 l0_0 l0_1 ((rd_T66 l0_1 x4_3).f0) ((rd_T66 l0_1 x4_3).f1) = some r) ∧ Aside0 (kq ≤ k3) ∧ Aside0 (wc.heap[gb663]? = some (.cells #[(.slice A0_0 l0_0.length c0_0),(.slice (some ad667) l0_1.length c0_1)] 59 (0,0))) ∧ Aside0 (wc.heap[gb668]? = some (.cells #[.int .i64 ((rd_T66 l0_1 x4_3).f0),.int .i64 ((rd_T66 l0_1 x4_3).f1)] 66 (0,0))) ∧ Aside0 (Below w.heap.size w wc))
           case first =>
            have H := HC20.out
            clear HC20
            replace H := obm H
            obtain ⟨t669,A250,H⟩ := H
            replace H : (if t669 = true then (if 0 ≤ ((rd_T66 l0_1 x4_3).f0) then (if ((rd_T66 l0_1 x4_3).f0) < (l0_0.length : Int) then ((q4_in.f ((rd_T66 l0_1 x4_3).f1) (-1) (wrap64 ((((rd_T27 l0_0 ((rd_T66 l0_1 x4_3).f0)).f1).length : Int) - 1))).bind fun t671 => (q4_Chain.j3 k3 x4_3 (!t671) l0_0 l0_1 ((rd_T66 l0_1 x4_3).f0) ((rd_T66 l0_1 x4_3).f1))) else (none)) else (none)) else (q4_Chain.j3 k3 x4_3 true l0_0 l0_1 ((rd_T66 l0_1 x4_3).f0) ((rd_T66 l0_1 x4_3).f1))) = some r := H
            have A25 := am A250
            clear A250
            by_cases c26 : t669 = true
            case neg =>
             replace c26 := Bool.eq_false_iff.mpr c26
             subst c26
             replace H : (q4_Chain.j3 k3 x4_3 true l0_0 l0_1 ((rd_T66 l0_1 x4_3).f0) ((rd_T66 l0_1 x4_3).f1)) = some r := by rw [if_neg (show ¬ (false = true) by decide)] at H;exact H
             replace H' := am H
             have hnb33 := NB668_663.out
             have hnc33 := NB663_668.out
             obtain ⟨hcz34_0,hcz34_1⟩ := cO2 BK668.out
             have hfz34_0 := blk_frozen BK668.out 0
             have hfz34_1 := blk_frozen BK668.out 1
             go_wp2_with (first | (go_at_call 54;(with_reducible refine (q4_in.calls ((rd_T66 l0_1 x4_3).f0) 0 x4_3 false _ A25.out).mono ?_);rintro e w' ⟨rfl,⟨nd,rfl⟩⟩;(try first | exact ⟨rfl,_,World.drewN_drewN _ _ _⟩ | exact ⟨rfl,_,Eq.trans (World.drewN_drewN _ _ _) (congrArg (World.drewN _) (Nat.add_assoc _ _ _))⟩)))
             repeat (go_quiet (first | (go_at_call 54;(with_reducible refine (q4_in.calls ((rd_T66 l0_1 x4_3).f0) 0 x4_3 false _ A25.out).mono ?_);rintro e w' ⟨rfl,⟨nd,rfl⟩⟩;(try first | exact ⟨rfl,_,World.drewN_drewN _ _ _⟩ | exact ⟨rfl,_,Eq.trans (World.drewN_drewN _ _ _) (congrArg (World.drewN _) (Nat.add_assoc _ _ _))⟩)));try go_wp2_with (first | (go_at_call 54;(with_reducible refine (q4_in.calls ((rd_T66 l0_1 x4_3).f0) 0 x4_3 false _ A25.out).mono ?_);rintro e w' ⟨rfl,⟨nd,rfl⟩⟩;(try first | exact ⟨rfl,_,World.drewN_drewN _ _ _⟩ | exact ⟨rfl,_,Eq.trans (World.drewN_drewN _ _ _) (congrArg (World.drewN _) (Nat.add_assoc _ _ _))⟩))))
             go_meet
             case rel => exact ⟨_,(true),(by first | rfl | (simp;done) | (simp [*];done)),H',⟨by have := HK1.out;have := HJ10.out;have := HK3.out;first | omega | exact Nat.le_refl _⟩,⟨(blk_far (blk_far BK663.out NB663_668.out _) NB663_668.out _)⟩,⟨(blk_put (cs := #[.int .i64 ((rd_T66 l0_1 x4_3).f0),.int .i64 0]) (blk_put (cs := #[.int .i64 0,.int .i64 0]) BK668.out 0 _ rfl) 1 _ rfl)⟩,⟨by repeat (first | (with_reducible first | exact HB.out | refine below_set ?_ (Aside0.out (by assumption)) | apply below_alloc | apply pw_below_drewN) | exact HB.out)⟩⟩
            subst c26
            replace H : (if 0 ≤ ((rd_T66 l0_1 x4_3).f0) then (if ((rd_T66 l0_1 x4_3).f0) < (l0_0.length : Int) then ((q4_in.f ((rd_T66 l0_1 x4_3).f1) (-1) (wrap64 ((((rd_T27 l0_0 ((rd_T66 l0_1 x4_3).f0)).f1).length : Int) - 1))).bind fun t671 => (q4_Chain.j3 k3 x4_3 (!t671) l0_0 l0_1 ((rd_T66 l0_1 x4_3).f0) ((rd_T66 l0_1 x4_3).f1))) else (none)) else (none)) = some r := by rw [if_pos rfl] at H;exact H
            by_cases c27 : 0 ≤ ((rd_T66 l0_1 x4_3).f0)
            case neg =>
             rw [if_neg c27] at H
             exact absurd H (by simp)
            rw [if_pos c27] at H
            have c27b0 : decide (0 ≤ ((rd_T66 l0_1 x4_3).f0)) = true := decide_eq_true c27
            clear c27
            (first | rw [c27b0] | (simp only [i64_w,i32_w];rw [c27b0]) | skip)
            by_cases c28 : ((rd_T66 l0_1 x4_3).f0) < (l0_0.length : Int)
            case neg =>
             rw [if_neg c28] at H
             exact absurd H (by simp)
            rw [if_pos c28] at H
            have c28b0 : decide (((rd_T66 l0_1 x4_3).f0) < (l0_0.length : Int)) = true := decide_eq_true c28
            clear c28
            replace H := obm H
            obtain ⟨t671,A290,H⟩ := H
            replace H : (q4_Chain.j3 k3 x4_3 (!t671) l0_0 l0_1 ((rd_T66 l0_1 x4_3).f0) ((rd_T66 l0_1 x4_3).f1)) = some r := H
            have A29 := am A290
            clear A290
            replace H' := am H
            have hnb30 := NB668_663.out
            have hnc30 := NB663_668.out
            obtain ⟨hcz31_0,hcz31_1⟩ := cO2 BK668.out
            have hfz31_0 := blk_frozen BK668.out 0
            have hfz31_1 := blk_frozen BK668.out 1
            go_wp2_with (first | (go_at_call 54;(with_reducible refine (q4_in.calls ((rd_T66 l0_1 x4_3).f0) 0 x4_3 true _ A25.out).mono ?_);rintro e w' ⟨rfl,⟨nd,rfl⟩⟩;(try first | exact ⟨rfl,_,World.drewN_drewN _ _ _⟩ | exact ⟨rfl,_,Eq.trans (World.drewN_drewN _ _ _) (congrArg (World.drewN _) (Nat.add_assoc _ _ _))⟩);obtain ⟨hcz32_0,hcz32_1⟩ := cO2 BK663.out;have p670 : 0 ≤ (((rd_T66 l0_1 x4_3).f0) : Int) := of_decide_eq_true (by assumption);have q670 : ((rd_T66 l0_1 x4_3).f0) < (l0_0.length : Int) := of_decide_eq_true (by assumption);obtain ⟨ad670,A670_0,c670_0,A670_2,c670_2,e670,hx670_0,hx670_1,hx670_2,hx670_3,hx670_4,hl670_0,hi670_0,hl670_2,hi670_2⟩ := at_T27 HR0_0.out ((rd_T66 l0_1 x4_3).f0) p670 q670;cases e670;have hn670_0 : ad670.block ≠ gb668 := Nat.ne_of_lt (Nat.lt_of_lt_of_le (by have := World.block_lt_of_cell? _ _ hx670_0;first | rwa [add_block] at this | exact this) GW668.out);have hn670_1 : ad670.block ≠ gb668 := Nat.ne_of_lt (Nat.lt_of_lt_of_le (by have := World.block_lt_of_cell? _ _ hx670_0;first | rwa [add_block] at this | exact this) GW668.out);replace hx670_0 := (HB.out.cell (wbl hx670_0)).trans hx670_0;replace hx670_1 := (HB.out.cell (wbl hx670_1)).trans hx670_1;replace hx670_2 := (HB.out.cell (wbl hx670_2)).trans hx670_2;replace hx670_3 := (HB.out.cell (wbl hx670_3)).trans hx670_3;replace hx670_4 := (HB.out.cell (wbl hx670_4)).trans hx670_4;have HR670_0 := am hi670_0;have HC670_0 := am hl670_0;clear hi670_0 hl670_0;have HR670_2 := am hi670_2;have HC670_2 := am hl670_2;clear hi670_2 hl670_2;replace hx670_0 := (cell_far (p := ⟨gb668,0,none⟩) (by first | (rw [add_block];exact hn670_0) | (show (Addr.add _ _).block ≠ _;rw [add_block];exact hn670_0) | exact hn670_0) (.int .i64 ((rd_T66 l0_1 x4_3).f0))).trans hx670_0;replace hx670_1 := (cell_far (p := ⟨gb668,0,none⟩) (by first | (rw [add_block];exact hn670_0) | (show (Addr.add _ _).block ≠ _;rw [add_block];exact hn670_0) | exact hn670_0) (.int .i64 ((rd_T66 l0_1 x4_3).f0))).trans hx670_1;replace hx670_2 := (cell_far (p := ⟨gb668,0,none⟩) (by first | (rw [add_block];exact hn670_0) | (show (Addr.add _ _).block ≠ _;rw [add_block];exact hn670_0) | exact hn670_0) (.int .i64 ((rd_T66 l0_1 x4_3).f0))).trans hx670_2;replace hx670_3 := (cell_far (p := ⟨gb668,0,none⟩) (by first | (rw [add_block];exact hn670_0) | (show (Addr.add _ _).block ≠ _;rw [add_block];exact hn670_0) | exact hn670_0) (.int .i64 ((rd_T66 l0_1 x4_3).f0))).trans hx670_3;replace hx670_4 := (cell_far (p := ⟨gb668,0,none⟩) (by first | (rw [add_block];exact hn670_0) | (show (Addr.add _ _).block ≠ _;rw [add_block];exact hn670_0) | exact hn670_0) (.int .i64 ((rd_T66 l0_1 x4_3).f0))).trans hx670_4;replace hx670_0 := (cell_far (p := ⟨gb668,1,none⟩) (by first | (rw [add_block];exact hn670_1) | (show (Addr.add _ _).block ≠ _;rw [add_block];exact hn670_1) | exact hn670_1) (.int .i64 ((rd_T66 l0_1 x4_3).f1))).trans hx670_0;replace hx670_1 := (cell_far (p := ⟨gb668,1,none⟩) (by first | (rw [add_block];exact hn670_1) | (show (Addr.add _ _).block ≠ _;rw [add_block];exact hn670_1) | exact hn670_1) (.int .i64 ((rd_T66 l0_1 x4_3).f1))).trans hx670_1;replace hx670_2 := (cell_far (p := ⟨gb668,1,none⟩) (by first | (rw [add_block];exact hn670_1) | (show (Addr.add _ _).block ≠ _;rw [add_block];exact hn670_1) | exact hn670_1) (.int .i64 ((rd_T66 l0_1 x4_3).f1))).trans hx670_2;replace hx670_3 := (cell_far (p := ⟨gb668,1,none⟩) (by first | (rw [add_block];exact hn670_1) | (show (Addr.add _ _).block ≠ _;rw [add_block];exact hn670_1) | exact hn670_1) (.int .i64 ((rd_T66 l0_1 x4_3).f1))).trans hx670_3;replace hx670_4 := (cell_far (p := ⟨gb668,1,none⟩) (by first | (rw [add_block];exact hn670_1) | (show (Addr.add _ _).block ≠ _;rw [add_block];exact hn670_1) | exact hn670_1) (.int .i64 ((rd_T66 l0_1 x4_3).f1))).trans hx670_4;(try have hy670_0 := fun (n_ : Nat) => (show ((((w22.drewN n_).setCell ⟨gb668,0,none⟩ (.int .i64 ((rd_T66 l0_1 x4_3).f0))).setCell ⟨gb668,1,none⟩ (.int .i64 ((rd_T66 l0_1 x4_3).f1)))).cell? _ = some _ from hx670_0));(try have hy670_1 := fun (n_ : Nat) => (show ((((w22.drewN n_).setCell ⟨gb668,0,none⟩ (.int .i64 ((rd_T66 l0_1 x4_3).f0))).setCell ⟨gb668,1,none⟩ (.int .i64 ((rd_T66 l0_1 x4_3).f1)))).cell? _ = some _ from hx670_1));(try have hy670_2 := fun (n_ : Nat) => (show ((((w22.drewN n_).setCell ⟨gb668,0,none⟩ (.int .i64 ((rd_T66 l0_1 x4_3).f0))).setCell ⟨gb668,1,none⟩ (.int .i64 ((rd_T66 l0_1 x4_3).f1)))).cell? _ = some _ from hx670_2));(try have hy670_3 := fun (n_ : Nat) => (show ((((w22.drewN n_).setCell ⟨gb668,0,none⟩ (.int .i64 ((rd_T66 l0_1 x4_3).f0))).setCell ⟨gb668,1,none⟩ (.int .i64 ((rd_T66 l0_1 x4_3).f1)))).cell? _ = some _ from hx670_3));(try have hy670_4 := fun (n_ : Nat) => (show ((((w22.drewN n_).setCell ⟨gb668,0,none⟩ (.int .i64 ((rd_T66 l0_1 x4_3).f0))).setCell ⟨gb668,1,none⟩ (.int .i64 ((rd_T66 l0_1 x4_3).f1)))).cell? _ = some _ from hx670_4));clear hn670_0;clear hn670_1;replace p670 := eq_true p670;replace q670 := eq_true q670) | (go_at_call 54;(with_reducible refine (q4_in.calls ((rd_T66 l0_1 x4_3).f1) (-1) (IntKind.i64.wrap ((((rd_T27 l0_0 ((rd_T66 l0_1 x4_3).f0)).f1).length : Int) - 1)) t671 _ (in_wr A29.out)).mono ?_);rintro e w' ⟨rfl,⟨nd,rfl⟩⟩;(try first | exact ⟨rfl,_,World.drewN_drewN _ _ _⟩ | exact ⟨rfl,_,Eq.trans (World.drewN_drewN _ _ _) (congrArg (World.drewN _) (Nat.add_assoc _ _ _))⟩)))
            repeat (go_quiet (first | (go_at_call 54;(with_reducible refine (q4_in.calls ((rd_T66 l0_1 x4_3).f0) 0 x4_3 true _ A25.out).mono ?_);rintro e w' ⟨rfl,⟨nd,rfl⟩⟩;(try first | exact ⟨rfl,_,World.drewN_drewN _ _ _⟩ | exact ⟨rfl,_,Eq.trans (World.drewN_drewN _ _ _) (congrArg (World.drewN _) (Nat.add_assoc _ _ _))⟩);obtain ⟨hcz32_0,hcz32_1⟩ := cO2 BK663.out;have p670 : 0 ≤ (((rd_T66 l0_1 x4_3).f0) : Int) := of_decide_eq_true (by assumption);have q670 : ((rd_T66 l0_1 x4_3).f0) < (l0_0.length : Int) := of_decide_eq_true (by assumption);obtain ⟨ad670,A670_0,c670_0,A670_2,c670_2,e670,hx670_0,hx670_1,hx670_2,hx670_3,hx670_4,hl670_0,hi670_0,hl670_2,hi670_2⟩ := at_T27 HR0_0.out ((rd_T66 l0_1 x4_3).f0) p670 q670;cases e670;have hn670_0 : ad670.block ≠ gb668 := Nat.ne_of_lt (Nat.lt_of_lt_of_le (by have := World.block_lt_of_cell? _ _ hx670_0;first | rwa [add_block] at this | exact this) GW668.out);have hn670_1 : ad670.block ≠ gb668 := Nat.ne_of_lt (Nat.lt_of_lt_of_le (by have := World.block_lt_of_cell? _ _ hx670_0;first | rwa [add_block] at this | exact this) GW668.out);replace hx670_0 := (HB.out.cell (wbl hx670_0)).trans hx670_0;replace hx670_1 := (HB.out.cell (wbl hx670_1)).trans hx670_1;replace hx670_2 := (HB.out.cell (wbl hx670_2)).trans hx670_2;replace hx670_3 := (HB.out.cell (wbl hx670_3)).trans hx670_3;replace hx670_4 := (HB.out.cell (wbl hx670_4)).trans hx670_4;have HR670_0 := am hi670_0;have HC670_0 := am hl670_0;clear hi670_0 hl670_0;have HR670_2 := am hi670_2;have HC670_2 := am hl670_2;clear hi670_2 hl670_2;replace hx670_0 := (cell_far (p := ⟨gb668,0,none⟩) (by first | (rw [add_block];exact hn670_0) | (show (Addr.add _ _).block ≠ _;rw [add_block];exact hn670_0) | exact hn670_0) (.int .i64 ((rd_T66 l0_1 x4_3).f0))).trans hx670_0;replace hx670_1 := (cell_far (p := ⟨gb668,0,none⟩) (by first | (rw [add_block];exact hn670_0) | (show (Addr.add _ _).block ≠ _;rw [add_block];exact hn670_0) | exact hn670_0) (.int .i64 ((rd_T66 l0_1 x4_3).f0))).trans hx670_1;replace hx670_2 := (cell_far (p := ⟨gb668,0,none⟩) (by first | (rw [add_block];exact hn670_0) | (show (Addr.add _ _).block ≠ _;rw [add_block];exact hn670_0) | exact hn670_0) (.int .i64 ((rd_T66 l0_1 x4_3).f0))).trans hx670_2;replace hx670_3 := (cell_far (p := ⟨gb668,0,none⟩) (by first | (rw [add_block];exact hn670_0) | (show (Addr.add _ _).block ≠ _;rw [add_block];exact hn670_0) | exact hn670_0) (.int .i64 ((rd_T66 l0_1 x4_3).f0))).trans hx670_3;replace hx670_4 := (cell_far (p := ⟨gb668,0,none⟩) (by first | (rw [add_block];exact hn670_0) | (show (Addr.add _ _).block ≠ _;rw [add_block];exact hn670_0) | exact hn670_0) (.int .i64 ((rd_T66 l0_1 x4_3).f0))).trans hx670_4;replace hx670_0 := (cell_far (p := ⟨gb668,1,none⟩) (by first | (rw [add_block];exact hn670_1) | (show (Addr.add _ _).block ≠ _;rw [add_block];exact hn670_1) | exact hn670_1) (.int .i64 ((rd_T66 l0_1 x4_3).f1))).trans hx670_0;replace hx670_1 := (cell_far (p := ⟨gb668,1,none⟩) (by first | (rw [add_block];exact hn670_1) | (show (Addr.add _ _).block ≠ _;rw [add_block];exact hn670_1) | exact hn670_1) (.int .i64 ((rd_T66 l0_1 x4_3).f1))).trans hx670_1;replace hx670_2 := (cell_far (p := ⟨gb668,1,none⟩) (by first | (rw [add_block];exact hn670_1) | (show (Addr.add _ _).block ≠ _;rw [add_block];exact hn670_1) | exact hn670_1) (.int .i64 ((rd_T66 l0_1 x4_3).f1))).trans hx670_2;replace hx670_3 := (cell_far (p := ⟨gb668,1,none⟩) (by first | (rw [add_block];exact hn670_1) | (show (Addr.add _ _).block ≠ _;rw [add_block];exact hn670_1) | exact hn670_1) (.int .i64 ((rd_T66 l0_1 x4_3).f1))).trans hx670_3;replace hx670_4 := (cell_far (p := ⟨gb668,1,none⟩) (by first | (rw [add_block];exact hn670_1) | (show (Addr.add _ _).block ≠ _;rw [add_block];exact hn670_1) | exact hn670_1) (.int .i64 ((rd_T66 l0_1 x4_3).f1))).trans hx670_4;(try have hy670_0 := fun (n_ : Nat) => (show ((((w22.drewN n_).setCell ⟨gb668,0,none⟩ (.int .i64 ((rd_T66 l0_1 x4_3).f0))).setCell ⟨gb668,1,none⟩ (.int .i64 ((rd_T66 l0_1 x4_3).f1)))).cell? _ = some _ from hx670_0));(try have hy670_1 := fun (n_ : Nat) => (show ((((w22.drewN n_).setCell ⟨gb668,0,none⟩ (.int .i64 ((rd_T66 l0_1 x4_3).f0))).setCell ⟨gb668,1,none⟩ (.int .i64 ((rd_T66 l0_1 x4_3).f1)))).cell? _ = some _ from hx670_1));(try have hy670_2 := fun (n_ : Nat) => (show ((((w22.drewN n_).setCell ⟨gb668,0,none⟩ (.int .i64 ((rd_T66 l0_1 x4_3).f0))).setCell ⟨gb668,1,none⟩ (.int .i64 ((rd_T66 l0_1 x4_3).f1)))).cell? _ = some _ from hx670_2));(try have hy670_3 := fun (n_ : Nat) => (show ((((w22.drewN n_).setCell ⟨gb668,0,none⟩ (.int .i64 ((rd_T66 l0_1 x4_3).f0))).setCell ⟨gb668,1,none⟩ (.int .i64 ((rd_T66 l0_1 x4_3).f1)))).cell? _ = some _ from hx670_3));(try have hy670_4 := fun (n_ : Nat) => (show ((((w22.drewN n_).setCell ⟨gb668,0,none⟩ (.int .i64 ((rd_T66 l0_1 x4_3).f0))).setCell ⟨gb668,1,none⟩ (.int .i64 ((rd_T66 l0_1 x4_3).f1)))).cell? _ = some _ from hx670_4));clear hn670_0;clear hn670_1;replace p670 := eq_true p670;replace q670 := eq_true q670) | (go_at_call 54;(with_reducible refine (q4_in.calls ((rd_T66 l0_1 x4_3).f1) (-1) (IntKind.i64.wrap ((((rd_T27 l0_0 ((rd_T66 l0_1 x4_3).f0)).f1).length : Int) - 1)) t671 _ (in_wr A29.out)).mono ?_);rintro e w' ⟨rfl,⟨nd,rfl⟩⟩;(try first | exact ⟨rfl,_,World.drewN_drewN _ _ _⟩ | exact ⟨rfl,_,Eq.trans (World.drewN_drewN _ _ _) (congrArg (World.drewN _) (Nat.add_assoc _ _ _))⟩)));try go_wp2_with (first | (go_at_call 54;(with_reducible refine (q4_in.calls ((rd_T66 l0_1 x4_3).f0) 0 x4_3 true _ A25.out).mono ?_);rintro e w' ⟨rfl,⟨nd,rfl⟩⟩;(try first | exact ⟨rfl,_,World.drewN_drewN _ _ _⟩ | exact ⟨rfl,_,Eq.trans (World.drewN_drewN _ _ _) (congrArg (World.drewN _) (Nat.add_assoc _ _ _))⟩);obtain ⟨hcz32_0,hcz32_1⟩ := cO2 BK663.out;have p670 : 0 ≤ (((rd_T66 l0_1 x4_3).f0) : Int) := of_decide_eq_true (by assumption);have q670 : ((rd_T66 l0_1 x4_3).f0) < (l0_0.length : Int) := of_decide_eq_true (by assumption);obtain ⟨ad670,A670_0,c670_0,A670_2,c670_2,e670,hx670_0,hx670_1,hx670_2,hx670_3,hx670_4,hl670_0,hi670_0,hl670_2,hi670_2⟩ := at_T27 HR0_0.out ((rd_T66 l0_1 x4_3).f0) p670 q670;cases e670;have hn670_0 : ad670.block ≠ gb668 := Nat.ne_of_lt (Nat.lt_of_lt_of_le (by have := World.block_lt_of_cell? _ _ hx670_0;first | rwa [add_block] at this | exact this) GW668.out);have hn670_1 : ad670.block ≠ gb668 := Nat.ne_of_lt (Nat.lt_of_lt_of_le (by have := World.block_lt_of_cell? _ _ hx670_0;first | rwa [add_block] at this | exact this) GW668.out);replace hx670_0 := (HB.out.cell (wbl hx670_0)).trans hx670_0;replace hx670_1 := (HB.out.cell (wbl hx670_1)).trans hx670_1;replace hx670_2 := (HB.out.cell (wbl hx670_2)).trans hx670_2;replace hx670_3 := (HB.out.cell (wbl hx670_3)).trans hx670_3;replace hx670_4 := (HB.out.cell (wbl hx670_4)).trans hx670_4;have HR670_0 := am hi670_0;have HC670_0 := am hl670_0;clear hi670_0 hl670_0;have HR670_2 := am hi670_2;have HC670_2 := am hl670_2;clear hi670_2 hl670_2;replace hx670_0 := (cell_far (p := ⟨gb668,0,none⟩) (by first | (rw [add_block];exact hn670_0) | (show (Addr.add _ _).block ≠ _;rw [add_block];exact hn670_0) | exact hn670_0) (.int .i64 ((rd_T66 l0_1 x4_3).f0))).trans hx670_0;replace hx670_1 := (cell_far (p := ⟨gb668,0,none⟩) (by first | (rw [add_block];exact hn670_0) | (show (Addr.add _ _).block ≠ _;rw [add_block];exact hn670_0) | exact hn670_0) (.int .i64 ((rd_T66 l0_1 x4_3).f0))).trans hx670_1;replace hx670_2 := (cell_far (p := ⟨gb668,0,none⟩) (by first | (rw [add_block];exact hn670_0) | (show (Addr.add _ _).block ≠ _;rw [add_block];exact hn670_0) | exact hn670_0) (.int .i64 ((rd_T66 l0_1 x4_3).f0))).trans hx670_2;replace hx670_3 := (cell_far (p := ⟨gb668,0,none⟩) (by first | (rw [add_block];exact hn670_0) | (show (Addr.add _ _).block ≠ _;rw [add_block];exact hn670_0) | exact hn670_0) (.int .i64 ((rd_T66 l0_1 x4_3).f0))).trans hx670_3;replace hx670_4 := (cell_far (p := ⟨gb668,0,none⟩) (by first | (rw [add_block];exact hn670_0) | (show (Addr.add _ _).block ≠ _;rw [add_block];exact hn670_0) | exact hn670_0) (.int .i64 ((rd_T66 l0_1 x4_3).f0))).trans hx670_4;replace hx670_0 := (cell_far (p := ⟨gb668,1,none⟩) (by first | (rw [add_block];exact hn670_1) | (show (Addr.add _ _).block ≠ _;rw [add_block];exact hn670_1) | exact hn670_1) (.int .i64 ((rd_T66 l0_1 x4_3).f1))).trans hx670_0;replace hx670_1 := (cell_far (p := ⟨gb668,1,none⟩) (by first | (rw [add_block];exact hn670_1) | (show (Addr.add _ _).block ≠ _;rw [add_block];exact hn670_1) | exact hn670_1) (.int .i64 ((rd_T66 l0_1 x4_3).f1))).trans hx670_1;replace hx670_2 := (cell_far (p := ⟨gb668,1,none⟩) (by first | (rw [add_block];exact hn670_1) | (show (Addr.add _ _).block ≠ _;rw [add_block];exact hn670_1) | exact hn670_1) (.int .i64 ((rd_T66 l0_1 x4_3).f1))).trans hx670_2;replace hx670_3 := (cell_far (p := ⟨gb668,1,none⟩) (by first | (rw [add_block];exact hn670_1) | (show (Addr.add _ _).block ≠ _;rw [add_block];exact hn670_1) | exact hn670_1) (.int .i64 ((rd_T66 l0_1 x4_3).f1))).trans hx670_3;replace hx670_4 := (cell_far (p := ⟨gb668,1,none⟩) (by first | (rw [add_block];exact hn670_1) | (show (Addr.add _ _).block ≠ _;rw [add_block];exact hn670_1) | exact hn670_1) (.int .i64 ((rd_T66 l0_1 x4_3).f1))).trans hx670_4;(try have hy670_0 := fun (n_ : Nat) => (show ((((w22.drewN n_).setCell ⟨gb668,0,none⟩ (.int .i64 ((rd_T66 l0_1 x4_3).f0))).setCell ⟨gb668,1,none⟩ (.int .i64 ((rd_T66 l0_1 x4_3).f1)))).cell? _ = some _ from hx670_0));(try have hy670_1 := fun (n_ : Nat) => (show ((((w22.drewN n_).setCell ⟨gb668,0,none⟩ (.int .i64 ((rd_T66 l0_1 x4_3).f0))).setCell ⟨gb668,1,none⟩ (.int .i64 ((rd_T66 l0_1 x4_3).f1)))).cell? _ = some _ from hx670_1));(try have hy670_2 := fun (n_ : Nat) => (show ((((w22.drewN n_).setCell ⟨gb668,0,none⟩ (.int .i64 ((rd_T66 l0_1 x4_3).f0))).setCell ⟨gb668,1,none⟩ (.int .i64 ((rd_T66 l0_1 x4_3).f1)))).cell? _ = some _ from hx670_2));(try have hy670_3 := fun (n_ : Nat) => (show ((((w22.drewN n_).setCell ⟨gb668,0,none⟩ (.int .i64 ((rd_T66 l0_1 x4_3).f0))).setCell ⟨gb668,1,none⟩ (.int .i64 ((rd_T66 l0_1 x4_3).f1)))).cell? _ = some _ from hx670_3));(try have hy670_4 := fun (n_ : Nat) => (show ((((w22.drewN n_).setCell ⟨gb668,0,none⟩ (.int .i64 ((rd_T66 l0_1 x4_3).f0))).setCell ⟨gb668,1,none⟩ (.int .i64 ((rd_T66 l0_1 x4_3).f1)))).cell? _ = some _ from hx670_4));clear hn670_0;clear hn670_1;replace p670 := eq_true p670;replace q670 := eq_true q670) | (go_at_call 54;(with_reducible refine (q4_in.calls ((rd_T66 l0_1 x4_3).f1) (-1) (IntKind.i64.wrap ((((rd_T27 l0_0 ((rd_T66 l0_1 x4_3).f0)).f1).length : Int) - 1)) t671 _ (in_wr A29.out)).mono ?_);rintro e w' ⟨rfl,⟨nd,rfl⟩⟩;(try first | exact ⟨rfl,_,World.drewN_drewN _ _ _⟩ | exact ⟨rfl,_,Eq.trans (World.drewN_drewN _ _ _) (congrArg (World.drewN _) (Nat.add_assoc _ _ _))⟩))))
            go_meet
            case rel => exact ⟨_,(!t671),(by first | rfl | (simp;done) | (simp [*];done)),H',⟨by have := HK1.out;have := HJ10.out;have := HK3.out;first | omega | exact Nat.le_refl _⟩,⟨(blk_far (blk_far BK663.out NB663_668.out _) NB663_668.out _)⟩,⟨(blk_put (cs := #[.int .i64 ((rd_T66 l0_1 x4_3).f0),.int .i64 0]) (blk_put (cs := #[.int .i64 0,.int .i64 0]) BK668.out 0 _ rfl) 1 _ rfl)⟩,⟨by repeat (first | (with_reducible first | exact HB.out | refine below_set ?_ (Aside0.out (by assumption)) | apply below_alloc | apply pw_below_drewN) | exact HB.out)⟩⟩
           case rest =>
            clear HC20
            obtain ⟨kq,x67_19,rfl,HA,HJ19,BK663,BK668,HB⟩ := hcut
            cases kq with
            | zero => exact absurd HA.out (by simp [q4_Chain.j3])
            | succ kj19 =>
             have H := HA.out
             clear HA
             simp only [q4_Chain.j3] at H
             by_cases c35 : x67_19 = true
             · subst c35
               replace H : (some false) = some r := by rw [if_pos rfl] at H;exact H
               obtain rfl := Option.some.inj H
               go_wp2
               repeat (go_quiet (fail);try go_wp2)
               go_ret
               exact ⟨by first | rfl | (simp [*] <;> rfl),HB.out⟩
             · replace c35 := Bool.eq_false_iff.mpr c35
               subst c35
               replace H : (q4_Chain.l2 kj19 x4_3 0 l0_0 l0_1 ((rd_T66 l0_1 x4_3).f0) ((rd_T66 l0_1 x4_3).f1)) = some r := by rw [if_neg (show ¬ (false = true) by decide)] at H;exact H
               replace H' := am H
               go_wp2
               repeat (go_quiet (fail);try go_wp2)
               go_loopg [6] kj19 (fun kq v6 w' => ∃ (x6_5 : Int),v6 = .int .i64 x6_5 ∧ Aside0 (q4_Chain.l2 kq x4_3 x6_5 l0_0 l0_1 ((rd_T66 l0_1 x4_3).f0) ((rd_T66 l0_1 x4_3).f1) = some r) ∧ Aside0 (kq ≤ kj19) ∧ Aside0 (w'.heap[gb663]? = some (.cells #[(.slice A0_0 l0_0.length c0_0),(.slice (some ad667) l0_1.length c0_1)] 59 (0,0))) ∧ Aside0 (w'.heap[gb668]? = some (.cells #[.int .i64 ((rd_T66 l0_1 x4_3).f0),.int .i64 ((rd_T66 l0_1 x4_3).f1)] 66 (0,0))) ∧ Aside0 (Below w.heap.size w w'))
               case atStart => exact ⟨(0),(by first | rfl | (simp;done) | (simp [*];done)),H',⟨Nat.le_refl _⟩,⟨BK663.out⟩,⟨BK668.out⟩,⟨HB.out⟩⟩
               case round =>
                clear H'
                obtain ⟨x6_5,rfl,HA,HK5,BK663,BK668,HB⟩ := hrel
                cases gk with
                | zero => exact absurd HA.out (by simp [q4_Chain.l2])
                | succ k5 =>
                 have H := HA.out
                 clear HA
                 simp only [q4_Chain.l2] at H
                 by_cases c36 : x6_5 < x4_3
                 case neg =>
                  rw [if_neg c36] at H
                  have c36b0 : decide (x6_5 < x4_3) = false := decide_eq_false c36
                  clear c36
                  replace H' := am H
                  go_wp2
                  repeat (go_quiet (fail);try go_wp2)
                  go_roundg k5
                  case measure => have := HK1.out;have := HJ10.out;have := HK3.out;have := HJ19.out;have := HK5.out;omega
                  case rel => exact ⟨(wrap64 (x4_3 + 1)),(by first | rfl | (simp;done) | (simp [*];done)),H',⟨by have := HK1.out;have := HJ10.out;have := HK3.out;have := HJ19.out;have := HK5.out;omega⟩,⟨BK663.out⟩,⟨HB.out⟩⟩
                 rw [if_pos c36] at H
                 have c36b0 : decide (x6_5 < x4_3) = true := decide_eq_true c36
                 clear c36
                 by_cases c37 : 0 ≤ x6_5
                 case neg =>
                  rw [if_neg c37] at H
                  exact absurd H (by simp)
                 rw [if_pos c37] at H
                 have c37b0 : decide (0 ≤ x6_5) = true := decide_eq_true c37
                 clear c37
                 by_cases c38 : x6_5 < (l0_1.length : Int)
                 case neg =>
                  rw [if_neg c38] at H
                  exact absurd H (by simp)
                 rw [if_pos c38] at H
                 have c38b0 : decide (x6_5 < (l0_1.length : Int)) = true := decide_eq_true c38
                 clear c38
                 by_cases c39 : (((rd_T66 l0_1 x6_5).f0) == ((rd_T66 l0_1 x4_3).f0) && (((rd_T66 l0_1 x6_5).f1) == ((rd_T66 l0_1 x4_3).f1))) = true
                 · rw [if_pos c39] at H
                   have c39b0 : (((rd_T66 l0_1 x6_5).f0) == ((rd_T66 l0_1 x4_3).f0) && (((rd_T66 l0_1 x6_5).f1) == ((rd_T66 l0_1 x4_3).f1))) = true := c39
                   (try (have c39b1 : decide (((rd_T66 l0_1 x6_5).f0) = ((rd_T66 l0_1 x4_3).f0) && (((rd_T66 l0_1 x6_5).f1) == ((rd_T66 l0_1 x4_3).f1))) = true := by simpa using c39))
                   (try (have c39b2 : (((rd_T66 l0_1 x6_5).f0) == ((rd_T66 l0_1 x4_3).f0) && (((rd_T66 l0_1 x6_5).f1) == ((rd_T66 l0_1 x4_3).f1))) = true := by simpa using c39))
                   clear c39
                   obtain rfl := Option.some.inj H
                   have hnb40 := NB663_668.out
                   have hnc40 := NB668_663.out
                   obtain ⟨hcz41_0,hcz41_1⟩ := cO2 BK663.out
                   have p672 : 0 ≤ (x6_5 : Int) := of_decide_eq_true (by assumption)
                   have q672 : x6_5 < (l0_1.length : Int) := of_decide_eq_true (by assumption)
                   obtain ⟨ad672,e672,hx672_0,hx672_1⟩ := at_T66 HR0_1.out x6_5 p672 q672
                   obtain rfl : ad667 = ad672 := (by injection e672)
                   replace hx672_0 := (HB.out.cell (wbl hx672_0)).trans hx672_0
                   replace hx672_1 := (HB.out.cell (wbl hx672_1)).trans hx672_1
                   replace p672 := eq_true p672
                   replace q672 := eq_true q672
                   obtain ⟨hcz42_0,hcz42_1⟩ := cO2 BK668.out
                   have hfz42_0 := blk_frozen BK668.out 0
                   have hfz42_1 := blk_frozen BK668.out 1
                   go_wp2
                   repeat (go_quiet (fail);try go_wp2)
                   go_ret
                   exact ⟨by first | rfl | (simp [*] <;> rfl),pw_below_drewN HB.out _⟩
                 · rw [if_neg c39] at H
                   have c39b0 : (((rd_T66 l0_1 x6_5).f0) == ((rd_T66 l0_1 x4_3).f0) && (((rd_T66 l0_1 x6_5).f1) == ((rd_T66 l0_1 x4_3).f1))) = false := by simpa using c39
                   (try (have c39b1 : decide (((rd_T66 l0_1 x6_5).f0) = ((rd_T66 l0_1 x4_3).f0) && (((rd_T66 l0_1 x6_5).f1) == ((rd_T66 l0_1 x4_3).f1))) = false := by simpa using c39))
                   (try (have c39b2 : (((rd_T66 l0_1 x6_5).f0) == ((rd_T66 l0_1 x4_3).f0) && (((rd_T66 l0_1 x6_5).f1) == ((rd_T66 l0_1 x4_3).f1))) = false := by simpa using c39))
                   (try (have c39b3 : ¬ (((rd_T66 l0_1 x6_5).f0) = ((rd_T66 l0_1 x4_3).f0) && (((rd_T66 l0_1 x6_5).f1) == ((rd_T66 l0_1 x4_3).f1))) := by simpa using c39))
                   clear c39
                   replace H' := am H
                   have hnb43 := NB663_668.out
                   have hnc43 := NB668_663.out
                   obtain ⟨hcz44_0,hcz44_1⟩ := cO2 BK663.out
                   have p672 : 0 ≤ (x6_5 : Int) := of_decide_eq_true (by assumption)
                   have q672 : x6_5 < (l0_1.length : Int) := of_decide_eq_true (by assumption)
                   obtain ⟨ad672,e672,hx672_0,hx672_1⟩ := at_T66 HR0_1.out x6_5 p672 q672
                   obtain rfl : ad667 = ad672 := (by injection e672)
                   replace hx672_0 := (HB.out.cell (wbl hx672_0)).trans hx672_0
                   replace hx672_1 := (HB.out.cell (wbl hx672_1)).trans hx672_1
                   replace p672 := eq_true p672
                   replace q672 := eq_true q672
                   obtain ⟨hcz45_0,hcz45_1⟩ := cO2 BK668.out
                   have hfz45_0 := blk_frozen BK668.out 0
                   have hfz45_1 := blk_frozen BK668.out 1
                   go_wp2
                   repeat (go_quiet (fail);try go_wp2)
                   go_roundg k5
                   case measure => have := HK1.out;have := HJ10.out;have := HK3.out;have := HJ19.out;have := HK5.out;omega
                   case rel => exact ⟨(wrap64 (x6_5 + 1)),(by first | rfl | (simp;done) | (simp [*];done)),H',⟨by have := HK1.out;have := HJ10.out;have := HK3.out;have := HJ19.out;have := HK5.out;omega⟩,⟨BK663.out⟩,⟨BK668.out⟩,⟨pw_below_drewN HB.out _⟩⟩
end
end Go.Proofs.YtnnmnhpeblhiiaaGreatDoor.C

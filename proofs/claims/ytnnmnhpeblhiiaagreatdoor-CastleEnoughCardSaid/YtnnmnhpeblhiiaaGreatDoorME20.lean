/- A part of the proof: the walks of the functions that it reaches. TIGHT. -/
import Derived.Test.YtnnmnhpeblhiiaaGreatDoorME19
set_option linter.unusedVariables false
set_option linter.unusedSimpArgs false
namespace Go.Proofs.YtnnmnhpeblhiiaaGreatDoor.C
open Go.RowKit Go.Proofs.YtnnmnhpeblhiiaaGreatDoorW.PrintWords Go.Proofs.YtnnmnhpeblhiiaaGreatDoorW.PrintLast Go.Proofs.YtnnmnhpeblhiiaaGreatDoorW.PrintMore
set_option linter.unusedVariables false
set_option linter.unusedSimpArgs false
set_option maxHeartbeats 16000000
set_option maxRecDepth 100000
section
attribute [local go_sem] max2_int min2_int max_two min_two
mutual
def l4_CastleEnough.j0 : Nat → Int → Int → Int → Int → Bool → List (S27) → List (S66) → Option (Bool)
 | 0,_,_,_,_,_,_,_ => none
 | k + 1,x1,x2,x3,x4,x44,x778000,x778001 => if x44 = true then ((l4_known.f).bind fun t783 => (some t783)) else ((ca_Least.f k x778000 x778001 x1 x2 x3).bind fun bt784 => ((ca_Flow.f k x778000 x778001 x4).bind fun bt786 => (if bt786.2.2 = 0 then (if (bt786.1.length : Int) = (x778000.length : Int) then (if 0 ≤ x1 then (if x1 < (bt786.1.length : Int) then (if x1 < (x778000.length : Int) then (if ((rd_L3 bt786.1 x1).length : Int) = (((rd_T27 x778000 x1).f1).length : Int) then (if bt784.2 = 0 then (l4_CastleEnough.j1 k x1 x2 x3 x4 bt784.1 bt784.2 bt786.1 false x778000 x778001) else (l4_CastleEnough.j1 k x1 x2 x3 x4 bt784.1 bt784.2 bt786.1 (bt784.2 != 5) x778000 x778001)) else (l4_CastleEnough.j1 k x1 x2 x3 x4 bt784.1 bt784.2 bt786.1 true x778000 x778001)) else (none)) else (none)) else (none)) else (l4_CastleEnough.j1 k x1 x2 x3 x4 bt784.1 bt784.2 bt786.1 true x778000 x778001)) else (l4_CastleEnough.j1 k x1 x2 x3 x4 bt784.1 bt784.2 bt786.1 true x778000 x778001))))
def l4_CastleEnough.j1 : Nat → Int → Int → Int → Int → Int → Int → List (List Int) → Bool → List (S27) → List (S66) → Option (Bool)
 | 0,_,_,_,_,_,_,_,_,_,_ => none
 | k + 1,x1,x2,x3,x4,x11,x12,x13,x93,x778000,x778001 => if x93 = true then (none) else (if 0 ≤ x1 then (if x1 < (x13.length : Int) then (if 0 ≤ x2 then (if x2 < ((rd_L3 x13 x1).length : Int) then (if x12 = 0 then ((q4_Cups.f x11).bind fun t798 => (if t798 = true then (l4_CastleEnough.j2 k x1 x2 x3 x11 x13 ((decide ((rd (rd_L3 x13 x1) x2) ≥ x3)) != (decide (x4 ≥ x11))) x778000 x778001) else (l4_CastleEnough.j2 k x1 x2 x3 x11 x13 true x778000 x778001))) else (if ((rd (rd_L3 x13 x1) x2) ≥ x3) then (none) else ((l4_known.f).bind fun t797 => (some t797)))) else (none)) else (none)) else (none)) else (none))
def l4_CastleEnough.j2 : Nat → Int → Int → Int → Int → List (List Int) → Bool → List (S27) → List (S66) → Option (Bool)
 | 0,_,_,_,_,_,_,_,_ => none
 | k + 1,x1,x2,x3,x11,x13,x119,x778000,x778001 => if x119 = true then (none) else ((ca_Flow.f k x778000 x778001 x11).bind fun bt799 => (if bt799.2.2 = 0 then (if (bt799.1.length : Int) = (x13.length : Int) then (if 0 ≤ x1 then (if x1 < (bt799.1.length : Int) then (if x1 < (x13.length : Int) then (if ((rd_L3 bt799.1 x1).length : Int) = ((rd_L3 x13 x1).length : Int) then (if 0 ≤ x2 then (if x2 < ((rd_L3 bt799.1 x1).length : Int) then (if (rd (rd_L3 bt799.1 x1) x2) ≥ x3 then ((l4_known.f).bind fun t810 => (some t810)) else (none)) else (none)) else (none)) else (none)) else (none)) else (none)) else (none)) else (none)) else (none)))
end
def l4_CastleEnough.f (k : Nat) (l0_0 : List (S27)) (l0_1 : List (S66)) (a1 : Int) (a2 : Int) (a3 : Int) (a4 : Int) : Option (Bool) := (l4_brief.f k l0_0 l0_1).bind fun t778 => (if t778 = true then ((q4_Chain.f k l0_0 l0_1).bind fun t779 => (if t779 = true then ((q4_Nozzle.f l0_0 l0_1 a1 a2).bind fun t780 => (if t780 = true then ((q4_Cups.f a3).bind fun t781 => (if t781 = true then ((q4_Cups.f a4).bind fun t782 => (l4_CastleEnough.j0 k a1 a2 a3 a4 (!t782) l0_0 l0_1)) else (l4_CastleEnough.j0 k a1 a2 a3 a4 true l0_0 l0_1))) else (l4_CastleEnough.j0 k a1 a2 a3 a4 true l0_0 l0_1))) else (l4_CastleEnough.j0 k a1 a2 a3 a4 true l0_0 l0_1))) else (l4_CastleEnough.j0 k a1 a2 a3 a4 true l0_0 l0_1))
def l4_CastleEnough.T5 : Bool × List (List Nat × List Nat) := (true,[([],[]),([0],[0]),([1],[1]),([2],[2]),([3,2],[2,3]),([2],[2]),([5,2],[2,5]),([6,2],[2,6]),([4,7,2],[2,4,7]),([2,8],[2,8]),([9,2],[9]),([10],[10]),([10],[10]),([11,12,10],[10,11,12]),([13,10],[10,13]),([14,10],[10,14]),([10],[10]),([16,10],[10,16]),([10],[10]),([17,18,10],[10,17,18]),([19,10],[10,19]),([20,10],[10,20]),([21,10],[10,21]),([15,22,10],[10,15,22]),([10,23],[10,23]),([24,10],[24]),([25],[25]),([26,25],[25,26]),([27,25,25],[25,27]),([28],[28]),([29,28],[28,29]),([28,30,25],[25,28,30]),([25,31],[25,31])])
def l4_CastleEnough.B5 : List Nat := [0,1,3,7,15,7,39,103,255,511,1023,2047,2047,8191,16383,32767,2047,67583,2047,460799,985087,2033663,4130815,8388607,16777215,33554431,67108863,134217727,268435455,536870911,1073741823,2147483647,4294967295]
theorem l4_CastleEnough.tab5 : rtab .any (opsOf Tryz.f7 5) = l4_CastleEnough.T5 := by kernel_rfl
theorem l4_CastleEnough.bits5 : waitsOk l4_CastleEnough.T5.2 l4_CastleEnough.B5 = true := by kernel_rfl
def l4_CastleEnough.T13 : Bool × List (List Nat × List Nat) := (true,[([],[]),([0],[0]),([1],[1]),([2],[2]),([3,2],[2,3]),([2],[2]),([5,2],[2,5]),([4,6,2],[2,4,6]),([2,7],[2,7]),([8,2],[8]),([9],[9]),([9],[9]),([10,11,9],[9,10,11]),([12,9],[9,12]),([13,9],[9,13]),([9],[9]),([9],[9]),([15,16,9],[9,15,16]),([17,9],[9,17]),([18,9],[9,18]),([14,19,9],[9,14,19]),([9,20],[9,20]),([21,9],[21]),([22],[22]),([22],[22]),([23,24,22],[22,23,24]),([25,22],[22,25]),([22],[22]),([26,27,22],[22,26,27]),([28,22],[22,28]),([22],[22]),([29,30,22],[22,29,30]),([22,31],[22,31]),([32,22],[32]),([33,33],[33]),([33,34],[33,34]),([35,34,0,1,2,3,4,5,6,7,8,9,10,11,12,13,14,15,16,17,18,19,20,21,22,23,24,25,26,27,28,29,30,31,32,33,34,35],[35])])
def l4_CastleEnough.B13 : List Nat := [0,1,3,7,15,7,39,127,255,511,1023,1023,4095,8191,16383,1023,1023,99327,230399,492543,1048575,2097151,4194303,8388607,8388607,33554431,67108863,8388607,268435455,536870911,8388607,2147483647,4294967295,8589934591,17179869183,34359738367,68719476735]
theorem l4_CastleEnough.tab13 : rtab .any (opsOf Tryz.f7 13) = l4_CastleEnough.T13 := by kernel_rfl
theorem l4_CastleEnough.bits13 : waitsOk l4_CastleEnough.T13.2 l4_CastleEnough.B13 = true := by kernel_rfl
theorem l4_CastleEnough.j1_dead {k_ : Nat} {y0_} {y1_} {y2_} {y3_} {y4_} {y5_} {y6_} {y8_} {y9_} {r_ : Bool} : l4_CastleEnough.j1 k_ y0_ y1_ y2_ y3_ y4_ y5_ y6_ true y8_ y9_ ≠ some r_ := by cases k_ <;> simp [l4_CastleEnough.j1]
theorem l4_CastleEnough.calls (k : Nat) (A0_0 : Option Addr) (c0_0 : Nat) (l0_0 : List (S27)) (A0_1 : Option Addr) (c0_1 : Nat) (l0_1 : List (S66)) (a1 : Int) (a2 : Int) (a3 : Int) (a4 : Int) (r : Bool) (w : World) (hr0_0 : Kd.C k27 w A0_0 l0_0.length l0_0) (hc0_0 : l0_0.length ≤ c0_0) (hr0_1 : Kd.C k66 w A0_1 l0_1.length l0_1) (hc0_1 : l0_1.length ≤ c0_1) (h : l4_CastleEnough.f k l0_0 l0_1 a1 a2 a3 a4 = some r) :
 Calls Tryz.prog 7 #[.agg #[.slice A0_0 l0_0.length c0_0,.slice A0_1 l0_1.length c0_1],.int .i64 a1,.int .i64 a2,.int .i64 a3,.int .i64 a4] w fun e w' => e = .returned (.bool r) ∧ Below w.heap.size w w' := by
 have hu59 := Tryz.underlying59
 have HR0_0 := am hr0_0
 have HC0_0 := am hc0_0
 clear hr0_0 hc0_0
 have HR0_1 := am hr0_1
 have HC0_1 := am hc0_1
 clear hr0_1 hc0_1
 have HB := am (Below.refl w.heap.size w)
 have H : ((l4_brief.f k l0_0 l0_1).bind fun t778 => (if t778 = true then ((q4_Chain.f k l0_0 l0_1).bind fun t779 => (if t779 = true then ((q4_Nozzle.f l0_0 l0_1 a1 a2).bind fun t780 => (if t780 = true then ((q4_Cups.f a3).bind fun t781 => (if t781 = true then ((q4_Cups.f a4).bind fun t782 => (l4_CastleEnough.j0 k a1 a2 a3 a4 (!t782) l0_0 l0_1)) else (l4_CastleEnough.j0 k a1 a2 a3 a4 true l0_0 l0_1))) else (l4_CastleEnough.j0 k a1 a2 a3 a4 true l0_0 l0_1))) else (l4_CastleEnough.j0 k a1 a2 a3 a4 true l0_0 l0_1))) else (l4_CastleEnough.j0 k a1 a2 a3 a4 true l0_0 l0_1))) = some r := h
 clear h
 have HC6 := am H
 clear H
 go_enter Tryz.func7,Tryz.ntmps7
 go_upto_region 1 with (first | ((refine gate_dst (N := 5) rfl ?_);(try (refine gate_guard (by rfl) ?_;dsimp only));refine box_event rfl (N := 5) rfl (cs := #[.slice A0_0 l0_0.length c0_0,.slice A0_1 l0_1.length c0_1]) (t := 59) ?hr ?_;(case hr => go_simp;try rfl);intro gb777 hg w7 hbox hb;have BK777 := am (hbox);have GW777 := am (ge_new (HB.out) hg);have GE777 := am (ge_new (HB.out) hg);replace HB := am (below_step (HB.out) hb);clear hb hbox hg))
 (try simp only [Act.put,List.setIfInBounds_toArray,List.set_cons_zero,List.set_cons_succ])
 go_cut [44] (fun v44 wc => ∃ (kq : Nat) (x44_5 : Bool),v44 = .bool x44_5 ∧ Aside0 (l4_CastleEnough.j0 kq a1 a2 a3 a4 x44_5 l0_0 l0_1 = some r) ∧ Aside0 (kq ≤ k) ∧ Aside0 (wc.heap[gb777]? = some (.cells #[(.slice A0_0 l0_0.length c0_0),(.slice A0_1 l0_1.length c0_1)] 59 (0,0))) ∧ Aside0 (Below w.heap.size w wc))
 case first =>
  as_aux_lemma =>
   have H := HC6.out
   clear HC6
   replace H := obm H
   obtain ⟨t778,A80,H⟩ := H
   replace H : (if t778 = true then ((q4_Chain.f k l0_0 l0_1).bind fun t779 => (if t779 = true then ((q4_Nozzle.f l0_0 l0_1 a1 a2).bind fun t780 => (if t780 = true then ((q4_Cups.f a3).bind fun t781 => (if t781 = true then ((q4_Cups.f a4).bind fun t782 => (l4_CastleEnough.j0 k a1 a2 a3 a4 (!t782) l0_0 l0_1)) else (l4_CastleEnough.j0 k a1 a2 a3 a4 true l0_0 l0_1))) else (l4_CastleEnough.j0 k a1 a2 a3 a4 true l0_0 l0_1))) else (l4_CastleEnough.j0 k a1 a2 a3 a4 true l0_0 l0_1))) else (l4_CastleEnough.j0 k a1 a2 a3 a4 true l0_0 l0_1)) = some r := H
   have A8 := am A80
   clear A80
   by_cases c9 : t778 = true
   case neg =>
    replace c9 := Bool.eq_false_iff.mpr c9
    subst c9
    replace H : (l4_CastleEnough.j0 k a1 a2 a3 a4 true l0_0 l0_1) = some r := by rw [if_neg (show ¬ (false = true) by decide)] at H;exact H
    replace H' := am H
    obtain ⟨hcz39_0,hcz39_1⟩ := cO2 BK777.out
    go_wp2_with (first | ((with_reducible refine gate_callee (f := 30) rfl ?_);refine goesL_ (some 21) rfl rfl Tryz.func30 (by kernel_rfl) rfl #[.agg #[.slice A0_0 l0_0.length c0_0,.slice A0_1 l0_1.length c0_1]] rfl (by (try simp only [List.map_toArray,List.map_cons,List.map_nil]);first | done | rfl | (simp only [List.length_drop,List.length_take];rfl)) ?_;(with_reducible refine (l4_brief.calls k _ _ l0_0 _ _ l0_1 false _ ?side1 ?side2 ?side3 ?side4 A8.out).mono ?_);(case side1 => exact kC HR0_0.out HB.out);(case side2 => exact HC0_0.out);(case side3 => exact kC HR0_1.out HB.out);(case side4 => exact HC0_1.out);rintro e w40 ⟨rfl,hb⟩;refine ⟨_,rfl,?_⟩;replace BK777 := (kmv hb BK777);replace HB := am (below_step (HB.out) hb);(try clear hb);(try clear hb2);(try clear hk);(try clear hi)))
    go_meet
    case rel => exact ⟨_,(true),(by first | rfl | (simp;done) | (simp [*];done)),H',⟨by first | omega | exact Nat.le_refl _⟩,⟨BK777.out⟩,⟨HB.out⟩⟩
   as_aux_lemma =>
    subst c9
    replace H : ((q4_Chain.f k l0_0 l0_1).bind fun t779 => (if t779 = true then ((q4_Nozzle.f l0_0 l0_1 a1 a2).bind fun t780 => (if t780 = true then ((q4_Cups.f a3).bind fun t781 => (if t781 = true then ((q4_Cups.f a4).bind fun t782 => (l4_CastleEnough.j0 k a1 a2 a3 a4 (!t782) l0_0 l0_1)) else (l4_CastleEnough.j0 k a1 a2 a3 a4 true l0_0 l0_1))) else (l4_CastleEnough.j0 k a1 a2 a3 a4 true l0_0 l0_1))) else (l4_CastleEnough.j0 k a1 a2 a3 a4 true l0_0 l0_1))) = some r := by rw [if_pos rfl] at H;exact H
    replace H := obm H
    obtain ⟨t779,A100,H⟩ := H
    replace H : (if t779 = true then ((q4_Nozzle.f l0_0 l0_1 a1 a2).bind fun t780 => (if t780 = true then ((q4_Cups.f a3).bind fun t781 => (if t781 = true then ((q4_Cups.f a4).bind fun t782 => (l4_CastleEnough.j0 k a1 a2 a3 a4 (!t782) l0_0 l0_1)) else (l4_CastleEnough.j0 k a1 a2 a3 a4 true l0_0 l0_1))) else (l4_CastleEnough.j0 k a1 a2 a3 a4 true l0_0 l0_1))) else (l4_CastleEnough.j0 k a1 a2 a3 a4 true l0_0 l0_1)) = some r := H
    have A10 := am A100
    clear A100
    by_cases c11 : t779 = true
    case neg =>
     replace c11 := Bool.eq_false_iff.mpr c11
     subst c11
     replace H : (l4_CastleEnough.j0 k a1 a2 a3 a4 true l0_0 l0_1) = some r := by rw [if_neg (show ¬ (false = true) by decide)] at H;exact H
     replace H' := am H
     obtain ⟨hcz35_0,hcz35_1⟩ := cO2 BK777.out
     go_wp2_with (first | ((with_reducible refine gate_callee (f := 30) rfl ?_);refine goesL_ (some 21) rfl rfl Tryz.func30 (by kernel_rfl) rfl #[.agg #[.slice A0_0 l0_0.length c0_0,.slice A0_1 l0_1.length c0_1]] rfl (by (try simp only [List.map_toArray,List.map_cons,List.map_nil]);first | done | rfl | (simp only [List.length_drop,List.length_take];rfl)) ?_;(with_reducible refine (l4_brief.calls k _ _ l0_0 _ _ l0_1 true _ ?side1 ?side2 ?side3 ?side4 A8.out).mono ?_);(case side1 => exact kC HR0_0.out HB.out);(case side2 => exact HC0_0.out);(case side3 => exact kC HR0_1.out HB.out);(case side4 => exact HC0_1.out);rintro e w36 ⟨rfl,hb⟩;refine ⟨_,rfl,?_⟩;replace BK777 := (kmv hb BK777);replace HB := am (below_step (HB.out) hb);(try clear hb);(try clear hb2);(try clear hk);(try clear hi);obtain ⟨hcz37_0,hcz37_1⟩ := cO2 BK777.out) | (go_at_call 31;(with_reducible refine (q4_Chain.calls k _ _ l0_0 _ _ l0_1 false _ ?side1 ?side2 ?side3 ?side4 A10.out).mono ?_);(case side1 => exact kC HR0_0.out HB.out);(case side2 => exact HC0_0.out);(case side3 => exact kC HR0_1.out HB.out);(case side4 => exact HC0_1.out);rintro e w38 ⟨rfl,hb⟩;replace BK777 := (kmv hb BK777);replace HB := am (below_step (HB.out) hb);(try clear hb);(try clear hb2);(try clear hk);(try clear hi)))
     go_meet
     case rel => exact ⟨_,(true),(by first | rfl | (simp;done) | (simp [*];done)),H',⟨by first | omega | exact Nat.le_refl _⟩,⟨BK777.out⟩,⟨HB.out⟩⟩
    as_aux_lemma =>
     subst c11
     replace H : ((q4_Nozzle.f l0_0 l0_1 a1 a2).bind fun t780 => (if t780 = true then ((q4_Cups.f a3).bind fun t781 => (if t781 = true then ((q4_Cups.f a4).bind fun t782 => (l4_CastleEnough.j0 k a1 a2 a3 a4 (!t782) l0_0 l0_1)) else (l4_CastleEnough.j0 k a1 a2 a3 a4 true l0_0 l0_1))) else (l4_CastleEnough.j0 k a1 a2 a3 a4 true l0_0 l0_1))) = some r := by rw [if_pos rfl] at H;exact H
     replace H := obm H
     obtain ⟨t780,A120,H⟩ := H
     replace H : (if t780 = true then ((q4_Cups.f a3).bind fun t781 => (if t781 = true then ((q4_Cups.f a4).bind fun t782 => (l4_CastleEnough.j0 k a1 a2 a3 a4 (!t782) l0_0 l0_1)) else (l4_CastleEnough.j0 k a1 a2 a3 a4 true l0_0 l0_1))) else (l4_CastleEnough.j0 k a1 a2 a3 a4 true l0_0 l0_1)) = some r := H
     have A12 := am A120
     clear A120
     by_cases c13 : t780 = true
     case neg =>
      replace c13 := Bool.eq_false_iff.mpr c13
      subst c13
      replace H : (l4_CastleEnough.j0 k a1 a2 a3 a4 true l0_0 l0_1) = some r := by rw [if_neg (show ¬ (false = true) by decide)] at H;exact H
      replace H' := am H
      obtain ⟨hcz29_0,hcz29_1⟩ := cO2 BK777.out
      go_wp2_with (first | ((with_reducible refine gate_callee (f := 30) rfl ?_);refine goesL_ (some 21) rfl rfl Tryz.func30 (by kernel_rfl) rfl #[.agg #[.slice A0_0 l0_0.length c0_0,.slice A0_1 l0_1.length c0_1]] rfl (by (try simp only [List.map_toArray,List.map_cons,List.map_nil]);first | done | rfl | (simp only [List.length_drop,List.length_take];rfl)) ?_;(with_reducible refine (l4_brief.calls k _ _ l0_0 _ _ l0_1 true _ ?side1 ?side2 ?side3 ?side4 A8.out).mono ?_);(case side1 => exact kC HR0_0.out HB.out);(case side2 => exact HC0_0.out);(case side3 => exact kC HR0_1.out HB.out);(case side4 => exact HC0_1.out);rintro e w30 ⟨rfl,hb⟩;refine ⟨_,rfl,?_⟩;replace BK777 := (kmv hb BK777);replace HB := am (below_step (HB.out) hb);(try clear hb);(try clear hb2);(try clear hk);(try clear hi);obtain ⟨hcz31_0,hcz31_1⟩ := cO2 BK777.out) | (go_at_call 31;(with_reducible refine (q4_Chain.calls k _ _ l0_0 _ _ l0_1 true _ ?side1 ?side2 ?side3 ?side4 A10.out).mono ?_);(case side1 => exact kC HR0_0.out HB.out);(case side2 => exact HC0_0.out);(case side3 => exact kC HR0_1.out HB.out);(case side4 => exact HC0_1.out);rintro e w32 ⟨rfl,hb⟩;replace BK777 := (kmv hb BK777);replace HB := am (below_step (HB.out) hb);(try clear hb);(try clear hb2);(try clear hk);(try clear hi);obtain ⟨hcz33_0,hcz33_1⟩ := cO2 BK777.out) | (go_at_call 36;(with_reducible refine (q4_Nozzle.calls _ _ l0_0 _ _ l0_1 a1 a2 false _ ?side1 ?side2 ?side3 ?side4 A12.out).mono ?_);(case side1 => exact kC HR0_0.out HB.out);(case side2 => exact HC0_0.out);(case side3 => exact kC HR0_1.out HB.out);(case side4 => exact HC0_1.out);rintro e w34 ⟨rfl,hb⟩;replace BK777 := (kmv hb BK777);replace HB := am (below_step (HB.out) hb);(try clear hb);(try clear hb2);(try clear hk);(try clear hi)))
      go_meet
      case rel => exact ⟨_,(true),(by first | rfl | (simp;done) | (simp [*];done)),H',⟨by first | omega | exact Nat.le_refl _⟩,⟨BK777.out⟩,⟨HB.out⟩⟩
     as_aux_lemma =>
      subst c13
      replace H : ((q4_Cups.f a3).bind fun t781 => (if t781 = true then ((q4_Cups.f a4).bind fun t782 => (l4_CastleEnough.j0 k a1 a2 a3 a4 (!t782) l0_0 l0_1)) else (l4_CastleEnough.j0 k a1 a2 a3 a4 true l0_0 l0_1))) = some r := by rw [if_pos rfl] at H;exact H
      replace H := obm H
      obtain ⟨t781,A140,H⟩ := H
      replace H : (if t781 = true then ((q4_Cups.f a4).bind fun t782 => (l4_CastleEnough.j0 k a1 a2 a3 a4 (!t782) l0_0 l0_1)) else (l4_CastleEnough.j0 k a1 a2 a3 a4 true l0_0 l0_1)) = some r := H
      have A14 := am A140
      clear A140
      by_cases c15 : t781 = true
      case neg =>
       replace c15 := Bool.eq_false_iff.mpr c15
       subst c15
       replace H : (l4_CastleEnough.j0 k a1 a2 a3 a4 true l0_0 l0_1) = some r := by rw [if_neg (show ¬ (false = true) by decide)] at H;exact H
       replace H' := am H
       obtain ⟨hcz23_0,hcz23_1⟩ := cO2 BK777.out
       go_wp2_with (first | ((with_reducible refine gate_callee (f := 30) rfl ?_);refine goesL_ (some 21) rfl rfl Tryz.func30 (by kernel_rfl) rfl #[.agg #[.slice A0_0 l0_0.length c0_0,.slice A0_1 l0_1.length c0_1]] rfl (by (try simp only [List.map_toArray,List.map_cons,List.map_nil]);first | done | rfl | (simp only [List.length_drop,List.length_take];rfl)) ?_;(with_reducible refine (l4_brief.calls k _ _ l0_0 _ _ l0_1 true _ ?side1 ?side2 ?side3 ?side4 A8.out).mono ?_);(case side1 => exact kC HR0_0.out HB.out);(case side2 => exact HC0_0.out);(case side3 => exact kC HR0_1.out HB.out);(case side4 => exact HC0_1.out);rintro e w24 ⟨rfl,hb⟩;refine ⟨_,rfl,?_⟩;replace BK777 := (kmv hb BK777);replace HB := am (below_step (HB.out) hb);(try clear hb);(try clear hb2);(try clear hk);(try clear hi);obtain ⟨hcz25_0,hcz25_1⟩ := cO2 BK777.out) | (go_at_call 31;(with_reducible refine (q4_Chain.calls k _ _ l0_0 _ _ l0_1 true _ ?side1 ?side2 ?side3 ?side4 A10.out).mono ?_);(case side1 => exact kC HR0_0.out HB.out);(case side2 => exact HC0_0.out);(case side3 => exact kC HR0_1.out HB.out);(case side4 => exact HC0_1.out);rintro e w26 ⟨rfl,hb⟩;replace BK777 := (kmv hb BK777);replace HB := am (below_step (HB.out) hb);(try clear hb);(try clear hb2);(try clear hk);(try clear hi);obtain ⟨hcz27_0,hcz27_1⟩ := cO2 BK777.out) | (go_at_call 36;(with_reducible refine (q4_Nozzle.calls _ _ l0_0 _ _ l0_1 a1 a2 true _ ?side1 ?side2 ?side3 ?side4 A12.out).mono ?_);(case side1 => exact kC HR0_0.out HB.out);(case side2 => exact HC0_0.out);(case side3 => exact kC HR0_1.out HB.out);(case side4 => exact HC0_1.out);rintro e w28 ⟨rfl,hb⟩;replace BK777 := (kmv hb BK777);replace HB := am (below_step (HB.out) hb);(try clear hb);(try clear hb2);(try clear hk);(try clear hi)) | (go_at_call 17;(with_reducible refine (q4_Cups.calls a3 false _ A14.out).mono ?_);rintro e w' ⟨rfl,⟨nd,rfl⟩⟩))
       go_meet
       case rel => exact ⟨_,(true),(by first | rfl | (simp;done) | (simp [*];done)),H',⟨by first | omega | exact Nat.le_refl _⟩,⟨BK777.out⟩,⟨pw_below_drewN HB.out _⟩⟩
      subst c15
      replace H : ((q4_Cups.f a4).bind fun t782 => (l4_CastleEnough.j0 k a1 a2 a3 a4 (!t782) l0_0 l0_1)) = some r := by rw [if_pos rfl] at H;exact H
      replace H := obm H
      obtain ⟨t782,A160,H⟩ := H
      replace H : (l4_CastleEnough.j0 k a1 a2 a3 a4 (!t782) l0_0 l0_1) = some r := H
      have A16 := am A160
      clear A160
      replace H' := am H
      obtain ⟨hcz17_0,hcz17_1⟩ := cO2 BK777.out
      go_wp2_with (first | ((with_reducible refine gate_callee (f := 30) rfl ?_);refine goesL_ (some 21) rfl rfl Tryz.func30 (by kernel_rfl) rfl #[.agg #[.slice A0_0 l0_0.length c0_0,.slice A0_1 l0_1.length c0_1]] rfl (by (try simp only [List.map_toArray,List.map_cons,List.map_nil]);first | done | rfl | (simp only [List.length_drop,List.length_take];rfl)) ?_;(with_reducible refine (l4_brief.calls k _ _ l0_0 _ _ l0_1 true _ ?side1 ?side2 ?side3 ?side4 A8.out).mono ?_);(case side1 => exact kC HR0_0.out HB.out);(case side2 => exact HC0_0.out);(case side3 => exact kC HR0_1.out HB.out);(case side4 => exact HC0_1.out);rintro e w18 ⟨rfl,hb⟩;refine ⟨_,rfl,?_⟩;replace BK777 := (kmv hb BK777);replace HB := am (below_step (HB.out) hb);(try clear hb);(try clear hb2);(try clear hk);(try clear hi);obtain ⟨hcz19_0,hcz19_1⟩ := cO2 BK777.out) | (go_at_call 31;(with_reducible refine (q4_Chain.calls k _ _ l0_0 _ _ l0_1 true _ ?side1 ?side2 ?side3 ?side4 A10.out).mono ?_);(case side1 => exact kC HR0_0.out HB.out);(case side2 => exact HC0_0.out);(case side3 => exact kC HR0_1.out HB.out);(case side4 => exact HC0_1.out);rintro e w20 ⟨rfl,hb⟩;replace BK777 := (kmv hb BK777);replace HB := am (below_step (HB.out) hb);(try clear hb);(try clear hb2);(try clear hk);(try clear hi);obtain ⟨hcz21_0,hcz21_1⟩ := cO2 BK777.out) | (go_at_call 36;(with_reducible refine (q4_Nozzle.calls _ _ l0_0 _ _ l0_1 a1 a2 true _ ?side1 ?side2 ?side3 ?side4 A12.out).mono ?_);(case side1 => exact kC HR0_0.out HB.out);(case side2 => exact HC0_0.out);(case side3 => exact kC HR0_1.out HB.out);(case side4 => exact HC0_1.out);rintro e w22 ⟨rfl,hb⟩;replace BK777 := (kmv hb BK777);replace HB := am (below_step (HB.out) hb);(try clear hb);(try clear hb2);(try clear hk);(try clear hi)) | (go_at_call 17;(with_reducible refine (q4_Cups.calls a3 true _ A14.out).mono ?_);rintro e w' ⟨rfl,⟨nd,rfl⟩⟩) | (go_at_call 17;(with_reducible refine (q4_Cups.calls a4 t782 _ A16.out).mono ?_);rintro e w' ⟨rfl,⟨nd,rfl⟩⟩))
      go_meet
      case rel => exact ⟨_,(!t782),(by first | rfl | (simp;done) | (simp [*];done)),H',⟨by first | omega | exact Nat.le_refl _⟩,⟨BK777.out⟩,⟨pw_below_drewN HB.out _⟩⟩
 case rest =>
  as_aux_lemma =>
   clear HC6
   obtain ⟨kq,x44_5,rfl,HA,HJ5,BK777,HB⟩ := hcut
   cases kq with
   | zero => exact absurd HA.out (by simp [l4_CastleEnough.j0])
   | succ kj5 =>
    have H := HA.out
    clear HA
    simp only [l4_CastleEnough.j0] at H
    by_cases c41 : x44_5 = true
    · subst c41
      replace H : ((l4_known.f).bind fun t783 => (some t783)) = some r := by rw [if_pos rfl] at H;exact H
      replace H := obm H
      obtain ⟨t783,A420,H⟩ := H
      replace H : (some t783) = some r := H
      have A42 := am A420
      clear A420
      obtain rfl := Option.some.inj H
      go_wp2_with (first | ((with_reducible refine gate_callee (f := 19) rfl ?_);refine goesL_ (some 45) rfl rfl Tryz.func19 (by kernel_rfl) rfl #[] rfl (by (try simp only [List.map_toArray,List.map_cons,List.map_nil]);first | done | rfl | (simp only [List.length_drop,List.length_take];rfl)) ?_;(with_reducible refine (l4_known.calls  t783 _ A42.out).mono ?_);rintro e w43 ⟨rfl,hb⟩;refine ⟨_,rfl,?_⟩;replace BK777 := (kmv hb BK777);replace HB := am (below_step (HB.out) hb);(try clear hb);(try clear hb2);(try clear hk);(try clear hi)))
      go_ret
      exact ⟨by first | rfl | (simp [*] <;> rfl),HB.out⟩
    · as_aux_lemma =>
       replace c41 := Bool.eq_false_iff.mpr c41
       subst c41
       replace H : ((ca_Least.f kj5 l0_0 l0_1 a1 a2 a3).bind fun bt784 => ((ca_Flow.f kj5 l0_0 l0_1 a4).bind fun bt786 => (if bt786.2.2 = 0 then (if (bt786.1.length : Int) = (l0_0.length : Int) then (if 0 ≤ a1 then (if a1 < (bt786.1.length : Int) then (if a1 < (l0_0.length : Int) then (if ((rd_L3 bt786.1 a1).length : Int) = (((rd_T27 l0_0 a1).f1).length : Int) then (if bt784.2 = 0 then (l4_CastleEnough.j1 kj5 a1 a2 a3 a4 bt784.1 bt784.2 bt786.1 false l0_0 l0_1) else (l4_CastleEnough.j1 kj5 a1 a2 a3 a4 bt784.1 bt784.2 bt786.1 (bt784.2 != 5) l0_0 l0_1)) else (l4_CastleEnough.j1 kj5 a1 a2 a3 a4 bt784.1 bt784.2 bt786.1 true l0_0 l0_1)) else (none)) else (none)) else (none)) else (l4_CastleEnough.j1 kj5 a1 a2 a3 a4 bt784.1 bt784.2 bt786.1 true l0_0 l0_1)) else (l4_CastleEnough.j1 kj5 a1 a2 a3 a4 bt784.1 bt784.2 bt786.1 true l0_0 l0_1)))) = some r := by rw [if_neg (show ¬ (false = true) by decide)] at H;exact H
       replace H := obm H
       obtain ⟨⟨t784,t785⟩,A440,H⟩ := H
       replace H : ((ca_Flow.f kj5 l0_0 l0_1 a4).bind fun bt786 => (if bt786.2.2 = 0 then (if (bt786.1.length : Int) = (l0_0.length : Int) then (if 0 ≤ a1 then (if a1 < (bt786.1.length : Int) then (if a1 < (l0_0.length : Int) then (if ((rd_L3 bt786.1 a1).length : Int) = (((rd_T27 l0_0 a1).f1).length : Int) then (if t785 = 0 then (l4_CastleEnough.j1 kj5 a1 a2 a3 a4 t784 t785 bt786.1 false l0_0 l0_1) else (l4_CastleEnough.j1 kj5 a1 a2 a3 a4 t784 t785 bt786.1 (t785 != 5) l0_0 l0_1)) else (l4_CastleEnough.j1 kj5 a1 a2 a3 a4 t784 t785 bt786.1 true l0_0 l0_1)) else (none)) else (none)) else (none)) else (l4_CastleEnough.j1 kj5 a1 a2 a3 a4 t784 t785 bt786.1 true l0_0 l0_1)) else (l4_CastleEnough.j1 kj5 a1 a2 a3 a4 t784 t785 bt786.1 true l0_0 l0_1))) = some r := H
       have A44 := am A440
       clear A440
       replace H := obm H
       obtain ⟨⟨t786,t789,t792⟩,A450,H⟩ := H
       replace H : (if t792 = 0 then (if (t786.length : Int) = (l0_0.length : Int) then (if 0 ≤ a1 then (if a1 < (t786.length : Int) then (if a1 < (l0_0.length : Int) then (if ((rd_L3 t786 a1).length : Int) = (((rd_T27 l0_0 a1).f1).length : Int) then (if t785 = 0 then (l4_CastleEnough.j1 kj5 a1 a2 a3 a4 t784 t785 t786 false l0_0 l0_1) else (l4_CastleEnough.j1 kj5 a1 a2 a3 a4 t784 t785 t786 (t785 != 5) l0_0 l0_1)) else (l4_CastleEnough.j1 kj5 a1 a2 a3 a4 t784 t785 t786 true l0_0 l0_1)) else (none)) else (none)) else (none)) else (l4_CastleEnough.j1 kj5 a1 a2 a3 a4 t784 t785 t786 true l0_0 l0_1)) else (l4_CastleEnough.j1 kj5 a1 a2 a3 a4 t784 t785 t786 true l0_0 l0_1)) = some r := H
       have A45 := am A450
       clear A450
       have HC46 := am H
       clear H
       obtain ⟨hcz47_0,hcz47_1⟩ := cO2 BK777.out
       go_upto_region 5 with (first | ((with_reducible refine gate_callee (f := 35) rfl ?_);refine goesL_ (some 51) rfl rfl Tryz.func35 (by kernel_rfl) rfl #[.agg #[.slice A0_0 l0_0.length c0_0,.slice A0_1 l0_1.length c0_1],.int .i64 a1,.int .i64 a2,.int .i64 a3] rfl (by (try simp only [List.map_toArray,List.map_cons,List.map_nil]);first | done | rfl | (simp only [List.length_drop,List.length_take];rfl)) ?_;(with_reducible refine (ca_Least.calls kj5 _ _ l0_0 _ _ l0_1 a1 a2 a3 t784 t785 _ ?side1 ?side2 ?side3 ?side4 A44.out).mono ?_);(case side1 => exact kC HR0_0.out HB.out);(case side2 => exact HC0_0.out);(case side3 => exact kC HR0_1.out HB.out);(case side4 => exact HC0_1.out);rintro e w48 ⟨rfl,hb⟩;refine ⟨_,rfl,?_⟩;replace BK777 := (kmv hb BK777);replace HB := am (below_step (HB.out) hb);(try clear hb);(try clear hb2);(try clear hk);(try clear hi);obtain ⟨hcz49_0,hcz49_1⟩ := cO2 BK777.out) | ((with_reducible refine gate_callee (f := 32) rfl ?_);refine goesL_ (some 57) rfl rfl Tryz.func32 (by kernel_rfl) rfl #[.agg #[.slice A0_0 l0_0.length c0_0,.slice A0_1 l0_1.length c0_1],.int .i64 a4] rfl (by (try simp only [List.map_toArray,List.map_cons,List.map_nil]);first | done | rfl | (simp only [List.length_drop,List.length_take];rfl)) ?_;(with_reducible refine (ca_Flow.calls kj5 _ _ l0_0 _ _ l0_1 a4 t786 t789 t792 _ ?side1 ?side2 ?side3 ?side4 A45.out).mono ?_);(case side1 => exact kC HR0_0.out HB.out);(case side2 => exact HC0_0.out);(case side3 => exact kC HR0_1.out HB.out);(case side4 => exact HC0_1.out);rintro e w50 ⟨v787,v790,rfl,ho0,ho1,hb⟩;refine ⟨_,rfl,?_⟩;have HO788 := am (Kd.N_lower (Kd.N_mono (ok' := fun k_ => some k_ ≠ (v790 : Value).ownBlock ∧ k_ ≠ gb777) (N_swapB ho0) (fun k_ hk_ => ⟨hk_.1,(Kd.freshB (g := gb777) (o := .cells #[.slice A0_0 l0_0.length c0_0,.slice A0_1 l0_1.length c0_1] 59 (0,0)) BK777.out k_ hk_.2.1)⟩)) (below_size (HB.out)));have HO791 := am (Kd.R_lower ho1 (below_size (HB.out)));replace BK777 := (kmv hb BK777);replace HB := am (below_step (HB.out) hb);(try clear hb);(try clear hb2);(try clear hk);(try clear hi);(try clear ho0);(try clear ho1)))
       (try simp only [Act.put,List.setIfInBounds_toArray,List.set_cons_zero,List.set_cons_succ])
       go_cut [93] (fun v93 wc => ∃ (kq : Nat) (x93_45 : Bool),v93 = .bool x93_45 ∧ Aside0 (l4_CastleEnough.j1 kq a1 a2 a3 a4 t784 t785 t786 x93_45 l0_0 l0_1 = some r) ∧ Aside0 (kq ≤ kj5) ∧ Aside0 (Kd.N (Kd.slice 3 (Kd.int .i64)) 28 wc w.heap.size (fun k_ => k_ ≠ gb777) v787 t786) ∧ Aside0 (wc.heap[gb777]? = some (.cells #[(.slice A0_0 l0_0.length c0_0),(.slice A0_1 l0_1.length c0_1)] 59 (0,0))) ∧ Aside0 (Below w.heap.size w wc))
       case first =>
        as_aux_lemma =>
         have H := HC46.out
         clear HC46
         by_cases c51 : t792 = 0
         case neg =>
          as_aux_lemma =>
           rw [if_neg c51] at H
           exact absurd H l4_CastleEnough.j1_dead
         as_aux_lemma =>
          rw [if_pos c51] at H
          have c51b0 : (t792 == 0) = true := beq_iff_eq.mpr c51
          have c51b1 : (t792 != 0) = false := bne_eq_false_iff_eq.mpr c51
          clear c51
          (first | rw [c51b0] | (simp only [i64_w,i32_w];rw [c51b0]) | skip)
          by_cases c52 : (t786.length : Int) = (l0_0.length : Int)
          case neg =>
           as_aux_lemma =>
            rw [if_neg c52] at H
            exact absurd H l4_CastleEnough.j1_dead
          as_aux_lemma =>
           rw [if_pos c52] at H
           have c52b0 : ((t786.length : Int) == (l0_0.length : Int)) = true := beq_iff_eq.mpr c52
           have c52b1 : ((t786.length : Int) != (l0_0.length : Int)) = false := bne_eq_false_iff_eq.mpr c52
           have c52b2 : (t786.length == l0_0.length) = true := by first | simpa using c52 | (simp at c52 ⊢;omega)
           clear c52
           by_cases c53 : 0 ≤ a1
           case neg =>
            rw [if_neg c53] at H
            exact absurd H (by simp)
           as_aux_lemma =>
            rw [if_pos c53] at H
            have c53b0 : decide (0 ≤ a1) = true := decide_eq_true c53
            clear c53
            by_cases c54 : a1 < (t786.length : Int)
            case neg =>
             rw [if_neg c54] at H
             exact absurd H (by simp)
            as_aux_lemma =>
             rw [if_pos c54] at H
             have c54b0 : decide (a1 < (t786.length : Int)) = true := decide_eq_true c54
             clear c54
             by_cases c55 : a1 < (l0_0.length : Int)
             case neg =>
              rw [if_neg c55] at H
              exact absurd H (by simp)
             as_aux_lemma =>
              rw [if_pos c55] at H
              have c55b0 : decide (a1 < (l0_0.length : Int)) = true := decide_eq_true c55
              clear c55
              by_cases c56 : ((rd_L3 t786 a1).length : Int) = (((rd_T27 l0_0 a1).f1).length : Int)
              case neg =>
               as_aux_lemma =>
                rw [if_neg c56] at H
                exact absurd H l4_CastleEnough.j1_dead
              as_aux_lemma =>
               rw [if_pos c56] at H
               have c56b0 : (((rd_L3 t786 a1).length : Int) == (((rd_T27 l0_0 a1).f1).length : Int)) = true := beq_iff_eq.mpr c56
               have c56b1 : (((rd_L3 t786 a1).length : Int) != (((rd_T27 l0_0 a1).f1).length : Int)) = false := bne_eq_false_iff_eq.mpr c56
               have c56b2 : ((rd_L3 t786 a1).length == ((rd_T27 l0_0 a1).f1).length) = true := by first | simpa using c56 | (simp at c56 ⊢;omega)
               clear c56
               by_cases c57 : t785 = 0
               · as_aux_lemma =>
                  rw [if_pos c57] at H
                  have c57b0 : (t785 == 0) = true := beq_iff_eq.mpr c57
                  have c57b1 : (t785 != 0) = false := bne_eq_false_iff_eq.mpr c57
                  clear c57
                  replace H' := am H
                  try go_wp2
                  replace HO788 := am (Kd.N_drew HO788.out)
                  replace HO791 := am (Kd.R_drew HO791.out)
                  replace BK777 := am (blk_drew BK777.out)
                  replace HB := am (below_drew1 HB.out)
                  obtain ⟨Ao59,co59,eo59⟩ := Kd.N_slice HO788.out
                  (first | subst eo59 | (injection eo59 with f1_ f2_ f3_;have f4_ := f1_.symm;have f5_ := f3_.symm;clear f1_ f2_ f3_;subst f4_;subst f5_))
                  have p793 : 0 ≤ (a1 : Int) := of_decide_eq_true (by assumption)
                  have q793 : a1 < (t786.length : Int) := of_decide_eq_true (by assumption)
                  obtain ⟨ad793,A793_0,c793_0,e793,hx793_0,hl793_0,hi793_0⟩ := at_L3 (Kd.N_reads' HO788.out).2.2 a1 p793 q793
                  cases e793
                  obtain ⟨ce793,hce793,hMe793,hcc793⟩ := Kd.N_get HO788.out [] a1 p793 (by first | exact q793 | exact of_decide_eq_true (by assumption) | (have e_ := (Kd.N_reads' HO788.out).1;omega))
                  obtain ⟨ua793_0,uc793_0,rfl,ul793_0,ge793_0⟩ := Kd.FK_slice_open hMe793
                  have hv793_0 := hcc793 0 _ rfl
                  rw [Nat.add_zero,show ((Kd.slice 3 (Kd.int .i64))).sz = 1 from rfl,Nat.mul_one] at hv793_0
                  replace hv793_0 := Option.some.inj (hv793_0.symm.trans hx793_0)
                  injection hv793_0 with hva_ hvn_ hvc_
                  rw [hva_] at ge793_0
                  rw [hvc_] at ul793_0
                  have HL793_0 := am (show Kd.V (Kd.int .i64) 3 _ w.heap.size _ _ (rd_L3 t786 a1) from Kd.V_mk ul793_0 ge793_0)
                  clear hva_ hvn_ hvc_ ge793_0 ul793_0
                  clear hcc793 hce793
                  have HR793_0 := am hi793_0
                  have HC793_0 := am hl793_0
                  clear hi793_0 hl793_0
                  replace p793 := eq_true p793
                  replace q793 := eq_true q793
                  have p794 : 0 ≤ (a1 : Int) := of_decide_eq_true (by assumption)
                  have q794 : a1 < (l0_0.length : Int) := of_decide_eq_true (by assumption)
                  obtain ⟨ad794,A794_0,c794_0,A794_2,c794_2,e794,hx794_0,hx794_1,hx794_2,hx794_3,hx794_4,hl794_0,hi794_0,hl794_2,hi794_2⟩ := at_T27 HR0_0.out a1 p794 q794
                  have hw794_4 := hx794_4
                  have hw794_3 := hx794_3
                  have hw794_2 := hx794_2
                  have hw794_1 := hx794_1
                  have hw794_0 := hx794_0
                  cases e794
                  replace hx794_0 := (HB.out.cell (wbl hx794_0)).trans hx794_0
                  replace hx794_1 := (HB.out.cell (wbl hx794_1)).trans hx794_1
                  replace hx794_2 := (HB.out.cell (wbl hx794_2)).trans hx794_2
                  replace hx794_3 := (HB.out.cell (wbl hx794_3)).trans hx794_3
                  replace hx794_4 := (HB.out.cell (wbl hx794_4)).trans hx794_4
                  have HR794_0 := am hi794_0
                  have HC794_0 := am hl794_0
                  clear hi794_0 hl794_0
                  have HR794_2 := am hi794_2
                  have HC794_2 := am hl794_2
                  clear hi794_2 hl794_2
                  replace p794 := eq_true p794
                  replace q794 := eq_true q794
                  refine start_ (n := 33) (S := fun w' => w'.cell? ⟨gb777,0,none⟩ = some (.slice (some ad794) l0_0.length c0_0) ∧ w'.cell? ⟨gb777,1,none⟩ = some (.slice A0_1 l0_1.length c0_1) ∧ w'.cell? (ad793.add (a1).toNat) = some (.slice A793_0 (rd_L3 t786 a1).length c793_0) ∧ w'.cell? (ad794.add ((a1).toNat * 5)) = some (.slice A794_0 ((rd_T27 l0_0 a1).f0.f0).length c794_0) ∧ w'.cell? ⟨(ad794.add ((a1).toNat * 5)).block,(ad794.add ((a1).toNat * 5)).off + 1,none⟩ = some (.int .i64 ((rd_T27 l0_0 a1).f0.f1)) ∧ w'.cell? ⟨(ad794.add ((a1).toNat * 5)).block,(ad794.add ((a1).toNat * 5)).off + 2,none⟩ = some (.slice A794_2 ((rd_T27 l0_0 a1).f1).length c794_2) ∧ w'.cell? ⟨(ad794.add ((a1).toNat * 5)).block,(ad794.add ((a1).toNat * 5)).off + 3,none⟩ = some (.int .i64 ((rd_T27 l0_0 a1).f2)) ∧ w'.cell? ⟨(ad794.add ((a1).toNat * 5)).block,(ad794.add ((a1).toNat * 5)).off + 4,none⟩ = some (.int .i64 ((rd_T27 l0_0 a1).f3))) (ds := []) (ba 33 0) (by kernel_rfl) rfl rfl ⟨(blk_cell BK777.out 0).trans rfl,(blk_cell BK777.out 1).trans rfl,hx793_0,((HB.out.cell (wbl hw794_0)).trans hw794_0),((HB.out.cell (wbl hw794_1)).trans hw794_1),((HB.out.cell (wbl hw794_2)).trans hw794_2),((HB.out.cell (wbl hw794_3)).trans hw794_3),((HB.out.cell (wbl hw794_4)).trans hw794_4)⟩ (fun hHeld => ?_);refine with_tabW l4_CastleEnough.tab5 l4_CastleEnough.bits5 (fun HT_ HW_ => ?_)
                  generalize w50.drew = w58 at HO788 HO791 BK777 HB HL793_0 HR793_0 HR794_0 HR794_2 hx793_0 hx794_0 hx794_1 hx794_2 hx794_3 hx794_4 hHeld ⊢
                  refine pure_ (i := 0) (N := some 61) (v := ?_) (a' := ?_) (ba 33 1) rfl rfl (any_of HT_.out (by kernel_rfl)) (fun _ _ _ h => h) (Or.inl ⟨by rfl,?_⟩) ?_ ?_
                  rotate_left
                  · intro w'
                    go_simp
                    with_reducible rfl
                  rotate_left
                  · simp only [Act.put,NRM]
                    rfl
                  refine pure_ (i := 1) (N := some 62) (v := ?_) (a' := ?_) (ba 33 3) rfl rfl (any_of HT_.out (by kernel_rfl)) (fun _ _ _ h => h) (Or.inl ⟨by rfl,?_⟩) ?_ ?_
                  rotate_left
                  · intro w'
                    go_simp
                    with_reducible rfl
                  rotate_left
                  · simp only [Act.put,NRM]
                    rfl
                  refine pure_ (i := 2) (N := some 63) (v := ?_) (a' := ?_) (ba 33 7) rfl rfl (any_of HT_.out (by kernel_rfl)) (fun _ _ _ h => h) (Or.inl ⟨by rfl,?_⟩) ?_ ?_
                  rotate_left
                  · intro w'
                    go_simp
                    with_reducible rfl
                  rotate_left
                  · simp only [Act.put,NRM]
                    rfl
                  refine pure_ (i := 3) (N := some 64) (v := ?_) (a' := ?_) (ba 33 15) rfl rfl (any_of HT_.out (by kernel_rfl)) (fun _ _ _ h => h) (Or.inl ⟨by rfl,?_⟩) ?_ ?_
                  rotate_left
                  · intro w'
                    go_simp
                    with_reducible rfl
                  rotate_left
                  · simp only [Act.put,NRM]
                    rfl
                  refine pure_ (i := 4) (N := some 65) (v := ?_) (a' := ?_) (ba 33 31) rfl rfl (any_of HT_.out (by kernel_rfl)) (fun _ _ _ h => h) (Or.inl ⟨by rfl,?_⟩) ?_ ?_
                  rotate_left
                  · intro w'
                    go_simp
                    with_reducible rfl
                  rotate_left
                  · simp only [Act.put,NRM]
                    rfl
                  refine pure_ (i := 5) (N := some 66) (v := ?_) (a' := ?_) (ba 33 63) rfl rfl (any_of HT_.out (by kernel_rfl)) (fun _ _ _ h => h) (Or.inl ⟨by rfl,?_⟩) ?_ ?_
                  rotate_left
                  · intro w'
                    go_simp
                    with_reducible rfl
                  rotate_left
                  · simp only [Act.put,NRM]
                    rfl
                  refine take_ (i := 6) (N := some 67) (v := ?_) (a' := ?_) (ba 33 127) rfl rfl (take_ofW HT_.out HW_.out (by kernel_rfl)) (fun _ _ _ h => h) (Or.inl ⟨by rfl,?_⟩) hHeld ?_ ?_
                  rotate_left
                  · rintro w' ⟨s0,s1,s2,s3,s4,s5,s6,s7⟩
                    go_simp
                    with_reducible rfl
                  rotate_left
                  · simp only [Act.put,NRM]
                    rfl
                  refine pure_ (i := 7) (N := some 68) (v := ?_) (a' := ?_) (ba 33 255) rfl rfl (any_of HT_.out (by kernel_rfl)) (fun _ _ _ h => h) (Or.inl ⟨by rfl,?_⟩) ?_ ?_
                  rotate_left
                  · intro w'
                    go_simp
                    with_reducible rfl
                  rotate_left
                  · simp only [Act.put,NRM]
                    rfl
                  refine pure_ (i := 8) (N := some 69) (v := ?_) (a' := ?_) (ba 33 511) rfl rfl (any_of HT_.out (by kernel_rfl)) (fun _ _ _ h => h) (Or.inl ⟨by rfl,?_⟩) ?_ ?_
                  rotate_left
                  · intro w'
                    go_simp
                    with_reducible rfl
                  rotate_left
                  · simp only [Act.put,NRM]
                    rfl
                  refine pure_ (i := 9) (N := some 70) (v := ?_) (a' := ?_) (ba 33 1023) rfl rfl (any_of HT_.out (by kernel_rfl)) (fun _ _ _ h => h) (Or.inl ⟨by rfl,?_⟩) ?_ ?_
                  rotate_left
                  · intro w'
                    go_simp
                    with_reducible rfl
                  rotate_left
                  · simp only [Act.put,NRM]
                    rfl
                  refine pure_ (i := 10) (N := some 71) (v := ?_) (a' := ?_) (ba 33 2047) rfl rfl (any_of HT_.out (by kernel_rfl)) (fun _ _ _ h => h) (Or.inl ⟨by rfl,?_⟩) ?_ ?_
                  rotate_left
                  · intro w'
                    go_simp
                    with_reducible rfl
                  rotate_left
                  · simp only [Act.put,NRM]
                    rfl
                  refine pure_ (i := 11) (N := some 72) (v := ?_) (a' := ?_) (ba 33 4095) rfl rfl (any_of HT_.out (by kernel_rfl)) (fun _ _ _ h => h) (Or.inl ⟨by rfl,?_⟩) ?_ ?_
                  rotate_left
                  · intro w'
                    go_simp
                    with_reducible rfl
                  rotate_left
                  · simp only [Act.put,NRM]
                    rfl
                  refine pure_ (i := 12) (N := some 73) (v := ?_) (a' := ?_) (ba 33 8191) rfl rfl (any_of HT_.out (by kernel_rfl)) (fun _ _ _ h => h) (Or.inl ⟨by rfl,?_⟩) ?_ ?_
                  rotate_left
                  · intro w'
                    go_simp
                    with_reducible rfl
                  rotate_left
                  · simp only [Act.put,NRM]
                    rfl
                  refine pure_ (i := 13) (N := some 74) (v := ?_) (a' := ?_) (ba 33 16383) rfl rfl (any_of HT_.out (by kernel_rfl)) (fun _ _ _ h => h) (Or.inl ⟨by rfl,?_⟩) ?_ ?_
                  rotate_left
                  · intro w'
                    go_simp
                    with_reducible rfl
                  rotate_left
                  · simp only [Act.put,NRM]
                    rfl
                  refine pure_ (i := 16) (N := some 77) (v := ?_) (a' := ?_) (ba 33 81919) rfl rfl (any_of HT_.out (by kernel_rfl)) (fun _ _ _ h => h) (Or.inl ⟨by rfl,?_⟩) ?_ ?_
                  rotate_left
                  · intro w'
                    go_simp
                    with_reducible rfl
                  rotate_left
                  · simp only [Act.put,NRM]
                    rfl
                  refine pure_ (i := 18) (N := some 79) (v := ?_) (a' := ?_) (ba 33 344063) rfl rfl (any_of HT_.out (by kernel_rfl)) (fun _ _ _ h => h) (Or.inl ⟨by rfl,?_⟩) ?_ ?_
                  rotate_left
                  · intro w'
                    go_simp
                    with_reducible rfl
                  rotate_left
                  · simp only [Act.put,NRM]
                    rfl
                  refine take_ (i := 14) (N := some 75) (v := ?_) (a' := ?_) (ba 33 360447) rfl rfl (take_ofW HT_.out HW_.out (by kernel_rfl)) (fun _ _ _ h => h) (Or.inl ⟨by rfl,?_⟩) hHeld ?_ ?_
                  rotate_left
                  · rintro w' ⟨s0,s1,s2,s3,s4,s5,s6,s7⟩
                    go_simp
                    with_reducible rfl
                  rotate_left
                  · simp only [Act.put,NRM]
                    rfl
                  refine pure_ (i := 15) (N := some 76) (v := ?_) (a' := ?_) (ba 33 393215) rfl rfl (any_of HT_.out (by kernel_rfl)) (fun _ _ _ h => h) (Or.inl ⟨by rfl,?_⟩) ?_ ?_
                  rotate_left
                  · intro w'
                    go_simp
                    with_reducible rfl
                  rotate_left
                  · simp only [Act.put,NRM]
                    rfl
                  refine take_ (i := 17) (N := some 78) (v := ?_) (a' := ?_) (ba 33 524287) rfl rfl (take_ofW HT_.out HW_.out (by kernel_rfl)) (fun _ _ _ h => h) (Or.inl ⟨by rfl,?_⟩) hHeld ?_ ?_
                  rotate_left
                  · rintro w' ⟨s0,s1,s2,s3,s4,s5,s6,s7⟩
                    go_simp
                    with_reducible rfl
                  rotate_left
                  · simp only [Act.put,NRM]
                    rfl
                  refine pure_ (i := 19) (N := some 80) (v := ?_) (a' := ?_) (ba 33 1048575) rfl rfl (any_of HT_.out (by kernel_rfl)) (fun _ _ _ h => h) (Or.inl ⟨by rfl,?_⟩) ?_ ?_
                  rotate_left
                  · intro w'
                    go_simp
                    with_reducible rfl
                  rotate_left
                  · simp only [Act.put,NRM]
                    rfl
                  refine pure_ (i := 20) (N := some 81) (v := ?_) (a' := ?_) (ba 33 2097151) rfl rfl (any_of HT_.out (by kernel_rfl)) (fun _ _ _ h => h) (Or.inl ⟨by rfl,?_⟩) ?_ ?_
                  rotate_left
                  · intro w'
                    go_simp
                    with_reducible rfl
                  rotate_left
                  · simp only [Act.put,NRM]
                    rfl
                  refine take_ (i := 21) (N := some 82) (v := ?_) (a' := ?_) (ba 33 4194303) rfl rfl (take_ofW HT_.out HW_.out (by kernel_rfl)) (fun _ _ _ h => h) (Or.inl ⟨by rfl,?_⟩) hHeld ?_ ?_
                  rotate_left
                  · rintro w' ⟨s0,s1,s2,s3,s4,s5,s6,s7⟩
                    go_simp
                    with_reducible rfl
                  rotate_left
                  · simp only [Act.put,NRM]
                    rfl
                  refine pure_ (i := 22) (N := some 83) (v := ?_) (a' := ?_) (ba 33 8388607) rfl rfl (any_of HT_.out (by kernel_rfl)) (fun _ _ _ h => h) (Or.inl ⟨by rfl,?_⟩) ?_ ?_
                  rotate_left
                  · intro w'
                    go_simp
                    with_reducible rfl
                  rotate_left
                  · simp only [Act.put,NRM]
                    rfl
                  refine pure_ (i := 23) (N := some 84) (v := ?_) (a' := ?_) (ba 33 16777215) rfl rfl (any_of HT_.out (by kernel_rfl)) (fun _ _ _ h => h) (Or.inl ⟨by rfl,?_⟩) ?_ ?_
                  rotate_left
                  · intro w'
                    go_simp
                    with_reducible rfl
                  rotate_left
                  · simp only [Act.put,NRM]
                    rfl
                  refine pure_ (i := 24) (N := some 85) (v := ?_) (a' := ?_) (ba 33 33554431) rfl rfl (any_of HT_.out (by kernel_rfl)) (fun _ _ _ h => h) (Or.inl ⟨by rfl,?_⟩) ?_ ?_
                  rotate_left
                  · intro w'
                    go_simp
                    with_reducible rfl
                  rotate_left
                  · simp only [Act.put,NRM]
                    rfl
                  refine pure_ (i := 25) (N := some 86) (v := ?_) (a' := ?_) (ba 33 67108863) rfl rfl (any_of HT_.out (by kernel_rfl)) (fun _ _ _ h => h) (Or.inl ⟨by rfl,?_⟩) ?_ ?_
                  rotate_left
                  · intro w'
                    go_simp
                    with_reducible rfl
                  rotate_left
                  · simp only [Act.put,NRM]
                    rfl
                  refine pure_ (i := 26) (N := some 87) (v := ?_) (a' := ?_) (ba 33 134217727) rfl rfl (any_of HT_.out (by kernel_rfl)) (fun _ _ _ h => h) (Or.inl ⟨by rfl,?_⟩) ?_ ?_
                  rotate_left
                  · intro w'
                    go_simp
                    with_reducible rfl
                  rotate_left
                  · simp only [Act.put,NRM]
                    rfl
                  refine pure_ (i := 27) (N := some 88) (v := ?_) (a' := ?_) (ba 33 268435455) rfl rfl (any_of HT_.out (by kernel_rfl)) (fun _ _ _ h => h) (Or.inl ⟨by rfl,?_⟩) ?_ ?_
                  rotate_left
                  · intro w'
                    go_simp
                    with_reducible rfl
                  rotate_left
                  · simp only [Act.put,NRM]
                    rfl
                  refine pure_ (i := 28) (N := some 89) (v := ?_) (a' := ?_) (ba 33 536870911) rfl rfl (any_of HT_.out (by kernel_rfl)) (fun _ _ _ h => h) (Or.inl ⟨by rfl,?_⟩) ?_ ?_
                  rotate_left
                  · intro w'
                    go_simp
                    with_reducible rfl
                  rotate_left
                  · simp only [Act.put,NRM]
                    rfl
                  refine pure_ (i := 29) (N := some 90) (v := undef) (a' := ?_) (ba 33 1073741823) rfl rfl (any_of HT_.out (by kernel_rfl)) (fun _ _ _ h => h) (Or.inr ⟨by rfl,rfl⟩) ?_ ?_
                  rotate_left
                  · simp only [Act.put,NRM]
                    rfl
                  refine pure_ (i := 30) (N := some 91) (v := undef) (a' := ?_) (ba 33 2147483647) rfl rfl (any_of HT_.out (by kernel_rfl)) (fun _ _ _ h => h) (Or.inr ⟨by rfl,rfl⟩) ?_ ?_
                  rotate_left
                  · simp only [Act.put,NRM]
                    rfl
                  refine pure_ (i := 31) (N := some 92) (v := ?_) (a' := ?_) (ba 33 4294967295) rfl rfl (any_of HT_.out (by kernel_rfl)) (fun _ _ _ h => h) (Or.inl ⟨by rfl,?_⟩) ?_ ?_
                  rotate_left
                  · intro w'
                    go_simp
                    with_reducible rfl
                  rotate_left
                  · simp only [Act.put,NRM]
                    rfl
                  refine pure_ (i := 32) (N := some 93) (v := ?_) (a' := ?_) (ba 33 8589934591) rfl rfl (any_of HT_.out (by kernel_rfl)) (fun _ _ _ h => h) (Or.inl ⟨by rfl,?_⟩) ?_ ?_
                  rotate_left
                  · intro w'
                    go_simp
                    with_reducible rfl
                  rotate_left
                  · simp only [Act.put,NRM]
                    rfl
                  refine done_ (done_of HT_.out (by kernel_rfl)) ?_
                  try go_wp2
                  go_meet
                  case rel => exact ⟨_,(false),(by first | rfl | (simp;done) | (simp [*];done)),H',⟨by have := HJ5.out;first | omega | exact Nat.le_refl _⟩,⟨by (with_reducible repeat (first | apply Kd.N_alloc | apply Kd.N_drewN | apply Kd.N_drew));exact Kd.N_mono HO788.out (fun _ hk => hk.2)⟩,⟨BK777.out⟩,⟨HB.out⟩⟩
               · as_aux_lemma =>
                  rw [if_neg c57] at H
                  have c57b0 : (t785 == 0) = false := beq_eq_false_iff_ne.mpr c57
                  have c57b1 : (t785 != 0) = true := bne_iff_ne.mpr c57
                  replace H' := am H
                  try go_wp2
                  replace HO788 := am (Kd.N_drew HO788.out)
                  replace HO791 := am (Kd.R_drew HO791.out)
                  replace BK777 := am (blk_drew BK777.out)
                  replace HB := am (below_drew1 HB.out)
                  obtain ⟨Ao61,co61,eo61⟩ := Kd.N_slice HO788.out
                  (first | subst eo61 | (injection eo61 with f1_ f2_ f3_;have f4_ := f1_.symm;have f5_ := f3_.symm;clear f1_ f2_ f3_;subst f4_;subst f5_))
                  have p793 : 0 ≤ (a1 : Int) := of_decide_eq_true (by assumption)
                  have q793 : a1 < (t786.length : Int) := of_decide_eq_true (by assumption)
                  obtain ⟨ad793,A793_0,c793_0,e793,hx793_0,hl793_0,hi793_0⟩ := at_L3 (Kd.N_reads' HO788.out).2.2 a1 p793 q793
                  cases e793
                  obtain ⟨ce793,hce793,hMe793,hcc793⟩ := Kd.N_get HO788.out [] a1 p793 (by first | exact q793 | exact of_decide_eq_true (by assumption) | (have e_ := (Kd.N_reads' HO788.out).1;omega))
                  obtain ⟨ua793_0,uc793_0,rfl,ul793_0,ge793_0⟩ := Kd.FK_slice_open hMe793
                  have hv793_0 := hcc793 0 _ rfl
                  rw [Nat.add_zero,show ((Kd.slice 3 (Kd.int .i64))).sz = 1 from rfl,Nat.mul_one] at hv793_0
                  replace hv793_0 := Option.some.inj (hv793_0.symm.trans hx793_0)
                  injection hv793_0 with hva_ hvn_ hvc_
                  rw [hva_] at ge793_0
                  rw [hvc_] at ul793_0
                  have HL793_0 := am (show Kd.V (Kd.int .i64) 3 _ w.heap.size _ _ (rd_L3 t786 a1) from Kd.V_mk ul793_0 ge793_0)
                  clear hva_ hvn_ hvc_ ge793_0 ul793_0
                  clear hcc793 hce793
                  have HR793_0 := am hi793_0
                  have HC793_0 := am hl793_0
                  clear hi793_0 hl793_0
                  replace p793 := eq_true p793
                  replace q793 := eq_true q793
                  have p794 : 0 ≤ (a1 : Int) := of_decide_eq_true (by assumption)
                  have q794 : a1 < (l0_0.length : Int) := of_decide_eq_true (by assumption)
                  obtain ⟨ad794,A794_0,c794_0,A794_2,c794_2,e794,hx794_0,hx794_1,hx794_2,hx794_3,hx794_4,hl794_0,hi794_0,hl794_2,hi794_2⟩ := at_T27 HR0_0.out a1 p794 q794
                  have hw794_4 := hx794_4
                  have hw794_3 := hx794_3
                  have hw794_2 := hx794_2
                  have hw794_1 := hx794_1
                  have hw794_0 := hx794_0
                  cases e794
                  replace hx794_0 := (HB.out.cell (wbl hx794_0)).trans hx794_0
                  replace hx794_1 := (HB.out.cell (wbl hx794_1)).trans hx794_1
                  replace hx794_2 := (HB.out.cell (wbl hx794_2)).trans hx794_2
                  replace hx794_3 := (HB.out.cell (wbl hx794_3)).trans hx794_3
                  replace hx794_4 := (HB.out.cell (wbl hx794_4)).trans hx794_4
                  have HR794_0 := am hi794_0
                  have HC794_0 := am hl794_0
                  clear hi794_0 hl794_0
                  have HR794_2 := am hi794_2
                  have HC794_2 := am hl794_2
                  clear hi794_2 hl794_2
                  replace p794 := eq_true p794
                  replace q794 := eq_true q794
                  refine start_ (n := 33) (S := fun w' => w'.cell? ⟨gb777,0,none⟩ = some (.slice (some ad794) l0_0.length c0_0) ∧ w'.cell? ⟨gb777,1,none⟩ = some (.slice A0_1 l0_1.length c0_1) ∧ w'.cell? (ad793.add (a1).toNat) = some (.slice A793_0 (rd_L3 t786 a1).length c793_0) ∧ w'.cell? (ad794.add ((a1).toNat * 5)) = some (.slice A794_0 ((rd_T27 l0_0 a1).f0.f0).length c794_0) ∧ w'.cell? ⟨(ad794.add ((a1).toNat * 5)).block,(ad794.add ((a1).toNat * 5)).off + 1,none⟩ = some (.int .i64 ((rd_T27 l0_0 a1).f0.f1)) ∧ w'.cell? ⟨(ad794.add ((a1).toNat * 5)).block,(ad794.add ((a1).toNat * 5)).off + 2,none⟩ = some (.slice A794_2 ((rd_T27 l0_0 a1).f1).length c794_2) ∧ w'.cell? ⟨(ad794.add ((a1).toNat * 5)).block,(ad794.add ((a1).toNat * 5)).off + 3,none⟩ = some (.int .i64 ((rd_T27 l0_0 a1).f2)) ∧ w'.cell? ⟨(ad794.add ((a1).toNat * 5)).block,(ad794.add ((a1).toNat * 5)).off + 4,none⟩ = some (.int .i64 ((rd_T27 l0_0 a1).f3))) (ds := []) (ba 33 0) (by kernel_rfl) rfl rfl ⟨(blk_cell BK777.out 0).trans rfl,(blk_cell BK777.out 1).trans rfl,hx793_0,((HB.out.cell (wbl hw794_0)).trans hw794_0),((HB.out.cell (wbl hw794_1)).trans hw794_1),((HB.out.cell (wbl hw794_2)).trans hw794_2),((HB.out.cell (wbl hw794_3)).trans hw794_3),((HB.out.cell (wbl hw794_4)).trans hw794_4)⟩ (fun hHeld => ?_);refine with_tabW l4_CastleEnough.tab5 l4_CastleEnough.bits5 (fun HT_ HW_ => ?_)
                  generalize w50.drew = w60 at HO788 HO791 BK777 HB HL793_0 HR793_0 HR794_0 HR794_2 hx793_0 hx794_0 hx794_1 hx794_2 hx794_3 hx794_4 hHeld ⊢
                  refine pure_ (i := 0) (N := some 61) (v := ?_) (a' := ?_) (ba 33 1) rfl rfl (any_of HT_.out (by kernel_rfl)) (fun _ _ _ h => h) (Or.inl ⟨by rfl,?_⟩) ?_ ?_
                  rotate_left
                  · intro w'
                    go_simp
                    with_reducible rfl
                  rotate_left
                  · simp only [Act.put,NRM]
                    rfl
                  refine pure_ (i := 1) (N := some 62) (v := ?_) (a' := ?_) (ba 33 3) rfl rfl (any_of HT_.out (by kernel_rfl)) (fun _ _ _ h => h) (Or.inl ⟨by rfl,?_⟩) ?_ ?_
                  rotate_left
                  · intro w'
                    go_simp
                    with_reducible rfl
                  rotate_left
                  · simp only [Act.put,NRM]
                    rfl
                  refine pure_ (i := 2) (N := some 63) (v := ?_) (a' := ?_) (ba 33 7) rfl rfl (any_of HT_.out (by kernel_rfl)) (fun _ _ _ h => h) (Or.inl ⟨by rfl,?_⟩) ?_ ?_
                  rotate_left
                  · intro w'
                    go_simp
                    with_reducible rfl
                  rotate_left
                  · simp only [Act.put,NRM]
                    rfl
                  refine pure_ (i := 3) (N := some 64) (v := ?_) (a' := ?_) (ba 33 15) rfl rfl (any_of HT_.out (by kernel_rfl)) (fun _ _ _ h => h) (Or.inl ⟨by rfl,?_⟩) ?_ ?_
                  rotate_left
                  · intro w'
                    go_simp
                    with_reducible rfl
                  rotate_left
                  · simp only [Act.put,NRM]
                    rfl
                  refine pure_ (i := 4) (N := some 65) (v := ?_) (a' := ?_) (ba 33 31) rfl rfl (any_of HT_.out (by kernel_rfl)) (fun _ _ _ h => h) (Or.inl ⟨by rfl,?_⟩) ?_ ?_
                  rotate_left
                  · intro w'
                    go_simp
                    with_reducible rfl
                  rotate_left
                  · simp only [Act.put,NRM]
                    rfl
                  refine pure_ (i := 5) (N := some 66) (v := ?_) (a' := ?_) (ba 33 63) rfl rfl (any_of HT_.out (by kernel_rfl)) (fun _ _ _ h => h) (Or.inl ⟨by rfl,?_⟩) ?_ ?_
                  rotate_left
                  · intro w'
                    go_simp
                    with_reducible rfl
                  rotate_left
                  · simp only [Act.put,NRM]
                    rfl
                  refine take_ (i := 6) (N := some 67) (v := ?_) (a' := ?_) (ba 33 127) rfl rfl (take_ofW HT_.out HW_.out (by kernel_rfl)) (fun _ _ _ h => h) (Or.inl ⟨by rfl,?_⟩) hHeld ?_ ?_
                  rotate_left
                  · rintro w' ⟨s0,s1,s2,s3,s4,s5,s6,s7⟩
                    go_simp
                    with_reducible rfl
                  rotate_left
                  · simp only [Act.put,NRM]
                    rfl
                  refine pure_ (i := 7) (N := some 68) (v := ?_) (a' := ?_) (ba 33 255) rfl rfl (any_of HT_.out (by kernel_rfl)) (fun _ _ _ h => h) (Or.inl ⟨by rfl,?_⟩) ?_ ?_
                  rotate_left
                  · intro w'
                    go_simp
                    with_reducible rfl
                  rotate_left
                  · simp only [Act.put,NRM]
                    rfl
                  refine pure_ (i := 8) (N := some 69) (v := ?_) (a' := ?_) (ba 33 511) rfl rfl (any_of HT_.out (by kernel_rfl)) (fun _ _ _ h => h) (Or.inl ⟨by rfl,?_⟩) ?_ ?_
                  rotate_left
                  · intro w'
                    go_simp
                    with_reducible rfl
                  rotate_left
                  · simp only [Act.put,NRM]
                    rfl
                  refine pure_ (i := 9) (N := some 70) (v := ?_) (a' := ?_) (ba 33 1023) rfl rfl (any_of HT_.out (by kernel_rfl)) (fun _ _ _ h => h) (Or.inl ⟨by rfl,?_⟩) ?_ ?_
                  rotate_left
                  · intro w'
                    go_simp
                    with_reducible rfl
                  rotate_left
                  · simp only [Act.put,NRM]
                    rfl
                  refine pure_ (i := 10) (N := some 71) (v := ?_) (a' := ?_) (ba 33 2047) rfl rfl (any_of HT_.out (by kernel_rfl)) (fun _ _ _ h => h) (Or.inl ⟨by rfl,?_⟩) ?_ ?_
                  rotate_left
                  · intro w'
                    go_simp
                    with_reducible rfl
                  rotate_left
                  · simp only [Act.put,NRM]
                    rfl
                  refine pure_ (i := 11) (N := some 72) (v := ?_) (a' := ?_) (ba 33 4095) rfl rfl (any_of HT_.out (by kernel_rfl)) (fun _ _ _ h => h) (Or.inl ⟨by rfl,?_⟩) ?_ ?_
                  rotate_left
                  · intro w'
                    go_simp
                    with_reducible rfl
                  rotate_left
                  · simp only [Act.put,NRM]
                    rfl
                  refine pure_ (i := 12) (N := some 73) (v := ?_) (a' := ?_) (ba 33 8191) rfl rfl (any_of HT_.out (by kernel_rfl)) (fun _ _ _ h => h) (Or.inl ⟨by rfl,?_⟩) ?_ ?_
                  rotate_left
                  · intro w'
                    go_simp
                    with_reducible rfl
                  rotate_left
                  · simp only [Act.put,NRM]
                    rfl
                  refine pure_ (i := 13) (N := some 74) (v := ?_) (a' := ?_) (ba 33 16383) rfl rfl (any_of HT_.out (by kernel_rfl)) (fun _ _ _ h => h) (Or.inl ⟨by rfl,?_⟩) ?_ ?_
                  rotate_left
                  · intro w'
                    go_simp
                    with_reducible rfl
                  rotate_left
                  · simp only [Act.put,NRM]
                    rfl
                  refine pure_ (i := 16) (N := some 77) (v := ?_) (a' := ?_) (ba 33 81919) rfl rfl (any_of HT_.out (by kernel_rfl)) (fun _ _ _ h => h) (Or.inl ⟨by rfl,?_⟩) ?_ ?_
                  rotate_left
                  · intro w'
                    go_simp
                    with_reducible rfl
                  rotate_left
                  · simp only [Act.put,NRM]
                    rfl
                  refine pure_ (i := 18) (N := some 79) (v := ?_) (a' := ?_) (ba 33 344063) rfl rfl (any_of HT_.out (by kernel_rfl)) (fun _ _ _ h => h) (Or.inl ⟨by rfl,?_⟩) ?_ ?_
                  rotate_left
                  · intro w'
                    go_simp
                    with_reducible rfl
                  rotate_left
                  · simp only [Act.put,NRM]
                    rfl
                  refine take_ (i := 14) (N := some 75) (v := ?_) (a' := ?_) (ba 33 360447) rfl rfl (take_ofW HT_.out HW_.out (by kernel_rfl)) (fun _ _ _ h => h) (Or.inl ⟨by rfl,?_⟩) hHeld ?_ ?_
                  rotate_left
                  · rintro w' ⟨s0,s1,s2,s3,s4,s5,s6,s7⟩
                    go_simp
                    with_reducible rfl
                  rotate_left
                  · simp only [Act.put,NRM]
                    rfl
                  refine pure_ (i := 15) (N := some 76) (v := ?_) (a' := ?_) (ba 33 393215) rfl rfl (any_of HT_.out (by kernel_rfl)) (fun _ _ _ h => h) (Or.inl ⟨by rfl,?_⟩) ?_ ?_
                  rotate_left
                  · intro w'
                    go_simp
                    with_reducible rfl
                  rotate_left
                  · simp only [Act.put,NRM]
                    rfl
                  refine take_ (i := 17) (N := some 78) (v := ?_) (a' := ?_) (ba 33 524287) rfl rfl (take_ofW HT_.out HW_.out (by kernel_rfl)) (fun _ _ _ h => h) (Or.inl ⟨by rfl,?_⟩) hHeld ?_ ?_
                  rotate_left
                  · rintro w' ⟨s0,s1,s2,s3,s4,s5,s6,s7⟩
                    go_simp
                    with_reducible rfl
                  rotate_left
                  · simp only [Act.put,NRM]
                    rfl
                  refine pure_ (i := 19) (N := some 80) (v := ?_) (a' := ?_) (ba 33 1048575) rfl rfl (any_of HT_.out (by kernel_rfl)) (fun _ _ _ h => h) (Or.inl ⟨by rfl,?_⟩) ?_ ?_
                  rotate_left
                  · intro w'
                    go_simp
                    with_reducible rfl
                  rotate_left
                  · simp only [Act.put,NRM]
                    rfl
                  refine pure_ (i := 20) (N := some 81) (v := ?_) (a' := ?_) (ba 33 2097151) rfl rfl (any_of HT_.out (by kernel_rfl)) (fun _ _ _ h => h) (Or.inl ⟨by rfl,?_⟩) ?_ ?_
                  rotate_left
                  · intro w'
                    go_simp
                    with_reducible rfl
                  rotate_left
                  · simp only [Act.put,NRM]
                    rfl
                  refine take_ (i := 21) (N := some 82) (v := ?_) (a' := ?_) (ba 33 4194303) rfl rfl (take_ofW HT_.out HW_.out (by kernel_rfl)) (fun _ _ _ h => h) (Or.inl ⟨by rfl,?_⟩) hHeld ?_ ?_
                  rotate_left
                  · rintro w' ⟨s0,s1,s2,s3,s4,s5,s6,s7⟩
                    go_simp
                    with_reducible rfl
                  rotate_left
                  · simp only [Act.put,NRM]
                    rfl
                  refine pure_ (i := 22) (N := some 83) (v := ?_) (a' := ?_) (ba 33 8388607) rfl rfl (any_of HT_.out (by kernel_rfl)) (fun _ _ _ h => h) (Or.inl ⟨by rfl,?_⟩) ?_ ?_
                  rotate_left
                  · intro w'
                    go_simp
                    with_reducible rfl
                  rotate_left
                  · simp only [Act.put,NRM]
                    rfl
                  refine pure_ (i := 23) (N := some 84) (v := ?_) (a' := ?_) (ba 33 16777215) rfl rfl (any_of HT_.out (by kernel_rfl)) (fun _ _ _ h => h) (Or.inl ⟨by rfl,?_⟩) ?_ ?_
                  rotate_left
                  · intro w'
                    go_simp
                    with_reducible rfl
                  rotate_left
                  · simp only [Act.put,NRM]
                    rfl
                  refine pure_ (i := 24) (N := some 85) (v := ?_) (a' := ?_) (ba 33 33554431) rfl rfl (any_of HT_.out (by kernel_rfl)) (fun _ _ _ h => h) (Or.inl ⟨by rfl,?_⟩) ?_ ?_
                  rotate_left
                  · intro w'
                    go_simp
                    with_reducible rfl
                  rotate_left
                  · simp only [Act.put,NRM]
                    rfl
                  refine pure_ (i := 25) (N := some 86) (v := ?_) (a' := ?_) (ba 33 67108863) rfl rfl (any_of HT_.out (by kernel_rfl)) (fun _ _ _ h => h) (Or.inl ⟨by rfl,?_⟩) ?_ ?_
                  rotate_left
                  · intro w'
                    go_simp
                    with_reducible rfl
                  rotate_left
                  · simp only [Act.put,NRM]
                    rfl
                  refine pure_ (i := 26) (N := some 87) (v := ?_) (a' := ?_) (ba 33 134217727) rfl rfl (any_of HT_.out (by kernel_rfl)) (fun _ _ _ h => h) (Or.inl ⟨by rfl,?_⟩) ?_ ?_
                  rotate_left
                  · intro w'
                    go_simp
                    with_reducible rfl
                  rotate_left
                  · simp only [Act.put,NRM]
                    rfl
                  refine pure_ (i := 27) (N := some 88) (v := ?_) (a' := ?_) (ba 33 268435455) rfl rfl (any_of HT_.out (by kernel_rfl)) (fun _ _ _ h => h) (Or.inl ⟨by rfl,?_⟩) ?_ ?_
                  rotate_left
                  · intro w'
                    go_simp
                    with_reducible rfl
                  rotate_left
                  · simp only [Act.put,NRM]
                    rfl
                  refine pure_ (i := 28) (N := some 89) (v := ?_) (a' := ?_) (ba 33 536870911) rfl rfl (any_of HT_.out (by kernel_rfl)) (fun _ _ _ h => h) (Or.inl ⟨by rfl,?_⟩) ?_ ?_
                  rotate_left
                  · intro w'
                    go_simp
                    with_reducible rfl
                  rotate_left
                  · simp only [Act.put,NRM]
                    rfl
                  refine pure_ (i := 29) (N := some 90) (v := ?_) (a' := ?_) (ba 33 1073741823) rfl rfl (any_of HT_.out (by kernel_rfl)) (fun _ _ _ h => h) (Or.inl ⟨by rfl,?_⟩) ?_ ?_
                  rotate_left
                  · intro w'
                    go_simp
                    with_reducible rfl
                  rotate_left
                  · simp only [Act.put,NRM]
                    rfl
                  refine pure_ (i := 30) (N := some 91) (v := ?_) (a' := ?_) (ba 33 2147483647) rfl rfl (any_of HT_.out (by kernel_rfl)) (fun _ _ _ h => h) (Or.inl ⟨by rfl,?_⟩) ?_ ?_
                  rotate_left
                  · intro w'
                    go_simp
                    with_reducible rfl
                  rotate_left
                  · simp only [Act.put,NRM]
                    rfl
                  refine pure_ (i := 31) (N := some 92) (v := ?_) (a' := ?_) (ba 33 4294967295) rfl rfl (any_of HT_.out (by kernel_rfl)) (fun _ _ _ h => h) (Or.inl ⟨by rfl,?_⟩) ?_ ?_
                  rotate_left
                  · intro w'
                    go_simp
                    with_reducible rfl
                  rotate_left
                  · simp only [Act.put,NRM]
                    rfl
                  refine pure_ (i := 32) (N := some 93) (v := ?_) (a' := ?_) (ba 33 8589934591) rfl rfl (any_of HT_.out (by kernel_rfl)) (fun _ _ _ h => h) (Or.inl ⟨by rfl,?_⟩) ?_ ?_
                  rotate_left
                  · intro w'
                    go_simp
                    with_reducible rfl
                  rotate_left
                  · simp only [Act.put,NRM]
                    rfl
                  refine done_ (done_of HT_.out (by kernel_rfl)) ?_
                  try go_wp2
                  go_meet
                  case rel => exact ⟨_,((t785 != 5)),(by first | rfl | (simp;done) | (simp [*];done)),H',⟨by have := HJ5.out;first | omega | exact Nat.le_refl _⟩,⟨by (with_reducible repeat (first | apply Kd.N_alloc | apply Kd.N_drewN | apply Kd.N_drew));exact Kd.N_mono HO788.out (fun _ hk => hk.2)⟩,⟨BK777.out⟩,⟨HB.out⟩⟩
       case rest =>
        as_aux_lemma =>
         clear HC46
         obtain ⟨kq,x93_45,rfl,HA,HJ45,HO_13,BK777,HB⟩ := hcut
         cases kq with
         | zero => exact absurd HA.out (by simp [l4_CastleEnough.j1])
         | succ kj45 =>
          have H := HA.out
          clear HA
          simp only [l4_CastleEnough.j1] at H
          by_cases c67 : x93_45 = true
          · subst c67
            replace H : (none) = some r := by rw [if_pos rfl] at H;exact H
            exact absurd H (by simp)
          · as_aux_lemma =>
             replace c67 := Bool.eq_false_iff.mpr c67
             subst c67
             replace H : (if 0 ≤ a1 then (if a1 < (t786.length : Int) then (if 0 ≤ a2 then (if a2 < ((rd_L3 t786 a1).length : Int) then (if t785 = 0 then ((q4_Cups.f t784).bind fun t798 => (if t798 = true then (l4_CastleEnough.j2 kj45 a1 a2 a3 t784 t786 ((decide ((rd (rd_L3 t786 a1) a2) ≥ a3)) != (decide (a4 ≥ t784))) l0_0 l0_1) else (l4_CastleEnough.j2 kj45 a1 a2 a3 t784 t786 true l0_0 l0_1))) else (if ((rd (rd_L3 t786 a1) a2) ≥ a3) then (none) else ((l4_known.f).bind fun t797 => (some t797)))) else (none)) else (none)) else (none)) else (none)) = some r := by rw [if_neg (show ¬ (false = true) by decide)] at H;exact H
             by_cases c68 : 0 ≤ a1
             case neg =>
              rw [if_neg c68] at H
              exact absurd H (by simp)
             as_aux_lemma =>
              rw [if_pos c68] at H
              have c68b0 : decide (0 ≤ a1) = true := decide_eq_true c68
              clear c68
              by_cases c69 : a1 < (t786.length : Int)
              case neg =>
               rw [if_neg c69] at H
               exact absurd H (by simp)
              as_aux_lemma =>
               rw [if_pos c69] at H
               have c69b0 : decide (a1 < (t786.length : Int)) = true := decide_eq_true c69
               clear c69
               by_cases c70 : 0 ≤ a2
               case neg =>
                rw [if_neg c70] at H
                exact absurd H (by simp)
               as_aux_lemma =>
                rw [if_pos c70] at H
                have c70b0 : decide (0 ≤ a2) = true := decide_eq_true c70
                clear c70
                by_cases c71 : a2 < ((rd_L3 t786 a1).length : Int)
                case neg =>
                 rw [if_neg c71] at H
                 exact absurd H (by simp)
                as_aux_lemma =>
                 rw [if_pos c71] at H
                 have c71b0 : decide (a2 < ((rd_L3 t786 a1).length : Int)) = true := decide_eq_true c71
                 clear c71
                 by_cases c72 : t785 = 0
                 case neg =>
                  as_aux_lemma =>
                   rw [if_neg c72] at H
                   have c72b0 : (t785 == 0) = false := beq_eq_false_iff_ne.mpr c72
                   have c72b1 : (t785 != 0) = true := bne_iff_ne.mpr c72
                   by_cases c94 : ((rd (rd_L3 t786 a1) a2) ≥ a3)
                   · rw [if_pos c94] at H
                     exact absurd H (by simp)
                   · as_aux_lemma =>
                      rw [if_neg c94] at H
                      have c94b0 : decide (a3 ≤ (rd (rd_L3 t786 a1) a2)) = false := decide_eq_false c94
                      clear c94
                      replace H := obm H
                      obtain ⟨t797,A950,H⟩ := H
                      replace H : (some t797) = some r := H
                      have A95 := am A950
                      clear A950
                      obtain rfl := Option.some.inj H
                      obtain ⟨Ao96,co96,eo96⟩ := Kd.N_slice HO_13.out
                      subst eo96
                      have p795 : 0 ≤ (a1 : Int) := of_decide_eq_true (by assumption)
                      have q795 : a1 < (t786.length : Int) := of_decide_eq_true (by assumption)
                      obtain ⟨ad795,A795_0,c795_0,e795,hx795_0,hl795_0,hi795_0⟩ := at_L3 (Kd.N_reads' HO_13.out).2.2 a1 p795 q795
                      cases e795
                      obtain ⟨ce795,hce795,hMe795,hcc795⟩ := Kd.N_get HO_13.out [] a1 p795 (by first | exact q795 | exact of_decide_eq_true (by assumption) | (have e_ := (Kd.N_reads' HO_13.out).1;omega))
                      obtain ⟨ua795_0,uc795_0,rfl,ul795_0,ge795_0⟩ := Kd.FK_slice_open hMe795
                      have hv795_0 := hcc795 0 _ rfl
                      rw [Nat.add_zero,show ((Kd.slice 3 (Kd.int .i64))).sz = 1 from rfl,Nat.mul_one] at hv795_0
                      replace hv795_0 := Option.some.inj (hv795_0.symm.trans hx795_0)
                      injection hv795_0 with hva_ hvn_ hvc_
                      rw [hva_] at ge795_0
                      rw [hvc_] at ul795_0
                      have HL795_0 := am (show Kd.V (Kd.int .i64) 3 _ w.heap.size _ _ (rd_L3 t786 a1) from Kd.V_mk ul795_0 ge795_0)
                      clear hva_ hvn_ hvc_ ge795_0 ul795_0
                      clear hcc795 hce795
                      have HR795_0 := am hi795_0
                      have HC795_0 := am hl795_0
                      clear hi795_0 hl795_0
                      replace p795 := eq_true p795
                      replace q795 := eq_true q795
                      have p796 : 0 ≤ (a2 : Int) := of_decide_eq_true (by assumption)
                      have q796 : a2 < ((rd_L3 t786 a1).length : Int) := of_decide_eq_true (by assumption)
                      obtain ⟨ad796,e796,hx796_0⟩ := Kd.at_int (by repeat (first | (with_reducible exact HR795_0.out) | (with_reducible refine Kd.C_alloc ?_ _) | (with_reducible refine Kd.C_drewN ?_ _) | (with_reducible refine Kd.C_drew ?_) | exact HR795_0.out)) a2 p796 q796
                      cases e796
                      replace p796 := eq_true p796
                      replace q796 := eq_true q796
                      go_wp2_with (first | (go_at_call 19;(with_reducible refine (l4_known.calls  t797 _ A95.out).mono ?_);rintro e w97 ⟨rfl,hb⟩;replace HO_13 := am (Kd.N_below HO_13.out hb);replace HL795_0 := am (Kd.V_below HL795_0.out hb);replace BK777 := (kmv hb BK777);replace HR795_0 := am (kC (by repeat (first | (with_reducible exact HR795_0.out) | (with_reducible refine Kd.C_alloc ?_ _) | (with_reducible refine Kd.C_drewN ?_ _) | (with_reducible refine Kd.C_drew ?_) | exact HR795_0.out)) hb);replace HB := am (below_step (HB.out) hb);(try clear hb);(try clear hb2);(try clear hk);(try clear hi)))
                      go_ret
                      exact ⟨by first | rfl | (simp [*] <;> rfl),HB.out⟩
                 as_aux_lemma =>
                  rw [if_pos c72] at H
                  have c72b0 : (t785 == 0) = true := beq_iff_eq.mpr c72
                  have c72b1 : (t785 != 0) = false := bne_eq_false_iff_eq.mpr c72
                  clear c72
                  have HC73 := am H
                  clear H
                  obtain ⟨Ao74,co74,eo74⟩ := Kd.N_slice HO_13.out
                  subst eo74
                  have p795 : 0 ≤ (a1 : Int) := of_decide_eq_true (by assumption)
                  have q795 : a1 < (t786.length : Int) := of_decide_eq_true (by assumption)
                  obtain ⟨ad795,A795_0,c795_0,e795,hx795_0,hl795_0,hi795_0⟩ := at_L3 (Kd.N_reads' HO_13.out).2.2 a1 p795 q795
                  cases e795
                  obtain ⟨ce795,hce795,hMe795,hcc795⟩ := Kd.N_get HO_13.out [] a1 p795 (by first | exact q795 | exact of_decide_eq_true (by assumption) | (have e_ := (Kd.N_reads' HO_13.out).1;omega))
                  obtain ⟨ua795_0,uc795_0,rfl,ul795_0,ge795_0⟩ := Kd.FK_slice_open hMe795
                  have hv795_0 := hcc795 0 _ rfl
                  rw [Nat.add_zero,show ((Kd.slice 3 (Kd.int .i64))).sz = 1 from rfl,Nat.mul_one] at hv795_0
                  replace hv795_0 := Option.some.inj (hv795_0.symm.trans hx795_0)
                  injection hv795_0 with hva_ hvn_ hvc_
                  rw [hva_] at ge795_0
                  rw [hvc_] at ul795_0
                  have HL795_0 := am (show Kd.V (Kd.int .i64) 3 _ w.heap.size _ _ (rd_L3 t786 a1) from Kd.V_mk ul795_0 ge795_0)
                  clear hva_ hvn_ hvc_ ge795_0 ul795_0
                  clear hcc795 hce795
                  have HR795_0 := am hi795_0
                  have HC795_0 := am hl795_0
                  clear hi795_0 hl795_0
                  replace p795 := eq_true p795
                  replace q795 := eq_true q795
                  have p796 : 0 ≤ (a2 : Int) := of_decide_eq_true (by assumption)
                  have q796 : a2 < ((rd_L3 t786 a1).length : Int) := of_decide_eq_true (by assumption)
                  obtain ⟨ad796,e796,hx796_0⟩ := Kd.at_int (by repeat (first | (with_reducible exact HR795_0.out) | (with_reducible refine Kd.C_alloc ?_ _) | (with_reducible refine Kd.C_drewN ?_ _) | (with_reducible refine Kd.C_drew ?_) | exact HR795_0.out)) a2 p796 q796
                  cases e796
                  replace p796 := eq_true p796
                  replace q796 := eq_true q796
                  go_upto_region 10 with (fail)
                  go_cut [119] (fun v119 wc => ∃ (kq : Nat) (x119_72 : Bool),v119 = .bool x119_72 ∧ Aside0 (l4_CastleEnough.j2 kq a1 a2 a3 t784 t786 x119_72 l0_0 l0_1 = some r) ∧ Aside0 (kq ≤ kj45) ∧ Aside0 (Kd.N (Kd.slice 3 (Kd.int .i64)) 28 wc w.heap.size (fun k_ => k_ ≠ gb777) (.slice (some ad795) t786.length co74) t786) ∧ Aside0 (wc.heap[gb777]? = some (.cells #[(.slice A0_0 l0_0.length c0_0),(.slice A0_1 l0_1.length c0_1)] 59 (0,0))) ∧ Aside0 (Kd.C (Kd.int .i64) wc (some ad796) (rd_L3 t786 a1).length (rd_L3 t786 a1)) ∧ Aside0 (Below w.heap.size w wc))
                  case first =>
                   as_aux_lemma =>
                    have H := HC73.out
                    clear HC73
                    replace H := obm H
                    obtain ⟨t798,A750,H⟩ := H
                    replace H : (if t798 = true then (l4_CastleEnough.j2 kj45 a1 a2 a3 t784 t786 ((decide ((rd (rd_L3 t786 a1) a2) ≥ a3)) != (decide (a4 ≥ t784))) l0_0 l0_1) else (l4_CastleEnough.j2 kj45 a1 a2 a3 t784 t786 true l0_0 l0_1)) = some r := H
                    have A75 := am A750
                    clear A750
                    by_cases c76 : t798 = true
                    · subst c76
                      replace H : (l4_CastleEnough.j2 kj45 a1 a2 a3 t784 t786 ((decide ((rd (rd_L3 t786 a1) a2) ≥ a3)) != (decide (a4 ≥ t784))) l0_0 l0_1) = some r := by rw [if_pos rfl] at H;exact H
                      replace H' := am H
                      go_wp2_with (first | ((with_reducible refine gate_callee (f := 17) rfl ?_);refine goesL_ (some 111) rfl rfl Tryz.func17 (by kernel_rfl) rfl #[.int .i64 t784] rfl (by (try simp only [List.map_toArray,List.map_cons,List.map_nil]);first | done | rfl | (simp only [List.length_drop,List.length_take];rfl)) ?_;(with_reducible refine (q4_Cups.calls t784 true _ A75.out).mono ?_);rintro e w' ⟨rfl,⟨nd,rfl⟩⟩;refine ⟨_,rfl,?_⟩))
                      go_meet
                      case rel => exact ⟨_,(((decide ((rd (rd_L3 t786 a1) a2) ≥ a3)) != (decide (a4 ≥ t784)))),(by first | rfl | (simp;done) | (simp [*];done)),H',⟨by have := HJ5.out;have := HJ45.out;first | omega | exact Nat.le_refl _⟩,⟨by (with_reducible repeat (first | apply Kd.N_alloc | apply Kd.N_drewN | apply Kd.N_drew));exact HO_13.out⟩,⟨BK777.out⟩,⟨by repeat (first | (with_reducible exact HR795_0.out) | (with_reducible refine Kd.C_alloc ?_ _) | (with_reducible refine Kd.C_drewN ?_ _) | (with_reducible refine Kd.C_drew ?_) | exact HR795_0.out)⟩,⟨pw_below_drewN HB.out _⟩⟩
                    · replace c76 := Bool.eq_false_iff.mpr c76
                      subst c76
                      replace H : (l4_CastleEnough.j2 kj45 a1 a2 a3 t784 t786 true l0_0 l0_1) = some r := by rw [if_neg (show ¬ (false = true) by decide)] at H;exact H
                      replace H' := am H
                      go_wp2_with (first | ((with_reducible refine gate_callee (f := 17) rfl ?_);refine goesL_ (some 111) rfl rfl Tryz.func17 (by kernel_rfl) rfl #[.int .i64 t784] rfl (by (try simp only [List.map_toArray,List.map_cons,List.map_nil]);first | done | rfl | (simp only [List.length_drop,List.length_take];rfl)) ?_;(with_reducible refine (q4_Cups.calls t784 false _ A75.out).mono ?_);rintro e w' ⟨rfl,⟨nd,rfl⟩⟩;refine ⟨_,rfl,?_⟩))
                      go_meet
                      case rel => exact ⟨_,(true),(by first | rfl | (simp;done) | (simp [*];done)),H',⟨by have := HJ5.out;have := HJ45.out;first | omega | exact Nat.le_refl _⟩,⟨by (with_reducible repeat (first | apply Kd.N_alloc | apply Kd.N_drewN | apply Kd.N_drew));exact HO_13.out⟩,⟨BK777.out⟩,⟨by repeat (first | (with_reducible exact HR795_0.out) | (with_reducible refine Kd.C_alloc ?_ _) | (with_reducible refine Kd.C_drewN ?_ _) | (with_reducible refine Kd.C_drew ?_) | exact HR795_0.out)⟩,⟨pw_below_drewN HB.out _⟩⟩
                  case rest =>
                   as_aux_lemma =>
                    clear HC73
                    obtain ⟨kq,x119_72,rfl,HA,HJ72,HO_13,BK777,HR795_0,HB⟩ := hcut
                    cases kq with
                    | zero => exact absurd HA.out (by simp [l4_CastleEnough.j2])
                    | succ kj72 =>
                     have H := HA.out
                     clear HA
                     simp only [l4_CastleEnough.j2] at H
                     by_cases c77 : x119_72 = true
                     · subst c77
                       replace H : (none) = some r := by rw [if_pos rfl] at H;exact H
                       exact absurd H (by simp)
                     · as_aux_lemma =>
                        replace c77 := Bool.eq_false_iff.mpr c77
                        subst c77
                        replace H : ((ca_Flow.f kj72 l0_0 l0_1 t784).bind fun bt799 => (if bt799.2.2 = 0 then (if (bt799.1.length : Int) = (t786.length : Int) then (if 0 ≤ a1 then (if a1 < (bt799.1.length : Int) then (if a1 < (t786.length : Int) then (if ((rd_L3 bt799.1 a1).length : Int) = ((rd_L3 t786 a1).length : Int) then (if 0 ≤ a2 then (if a2 < ((rd_L3 bt799.1 a1).length : Int) then (if (rd (rd_L3 bt799.1 a1) a2) ≥ a3 then ((l4_known.f).bind fun t810 => (some t810)) else (none)) else (none)) else (none)) else (none)) else (none)) else (none)) else (none)) else (none)) else (none))) = some r := by rw [if_neg (show ¬ (false = true) by decide)] at H;exact H
                        replace H := obm H
                        obtain ⟨⟨t799,t802,t805⟩,A780,H⟩ := H
                        replace H : (if t805 = 0 then (if (t799.length : Int) = (t786.length : Int) then (if 0 ≤ a1 then (if a1 < (t799.length : Int) then (if a1 < (t786.length : Int) then (if ((rd_L3 t799 a1).length : Int) = ((rd_L3 t786 a1).length : Int) then (if 0 ≤ a2 then (if a2 < ((rd_L3 t799 a1).length : Int) then (if (rd (rd_L3 t799 a1) a2) ≥ a3 then ((l4_known.f).bind fun t810 => (some t810)) else (none)) else (none)) else (none)) else (none)) else (none)) else (none)) else (none)) else (none)) else (none)) = some r := H
                        have A78 := am A780
                        clear A780
                        by_cases c79 : t805 = 0
                        case neg =>
                         rw [if_neg c79] at H
                         have c79b0 : (t805 == 0) = false := beq_eq_false_iff_ne.mpr c79
                         have c79b1 : (t805 != 0) = true := bne_iff_ne.mpr c79
                         exact absurd H (by simp)
                        as_aux_lemma =>
                         rw [if_pos c79] at H
                         have c79b0 : (t805 == 0) = true := beq_iff_eq.mpr c79
                         have c79b1 : (t805 != 0) = false := bne_eq_false_iff_eq.mpr c79
                         clear c79
                         by_cases c80 : (t799.length : Int) = (t786.length : Int)
                         case neg =>
                          rw [if_neg c80] at H
                          have c80b0 : ((t799.length : Int) == (t786.length : Int)) = false := beq_eq_false_iff_ne.mpr c80
                          have c80b1 : ((t799.length : Int) != (t786.length : Int)) = true := bne_iff_ne.mpr c80
                          have c80b2 : (t799.length == t786.length) = false := by first | simpa using c80 | (simp at c80 ⊢;omega)
                          exact absurd H (by simp)
                         as_aux_lemma =>
                          rw [if_pos c80] at H
                          have c80b0 : ((t799.length : Int) == (t786.length : Int)) = true := beq_iff_eq.mpr c80
                          have c80b1 : ((t799.length : Int) != (t786.length : Int)) = false := bne_eq_false_iff_eq.mpr c80
                          have c80b2 : (t799.length == t786.length) = true := by first | simpa using c80 | (simp at c80 ⊢;omega)
                          clear c80
                          by_cases c81 : 0 ≤ a1
                          case neg =>
                           rw [if_neg c81] at H
                           exact absurd H (by simp)
                          as_aux_lemma =>
                           rw [if_pos c81] at H
                           have c81b0 : decide (0 ≤ a1) = true := decide_eq_true c81
                           clear c81
                           by_cases c82 : a1 < (t799.length : Int)
                           case neg =>
                            rw [if_neg c82] at H
                            exact absurd H (by simp)
                           as_aux_lemma =>
                            rw [if_pos c82] at H
                            have c82b0 : decide (a1 < (t799.length : Int)) = true := decide_eq_true c82
                            clear c82
                            by_cases c83 : a1 < (t786.length : Int)
                            case neg =>
                             rw [if_neg c83] at H
                             exact absurd H (by simp)
                            as_aux_lemma =>
                             rw [if_pos c83] at H
                             have c83b0 : decide (a1 < (t786.length : Int)) = true := decide_eq_true c83
                             clear c83
                             by_cases c84 : ((rd_L3 t799 a1).length : Int) = ((rd_L3 t786 a1).length : Int)
                             case neg =>
                              rw [if_neg c84] at H
                              have c84b0 : (((rd_L3 t799 a1).length : Int) == ((rd_L3 t786 a1).length : Int)) = false := beq_eq_false_iff_ne.mpr c84
                              have c84b1 : (((rd_L3 t799 a1).length : Int) != ((rd_L3 t786 a1).length : Int)) = true := bne_iff_ne.mpr c84
                              have c84b2 : ((rd_L3 t799 a1).length == (rd_L3 t786 a1).length) = false := by first | simpa using c84 | (simp at c84 ⊢;omega)
                              exact absurd H (by simp)
                             as_aux_lemma =>
                              rw [if_pos c84] at H
                              have c84b0 : (((rd_L3 t799 a1).length : Int) == ((rd_L3 t786 a1).length : Int)) = true := beq_iff_eq.mpr c84
                              have c84b1 : (((rd_L3 t799 a1).length : Int) != ((rd_L3 t786 a1).length : Int)) = false := bne_eq_false_iff_eq.mpr c84
                              have c84b2 : ((rd_L3 t799 a1).length == (rd_L3 t786 a1).length) = true := by first | simpa using c84 | (simp at c84 ⊢;omega)
                              clear c84
                              by_cases c85 : 0 ≤ a2
                              case neg =>
                               rw [if_neg c85] at H
                               exact absurd H (by simp)
                              as_aux_lemma =>
                               rw [if_pos c85] at H
                               have c85b0 : decide (0 ≤ a2) = true := decide_eq_true c85
                               clear c85
                               by_cases c86 : a2 < ((rd_L3 t799 a1).length : Int)
                               case neg =>
                                rw [if_neg c86] at H
                                exact absurd H (by simp)
                               as_aux_lemma =>
                                rw [if_pos c86] at H
                                have c86b0 : decide (a2 < ((rd_L3 t799 a1).length : Int)) = true := decide_eq_true c86
                                clear c86
                                by_cases c87 : (rd (rd_L3 t799 a1) a2) ≥ a3
                                case neg =>
                                 rw [if_neg c87] at H
                                 have c87b0 : decide (a3 ≤ (rd (rd_L3 t799 a1) a2)) = false := decide_eq_false c87
                                 clear c87
                                 exact absurd H (by simp)
                                as_aux_lemma =>
                                 rw [if_pos c87] at H
                                 have c87b0 : decide (a3 ≤ (rd (rd_L3 t799 a1) a2)) = true := decide_eq_true c87
                                 clear c87
                                 replace H := obm H
                                 obtain ⟨t810,A880,H⟩ := H
                                 replace H : (some t810) = some r := H
                                 have A88 := am A880
                                 clear A880
                                 obtain rfl := Option.some.inj H
                                 obtain ⟨hcz89_0,hcz89_1⟩ := cO2 BK777.out
                                 try go_wp2_with (first | ((with_reducible refine gate_callee (f := 32) rfl ?_);refine goesL_ (some 123) rfl rfl Tryz.func32 (by kernel_rfl) rfl #[.agg #[.slice A0_0 l0_0.length c0_0,.slice A0_1 l0_1.length c0_1],.int .i64 t784] rfl (by (try simp only [List.map_toArray,List.map_cons,List.map_nil]);first | done | rfl | (simp only [List.length_drop,List.length_take];rfl)) ?_;(with_reducible refine (ca_Flow.calls kj72 _ _ l0_0 _ _ l0_1 t784 t799 t802 t805 _ ?side1 ?side2 ?side3 ?side4 A78.out).mono ?_);(case side1 => exact kC HR0_0.out HB.out);(case side2 => exact HC0_0.out);(case side3 => exact kC HR0_1.out HB.out);(case side4 => exact HC0_1.out);rintro e w90 ⟨v800,v803,rfl,ho0,ho1,hb⟩;refine ⟨_,rfl,?_⟩;have HO801 := am (Kd.N_lower (Kd.N_mono (ok' := fun k_ => some k_ ≠ (v803 : Value).ownBlock ∧ some k_ ≠ (.slice (some ad795) t786.length co74 : Value).ownBlock ∧ k_ ≠ gb777) (N_swapB ho0) (fun k_ hk_ => ⟨hk_.1,(Kd.fresh' (Kd.N_lt HO_13.out) k_ hk_.2.1),(Kd.freshB (g := gb777) (o := .cells #[.slice A0_0 l0_0.length c0_0,.slice A0_1 l0_1.length c0_1] 59 (0,0)) BK777.out k_ hk_.2.1)⟩)) (below_size (HB.out)));have HO804 := am (Kd.R_lower ho1 (below_size (HB.out)));replace HO_13 := am (Kd.N_mono (Kd.N_told (Kd.N_told (Kd.N_old HO_13.out hb) (Kd.N_base ho0)) (Kd.R_base ho1)) (fun _ h_ => h_.1));replace BK777 := (kmv hb BK777);replace HR795_0 := am (kC (by repeat (first | (with_reducible exact HR795_0.out) | (with_reducible refine Kd.C_alloc ?_ _) | (with_reducible refine Kd.C_drewN ?_ _) | (with_reducible refine Kd.C_drew ?_) | exact HR795_0.out)) hb);replace HB := am (below_step (HB.out) hb);(try clear hb);(try clear hb2);(try clear hk);(try clear hi);(try clear ho0);(try clear ho1)))
                                 replace HO_13 := am (Kd.N_drew HO_13.out)
                                 replace HO801 := am (Kd.N_drew HO801.out)
                                 replace HO804 := am (Kd.R_drew HO804.out)
                                 replace BK777 := am (blk_drew BK777.out)
                                 replace HR795_0 := am (Kd.C_drew HR795_0.out)
                                 replace HB := am (below_drew1 HB.out)
                                 obtain ⟨Ao92,co92,eo92⟩ := Kd.N_slice HO801.out
                                 (first | subst eo92 | (injection eo92 with f1_ f2_ f3_;have f4_ := f1_.symm;have f5_ := f3_.symm;clear f1_ f2_ f3_;subst f4_;subst f5_))
                                 have p806 : 0 ≤ (a1 : Int) := of_decide_eq_true (by assumption)
                                 have q806 : a1 < (t799.length : Int) := of_decide_eq_true (by assumption)
                                 obtain ⟨ad806,A806_0,c806_0,e806,hx806_0,hl806_0,hi806_0⟩ := at_L3 (Kd.N_reads' HO801.out).2.2 a1 p806 q806
                                 cases e806
                                 obtain ⟨ce806,hce806,hMe806,hcc806⟩ := Kd.N_get HO801.out [] a1 p806 (by first | exact q806 | exact of_decide_eq_true (by assumption) | (have e_ := (Kd.N_reads' HO801.out).1;omega))
                                 obtain ⟨ua806_0,uc806_0,rfl,ul806_0,ge806_0⟩ := Kd.FK_slice_open hMe806
                                 have hv806_0 := hcc806 0 _ rfl
                                 rw [Nat.add_zero,show ((Kd.slice 3 (Kd.int .i64))).sz = 1 from rfl,Nat.mul_one] at hv806_0
                                 replace hv806_0 := Option.some.inj (hv806_0.symm.trans hx806_0)
                                 injection hv806_0 with hva_ hvn_ hvc_
                                 rw [hva_] at ge806_0
                                 rw [hvc_] at ul806_0
                                 have HL806_0 := am (show Kd.V (Kd.int .i64) 3 _ w.heap.size _ _ (rd_L3 t799 a1) from Kd.V_mk ul806_0 ge806_0)
                                 clear hva_ hvn_ hvc_ ge806_0 ul806_0
                                 clear hcc806 hce806
                                 have HR806_0 := am hi806_0
                                 have HC806_0 := am hl806_0
                                 clear hi806_0 hl806_0
                                 replace p806 := eq_true p806
                                 replace q806 := eq_true q806
                                 have p807 : 0 ≤ (a1 : Int) := of_decide_eq_true (by assumption)
                                 have q807 : a1 < (t786.length : Int) := of_decide_eq_true (by assumption)
                                 obtain ⟨ad807,A807_0,c807_0,e807,hx807_0,hl807_0,hi807_0⟩ := at_L3 (Kd.N_reads' HO_13.out).2.2 a1 p807 q807
                                 obtain rfl : ad795 = ad807 := (by injection e807)
                                 obtain ⟨ce807,hce807,hMe807,hcc807⟩ := Kd.N_get HO_13.out [] a1 p807 (by first | exact q807 | exact of_decide_eq_true (by assumption) | (have e_ := (Kd.N_reads' HO_13.out).1;omega))
                                 obtain ⟨ua807_0,uc807_0,rfl,ul807_0,ge807_0⟩ := Kd.FK_slice_open hMe807
                                 have hv807_0 := hcc807 0 _ rfl
                                 rw [Nat.add_zero,show ((Kd.slice 3 (Kd.int .i64))).sz = 1 from rfl,Nat.mul_one] at hv807_0
                                 replace hv807_0 := Option.some.inj (hv807_0.symm.trans hx807_0)
                                 injection hv807_0 with hva_ hvn_ hvc_
                                 rw [hva_] at ge807_0
                                 rw [hvc_] at ul807_0
                                 have HL807_0 := am (show Kd.V (Kd.int .i64) 3 _ w.heap.size _ _ (rd_L3 t786 a1) from Kd.V_mk ul807_0 ge807_0)
                                 clear hva_ hvn_ hvc_ ge807_0 ul807_0
                                 clear hcc807 hce807
                                 have HR807_0 := am hi807_0
                                 have HC807_0 := am hl807_0
                                 clear hi807_0 hl807_0
                                 replace p807 := eq_true p807
                                 replace q807 := eq_true q807
                                 have p808 : 0 ≤ (a1 : Int) := of_decide_eq_true (by assumption)
                                 have q808 : a1 < (t799.length : Int) := of_decide_eq_true (by assumption)
                                 obtain ⟨ad808,A808_0,c808_0,e808,hx808_0,hl808_0,hi808_0⟩ := at_L3 (Kd.N_reads' HO801.out).2.2 a1 p808 q808
                                 obtain rfl : ad806 = ad808 := (by injection e808)
                                 obtain ⟨ce808,hce808,hMe808,hcc808⟩ := Kd.N_get HO801.out [] a1 p808 (by first | exact q808 | exact of_decide_eq_true (by assumption) | (have e_ := (Kd.N_reads' HO801.out).1;omega))
                                 obtain ⟨ua808_0,uc808_0,rfl,ul808_0,ge808_0⟩ := Kd.FK_slice_open hMe808
                                 have hv808_0 := hcc808 0 _ rfl
                                 rw [Nat.add_zero,show ((Kd.slice 3 (Kd.int .i64))).sz = 1 from rfl,Nat.mul_one] at hv808_0
                                 replace hv808_0 := Option.some.inj (hv808_0.symm.trans hx808_0)
                                 injection hv808_0 with hva_ hvn_ hvc_
                                 rw [hva_] at ge808_0
                                 rw [hvc_] at ul808_0
                                 have HL808_0 := am (show Kd.V (Kd.int .i64) 3 _ w.heap.size _ _ (rd_L3 t799 a1) from Kd.V_mk ul808_0 ge808_0)
                                 clear hva_ hvn_ hvc_ ge808_0 ul808_0
                                 clear hcc808 hce808
                                 have HR808_0 := am hi808_0
                                 have HC808_0 := am hl808_0
                                 clear hi808_0 hl808_0
                                 replace p808 := eq_true p808
                                 replace q808 := eq_true q808
                                 have ea_ := Option.some.inj (hx806_0.symm.trans hx808_0)
                                 injection ea_ with ea_ en_ ec_
                                 subst ea_
                                 subst ec_
                                 clear en_
                                 have p809 : 0 ≤ (a2 : Int) := of_decide_eq_true (by assumption)
                                 have q809 : a2 < ((rd_L3 t799 a1).length : Int) := of_decide_eq_true (by assumption)
                                 obtain ⟨ad809,e809,hx809_0⟩ := Kd.at_int (by repeat (first | (with_reducible exact HR808_0.out) | (with_reducible refine Kd.C_alloc ?_ _) | (with_reducible refine Kd.C_drewN ?_ _) | (with_reducible refine Kd.C_drew ?_) | exact HR808_0.out)) a2 p809 q809
                                 cases e809
                                 replace p809 := eq_true p809
                                 replace q809 := eq_true q809
                                 refine start_ (n := 37) (S := fun w' => w'.cell? (ad806.add (a1).toNat) = some (.slice (some ad809) (rd_L3 t799 a1).length c806_0) ∧ w'.cell? (ad795.add (a1).toNat) = some (.slice A807_0 (rd_L3 t786 a1).length c807_0) ∧ w'.cell? (ad806.add (a1).toNat) = some (.slice (some ad809) (rd_L3 t799 a1).length c806_0) ∧ w'.cell? (ad809.add (a2).toNat) = some (.int .i64 (rd (rd_L3 t799 a1) a2))) (ds := []) (ba 37 0) (by kernel_rfl) rfl rfl ⟨hx806_0,hx807_0,hx808_0,hx809_0⟩ (fun hHeld => ?_);refine with_tabW l4_CastleEnough.tab13 l4_CastleEnough.bits13 (fun HT_ HW_ => ?_)
                                 generalize w90.drew = w91 at HO_13 HO801 HO804 BK777 HR795_0 HB HL806_0 HL807_0 HL808_0 HR806_0 HR807_0 HR808_0 hx806_0 hx807_0 hx808_0 hx809_0 hHeld ⊢
                                 refine pure_ (i := 0) (N := some 127) (v := ?_) (a' := ?_) (ba 37 1) rfl rfl (any_of HT_.out (by kernel_rfl)) (fun _ _ _ h => h) (Or.inl ⟨by rfl,?_⟩) ?_ ?_
                                 rotate_left
                                 · intro w'
                                   go_simp
                                   with_reducible rfl
                                 rotate_left
                                 · simp only [Act.put,NRM]
                                   rfl
                                 refine pure_ (i := 1) (N := some 128) (v := ?_) (a' := ?_) (ba 37 3) rfl rfl (any_of HT_.out (by kernel_rfl)) (fun _ _ _ h => h) (Or.inl ⟨by rfl,?_⟩) ?_ ?_
                                 rotate_left
                                 · intro w'
                                   go_simp
                                   with_reducible rfl
                                 rotate_left
                                 · simp only [Act.put,NRM]
                                   rfl
                                 refine pure_ (i := 2) (N := some 129) (v := ?_) (a' := ?_) (ba 37 7) rfl rfl (any_of HT_.out (by kernel_rfl)) (fun _ _ _ h => h) (Or.inl ⟨by rfl,?_⟩) ?_ ?_
                                 rotate_left
                                 · intro w'
                                   go_simp
                                   with_reducible rfl
                                 rotate_left
                                 · simp only [Act.put,NRM]
                                   rfl
                                 refine pure_ (i := 3) (N := some 130) (v := ?_) (a' := ?_) (ba 37 15) rfl rfl (any_of HT_.out (by kernel_rfl)) (fun _ _ _ h => h) (Or.inl ⟨by rfl,?_⟩) ?_ ?_
                                 rotate_left
                                 · intro w'
                                   go_simp
                                   with_reducible rfl
                                 rotate_left
                                 · simp only [Act.put,NRM]
                                   rfl
                                 refine pure_ (i := 4) (N := some 131) (v := ?_) (a' := ?_) (ba 37 31) rfl rfl (any_of HT_.out (by kernel_rfl)) (fun _ _ _ h => h) (Or.inl ⟨by rfl,?_⟩) ?_ ?_
                                 rotate_left
                                 · intro w'
                                   go_simp
                                   with_reducible rfl
                                 rotate_left
                                 · simp only [Act.put,NRM]
                                   rfl
                                 refine pure_ (i := 5) (N := some 132) (v := ?_) (a' := ?_) (ba 37 63) rfl rfl (any_of HT_.out (by kernel_rfl)) (fun _ _ _ h => h) (Or.inl ⟨by rfl,?_⟩) ?_ ?_
                                 rotate_left
                                 · intro w'
                                   go_simp
                                   with_reducible rfl
                                 rotate_left
                                 · simp only [Act.put,NRM]
                                   rfl
                                 refine pure_ (i := 6) (N := some 133) (v := ?_) (a' := ?_) (ba 37 127) rfl rfl (any_of HT_.out (by kernel_rfl)) (fun _ _ _ h => h) (Or.inl ⟨by rfl,?_⟩) ?_ ?_
                                 rotate_left
                                 · intro w'
                                   go_simp
                                   with_reducible rfl
                                 rotate_left
                                 · simp only [Act.put,NRM]
                                   rfl
                                 refine pure_ (i := 7) (N := some 134) (v := ?_) (a' := ?_) (ba 37 255) rfl rfl (any_of HT_.out (by kernel_rfl)) (fun _ _ _ h => h) (Or.inl ⟨by rfl,?_⟩) ?_ ?_
                                 rotate_left
                                 · intro w'
                                   go_simp
                                   with_reducible rfl
                                 rotate_left
                                 · simp only [Act.put,NRM]
                                   rfl
                                 refine pure_ (i := 8) (N := some 135) (v := ?_) (a' := ?_) (ba 37 511) rfl rfl (any_of HT_.out (by kernel_rfl)) (fun _ _ _ h => h) (Or.inl ⟨by rfl,?_⟩) ?_ ?_
                                 rotate_left
                                 · intro w'
                                   go_simp
                                   with_reducible rfl
                                 rotate_left
                                 · simp only [Act.put,NRM]
                                   rfl
                                 refine pure_ (i := 9) (N := some 136) (v := ?_) (a' := ?_) (ba 37 1023) rfl rfl (any_of HT_.out (by kernel_rfl)) (fun _ _ _ h => h) (Or.inl ⟨by rfl,?_⟩) ?_ ?_
                                 rotate_left
                                 · intro w'
                                   go_simp
                                   with_reducible rfl
                                 rotate_left
                                 · simp only [Act.put,NRM]
                                   rfl
                                 refine pure_ (i := 10) (N := some 137) (v := ?_) (a' := ?_) (ba 37 2047) rfl rfl (any_of HT_.out (by kernel_rfl)) (fun _ _ _ h => h) (Or.inl ⟨by rfl,?_⟩) ?_ ?_
                                 rotate_left
                                 · intro w'
                                   go_simp
                                   with_reducible rfl
                                 rotate_left
                                 · simp only [Act.put,NRM]
                                   rfl
                                 refine pure_ (i := 11) (N := some 138) (v := ?_) (a' := ?_) (ba 37 4095) rfl rfl (any_of HT_.out (by kernel_rfl)) (fun _ _ _ h => h) (Or.inl ⟨by rfl,?_⟩) ?_ ?_
                                 rotate_left
                                 · intro w'
                                   go_simp
                                   with_reducible rfl
                                 rotate_left
                                 · simp only [Act.put,NRM]
                                   rfl
                                 refine pure_ (i := 12) (N := some 139) (v := ?_) (a' := ?_) (ba 37 8191) rfl rfl (any_of HT_.out (by kernel_rfl)) (fun _ _ _ h => h) (Or.inl ⟨by rfl,?_⟩) ?_ ?_
                                 rotate_left
                                 · intro w'
                                   go_simp
                                   with_reducible rfl
                                 rotate_left
                                 · simp only [Act.put,NRM]
                                   rfl
                                 refine pure_ (i := 15) (N := some 142) (v := ?_) (a' := ?_) (ba 37 40959) rfl rfl (any_of HT_.out (by kernel_rfl)) (fun _ _ _ h => h) (Or.inl ⟨by rfl,?_⟩) ?_ ?_
                                 rotate_left
                                 · intro w'
                                   go_simp
                                   with_reducible rfl
                                 rotate_left
                                 · simp only [Act.put,NRM]
                                   rfl
                                 refine pure_ (i := 16) (N := some 143) (v := ?_) (a' := ?_) (ba 37 106495) rfl rfl (any_of HT_.out (by kernel_rfl)) (fun _ _ _ h => h) (Or.inl ⟨by rfl,?_⟩) ?_ ?_
                                 rotate_left
                                 · intro w'
                                   go_simp
                                   with_reducible rfl
                                 rotate_left
                                 · simp only [Act.put,NRM]
                                   rfl
                                 refine pure_ (i := 17) (N := some 144) (v := ?_) (a' := ?_) (ba 37 237567) rfl rfl (any_of HT_.out (by kernel_rfl)) (fun _ _ _ h => h) (Or.inl ⟨by rfl,?_⟩) ?_ ?_
                                 rotate_left
                                 · intro w'
                                   go_simp
                                   with_reducible rfl
                                 rotate_left
                                 · simp only [Act.put,NRM]
                                   rfl
                                 refine take_ (i := 13) (N := some 140) (v := ?_) (a' := ?_) (ba 37 245759) rfl rfl (take_ofW HT_.out HW_.out (by kernel_rfl)) (fun _ _ _ h => h) (Or.inl ⟨by rfl,?_⟩) hHeld ?_ ?_
                                 rotate_left
                                 · rintro w' ⟨s0,s1,s2,s3⟩
                                   go_simp
                                   with_reducible rfl
                                 rotate_left
                                 · simp only [Act.put,NRM]
                                   rfl
                                 refine pure_ (i := 14) (N := some 141) (v := ?_) (a' := ?_) (ba 37 262143) rfl rfl (any_of HT_.out (by kernel_rfl)) (fun _ _ _ h => h) (Or.inl ⟨by rfl,?_⟩) ?_ ?_
                                 rotate_left
                                 · intro w'
                                   go_simp
                                   with_reducible rfl
                                 rotate_left
                                 · simp only [Act.put,NRM]
                                   rfl
                                 refine take_ (i := 18) (N := some 145) (v := ?_) (a' := ?_) (ba 37 524287) rfl rfl (take_ofW HT_.out HW_.out (by kernel_rfl)) (fun _ _ _ h => h) (Or.inl ⟨by rfl,?_⟩) hHeld ?_ ?_
                                 rotate_left
                                 · rintro w' ⟨s0,s1,s2,s3⟩
                                   go_simp
                                   with_reducible rfl
                                 rotate_left
                                 · simp only [Act.put,NRM]
                                   rfl
                                 refine pure_ (i := 19) (N := some 146) (v := ?_) (a' := ?_) (ba 37 1048575) rfl rfl (any_of HT_.out (by kernel_rfl)) (fun _ _ _ h => h) (Or.inl ⟨by rfl,?_⟩) ?_ ?_
                                 rotate_left
                                 · intro w'
                                   go_simp
                                   with_reducible rfl
                                 rotate_left
                                 · simp only [Act.put,NRM]
                                   rfl
                                 refine pure_ (i := 20) (N := some 147) (v := ?_) (a' := ?_) (ba 37 2097151) rfl rfl (any_of HT_.out (by kernel_rfl)) (fun _ _ _ h => h) (Or.inl ⟨by rfl,?_⟩) ?_ ?_
                                 rotate_left
                                 · intro w'
                                   go_simp
                                   with_reducible rfl
                                 rotate_left
                                 · simp only [Act.put,NRM]
                                   rfl
                                 refine pure_ (i := 21) (N := some 148) (v := ?_) (a' := ?_) (ba 37 4194303) rfl rfl (any_of HT_.out (by kernel_rfl)) (fun _ _ _ h => h) (Or.inl ⟨by rfl,?_⟩) ?_ ?_
                                 rotate_left
                                 · intro w'
                                   go_simp
                                   with_reducible rfl
                                 rotate_left
                                 · simp only [Act.put,NRM]
                                   rfl
                                 refine pure_ (i := 22) (N := some 149) (v := ?_) (a' := ?_) (ba 37 8388607) rfl rfl (any_of HT_.out (by kernel_rfl)) (fun _ _ _ h => h) (Or.inl ⟨by rfl,?_⟩) ?_ ?_
                                 rotate_left
                                 · intro w'
                                   go_simp
                                   with_reducible rfl
                                 rotate_left
                                 · simp only [Act.put,NRM]
                                   rfl
                                 refine pure_ (i := 23) (N := some 150) (v := ?_) (a' := ?_) (ba 37 16777215) rfl rfl (any_of HT_.out (by kernel_rfl)) (fun _ _ _ h => h) (Or.inl ⟨by rfl,?_⟩) ?_ ?_
                                 rotate_left
                                 · intro w'
                                   go_simp
                                   with_reducible rfl
                                 rotate_left
                                 · simp only [Act.put,NRM]
                                   rfl
                                 refine pure_ (i := 24) (N := some 151) (v := ?_) (a' := ?_) (ba 37 33554431) rfl rfl (any_of HT_.out (by kernel_rfl)) (fun _ _ _ h => h) (Or.inl ⟨by rfl,?_⟩) ?_ ?_
                                 rotate_left
                                 · intro w'
                                   go_simp
                                   with_reducible rfl
                                 rotate_left
                                 · simp only [Act.put,NRM]
                                   rfl
                                 refine pure_ (i := 25) (N := some 152) (v := ?_) (a' := ?_) (ba 37 67108863) rfl rfl (any_of HT_.out (by kernel_rfl)) (fun _ _ _ h => h) (Or.inl ⟨by rfl,?_⟩) ?_ ?_
                                 rotate_left
                                 · intro w'
                                   go_simp
                                   with_reducible rfl
                                 rotate_left
                                 · simp only [Act.put,NRM]
                                   rfl
                                 refine pure_ (i := 27) (N := some 154) (v := ?_) (a' := ?_) (ba 37 201326591) rfl rfl (any_of HT_.out (by kernel_rfl)) (fun _ _ _ h => h) (Or.inl ⟨by rfl,?_⟩) ?_ ?_
                                 rotate_left
                                 · intro w'
                                   go_simp
                                   with_reducible rfl
                                 rotate_left
                                 · simp only [Act.put,NRM]
                                   rfl
                                 refine pure_ (i := 30) (N := some 157) (v := ?_) (a' := ?_) (ba 37 1275068415) rfl rfl (any_of HT_.out (by kernel_rfl)) (fun _ _ _ h => h) (Or.inl ⟨by rfl,?_⟩) ?_ ?_
                                 rotate_left
                                 · intro w'
                                   go_simp
                                   with_reducible rfl
                                 rotate_left
                                 · simp only [Act.put,NRM]
                                   rfl
                                 refine take_ (i := 26) (N := some 153) (v := ?_) (a' := ?_) (ba 37 1342177279) rfl rfl (take_ofW HT_.out HW_.out (by kernel_rfl)) (fun _ _ _ h => h) (Or.inl ⟨by rfl,?_⟩) hHeld ?_ ?_
                                 rotate_left
                                 · rintro w' ⟨s0,s1,s2,s3⟩
                                   go_simp
                                   with_reducible rfl
                                 rotate_left
                                 · simp only [Act.put,NRM]
                                   rfl
                                 refine pure_ (i := 28) (N := some 155) (v := ?_) (a' := ?_) (ba 37 1610612735) rfl rfl (any_of HT_.out (by kernel_rfl)) (fun _ _ _ h => h) (Or.inl ⟨by rfl,?_⟩) ?_ ?_
                                 rotate_left
                                 · intro w'
                                   go_simp
                                   with_reducible rfl
                                 rotate_left
                                 · simp only [Act.put,NRM]
                                   rfl
                                 refine take_ (i := 29) (N := some 156) (v := ?_) (a' := ?_) (ba 37 2147483647) rfl rfl (take_ofW HT_.out HW_.out (by kernel_rfl)) (fun _ _ _ h => h) (Or.inl ⟨by rfl,?_⟩) hHeld ?_ ?_
                                 rotate_left
                                 · rintro w' ⟨s0,s1,s2,s3⟩
                                   go_simp
                                   with_reducible rfl
                                 rotate_left
                                 · simp only [Act.put,NRM]
                                   rfl
                                 refine pure_ (i := 31) (N := some 158) (v := ?_) (a' := ?_) (ba 37 4294967295) rfl rfl (any_of HT_.out (by kernel_rfl)) (fun _ _ _ h => h) (Or.inl ⟨by rfl,?_⟩) ?_ ?_
                                 rotate_left
                                 · intro w'
                                   go_simp
                                   with_reducible rfl
                                 rotate_left
                                 · simp only [Act.put,NRM]
                                   rfl
                                 refine pure_ (i := 32) (N := some 159) (v := ?_) (a' := ?_) (ba 37 8589934591) rfl rfl (any_of HT_.out (by kernel_rfl)) (fun _ _ _ h => h) (Or.inl ⟨by rfl,?_⟩) ?_ ?_
                                 rotate_left
                                 · intro w'
                                   go_simp
                                   with_reducible rfl
                                 rotate_left
                                 · simp only [Act.put,NRM]
                                   rfl
                                 refine pure_ (i := 33) (N := some 160) (v := ?_) (a' := ?_) (ba 37 17179869183) rfl rfl (any_of HT_.out (by kernel_rfl)) (fun _ _ _ h => h) (Or.inl ⟨by rfl,?_⟩) ?_ ?_
                                 rotate_left
                                 · intro w'
                                   go_simp
                                   with_reducible rfl
                                 rotate_left
                                 · simp only [Act.put,NRM]
                                   rfl
                                 refine one_ (i := 34) (N := some 161) (ba 37 34359738367) rfl rfl (one_of HT_.out (by kernel_rfl)) (by decide) (fun K hK => ?_)
                                 refine goes_ Tryz.func19 (by kernel_rfl) rfl #[] (by rfl) rfl rfl (by (try simp only [List.map_toArray,List.map_cons,List.map_nil]);first | done | rfl | (simp only [List.length_drop,List.length_take];rfl)) ?_
                                 with_reducible refine (l4_known.calls  t810 _ A88.out).mono ?_
                                 rintro e w93 ⟨rfl,hb⟩
                                 have HS0_ := (hb.cell (World.block_lt_of_cell? _ _ (hHeld.1))).trans (hHeld.1)
                                 have HS1_ := (hb.cell (World.block_lt_of_cell? _ _ (hHeld.2.1))).trans (hHeld.2.1)
                                 have HS2_ := (hb.cell (World.block_lt_of_cell? _ _ (hHeld.2.2.1))).trans (hHeld.2.2.1)
                                 have HS3_ := (hb.cell (World.block_lt_of_cell? _ _ (hHeld.2.2.2))).trans (hHeld.2.2.2)
                                 refine ⟨_,rfl,?_⟩
                                 replace HO_13 := am (Kd.N_below HO_13.out hb)
                                 replace HO801 := am (Kd.N_below HO801.out hb)
                                 replace HO804 := am (Kd.R_below HO804.out hb)
                                 replace HL806_0 := am (Kd.V_below HL806_0.out hb)
                                 replace HL807_0 := am (Kd.V_below HL807_0.out hb)
                                 replace HL808_0 := am (Kd.V_below HL808_0.out hb)
                                 replace BK777 := (kmv hb BK777)
                                 replace HR795_0 := am (kC (by repeat (first | (with_reducible exact HR795_0.out) | (with_reducible refine Kd.C_alloc ?_ _) | (with_reducible refine Kd.C_drewN ?_ _) | (with_reducible refine Kd.C_drew ?_) | exact HR795_0.out)) hb)
                                 replace HR806_0 := am (kC (by repeat (first | (with_reducible exact HR806_0.out) | (with_reducible refine Kd.C_alloc ?_ _) | (with_reducible refine Kd.C_drewN ?_ _) | (with_reducible refine Kd.C_drew ?_) | exact HR806_0.out)) hb)
                                 replace HR807_0 := am (kC (by repeat (first | (with_reducible exact HR807_0.out) | (with_reducible refine Kd.C_alloc ?_ _) | (with_reducible refine Kd.C_drewN ?_ _) | (with_reducible refine Kd.C_drew ?_) | exact HR807_0.out)) hb)
                                 replace HR808_0 := am (kC (by repeat (first | (with_reducible exact HR808_0.out) | (with_reducible refine Kd.C_alloc ?_ _) | (with_reducible refine Kd.C_drewN ?_ _) | (with_reducible refine Kd.C_drew ?_) | exact HR808_0.out)) hb)
                                 replace HB := am (below_step (HB.out) hb)
                                 (try clear hb)
                                 (try clear hb2)
                                 (try clear hk)
                                 (try clear hi)
                                 refine hK.out _ _ ⟨HS0_,HS1_,HS2_,HS3_⟩ (fun hHeld => ?_)
                                 clear hK K
                                 refine norm_ (a' := ?_) ?_ ?_
                                 rotate_left
                                 · show Act.put _ (some 161) _ = _
                                   simp only [Act.put,NRM]
                                   rfl
                                 refine pure_ (i := 35) (N := some 162) (v := ?_) (a' := ?_) (ba 37 68719476735) rfl rfl (any_of HT_.out (by kernel_rfl)) (fun _ _ _ h => h) (Or.inl ⟨by rfl,?_⟩) ?_ ?_
                                 rotate_left
                                 · intro w'
                                   go_simp
                                   with_reducible rfl
                                 rotate_left
                                 · simp only [Act.put,NRM]
                                   rfl
                                 refine pure_ (i := 36) (N := some 10) (v := ?_) (a' := ?_) (ba 37 137438953471) rfl rfl (any_of HT_.out (by kernel_rfl)) (fun _ _ _ h => h) (Or.inl ⟨by rfl,?_⟩) ?_ ?_
                                 rotate_left
                                 · intro w'
                                   go_simp
                                   with_reducible rfl
                                 rotate_left
                                 · simp only [Act.put,NRM]
                                   rfl
                                 refine done_ (done_of HT_.out (by kernel_rfl)) ?_
                                 try go_wp2
                                 go_ret
                                 exact ⟨by first | rfl | (simp [*] <;> rfl),HB.out⟩
end
end Go.Proofs.YtnnmnhpeblhiiaaGreatDoor.C

/- A part of the proof: the walks of the functions that it reaches. TIGHT. -/
import Derived.Test.YticlelgmmonloaaGreatDoorM12
import Derived.Test.YticlelgmmonloaaGreatDoorM13
import Derived.Test.YticlelgmmonloaaGreatDoorM15
namespace Go.Proofs.YticlelgmmonloaaGreatDoor.C
open Go.RowKit Go.Proofs.YticlelgmmonloaaGreatDoorW.PrintWords Go.Proofs.YticlelgmmonloaaGreatDoorW.PrintLast Go.Proofs.YticlelgmmonloaaGreatDoorW.PrintMore
set_option linter.unusedVariables false
set_option linter.unusedSimpArgs false
set_option maxHeartbeats 16000000
set_option maxRecDepth 100000
section
attribute [local go_sem] max2_int min2_int max_two min_two
def q1_Same.l0 : Nat → List Int → List Int → Int → Option (Bool)
 | 0,_,_,_ => none
 | k + 1,x0,x1,x5 => if x5 < (x0.length : Int) then (if 0 ≤ x5 then (if x5 < (x1.length : Int) then (if (rd x0 x5) = (rd x1 x5) then (q1_Same.l0 k x0 x1 (wrap64 (x5 + 1))) else (some false)) else (none)) else (none)) else (some true)
def q1_Same.f (k : Nat) (l0 : List Int) (l1 : List Int) : Option (Bool) := if (l0.length : Int) = (l1.length : Int) then (q1_Same.l0 k l0 l1 0) else (some false)
theorem q1_Same.calls (k : Nat) (A0 : Option Addr) (c0 : Nat) (l0 : List Int) (A1 : Option Addr) (c1 : Nat) (l1 : List Int) (r : Bool) (w : World) (hr0 : Kd.C (Kd.int .i64) w A0 l0.length l0) (hc0 : l0.length ≤ c0) (hr1 : Kd.C (Kd.int .i64) w A1 l1.length l1) (hc1 : l1.length ≤ c1) (h : q1_Same.f k l0 l1 = some r) :
 Calls Tryz.prog 65 #[.slice A0 l0.length c0,.slice A1 l1.length c1] w fun e w' => e = .returned (.bool r) ∧ Drawn0 w w' := by
 have HR0 := am hr0
 have HC0 := am hc0
 clear hr0 hc0
 have HR1 := am hr1
 have HC1 := am hc1
 clear hr1 hc1
 have H : (if (l0.length : Int) = (l1.length : Int) then (q1_Same.l0 k l0 l1 0) else (some false)) = some r := h
 clear h
 by_cases c3 : (l0.length : Int) = (l1.length : Int)
 case neg =>
  rw [if_neg c3] at H
  have c3b0 : ((l0.length : Int) == (l1.length : Int)) = false := beq_eq_false_iff_ne.mpr c3
  have c3b1 : ((l0.length : Int) != (l1.length : Int)) = true := bne_iff_ne.mpr c3
  have c3b2 : (l0.length == l1.length) = false := by first | simpa using c3 | (simp at c3 ⊢;omega)
  obtain rfl := Option.some.inj H
  go_enter Tryz.func65,Tryz.ntmps65
  go_wp2
  repeat (go_quiet (fail);try go_wp2)
  go_ret
  exact ⟨by first | rfl | (simp;done) | (simp [*];done),by repeat (first | exact Drawn0.refl _ | apply Drawn0.step)⟩
 rw [if_pos c3] at H
 have c3b0 : ((l0.length : Int) == (l1.length : Int)) = true := beq_iff_eq.mpr c3
 have c3b1 : ((l0.length : Int) != (l1.length : Int)) = false := bne_eq_false_iff_eq.mpr c3
 have c3b2 : (l0.length == l1.length) = true := by first | simpa using c3 | (simp at c3 ⊢;omega)
 clear c3
 replace H' := am H
 go_enter Tryz.func65,Tryz.ntmps65
 go_wp2
 repeat (go_quiet (fail);try go_wp2)
 go_loopg [5] k (fun kq v5 w' => ∃ (x5_1 : Int),v5 = .int .i64 x5_1 ∧ Aside0 (q1_Same.l0 kq l0 l1 x5_1 = some r) ∧ Aside0 (kq ≤ k) ∧ Drawn0 w w')
 case atStart => exact ⟨(0),(by first | rfl | (simp;done) | (simp [*];done)),H',⟨Nat.le_refl _⟩,by repeat (first | exact Drawn0.refl _ | apply Drawn0.step)⟩
 case round =>
  clear H'
  obtain ⟨x5_1,rfl,HA,HK1,⟨m1,rfl⟩⟩ := hrel
  cases gk with
  | zero => exact absurd HA.out (by simp [q1_Same.l0])
  | succ k1 =>
   have H := HA.out
   clear HA
   simp only [q1_Same.l0] at H
   by_cases c4 : x5_1 < (l0.length : Int)
   case neg =>
    rw [if_neg c4] at H
    have c4b0 : decide (x5_1 < (l0.length : Int)) = false := decide_eq_false c4
    clear c4
    obtain rfl := Option.some.inj H
    go_wp2
    repeat (go_quiet (fail);try go_wp2)
    go_ret
    exact ⟨by first | rfl | (simp;done) | (simp [*];done),by repeat (first | exact Drawn0.refl _ | apply Drawn0.step)⟩
   rw [if_pos c4] at H
   have c4b0 : decide (x5_1 < (l0.length : Int)) = true := decide_eq_true c4
   clear c4
   by_cases c5 : 0 ≤ x5_1
   case neg =>
    rw [if_neg c5] at H
    exact absurd H (by simp)
   rw [if_pos c5] at H
   have c5b0 : decide (0 ≤ x5_1) = true := decide_eq_true c5
   clear c5
   by_cases c6 : x5_1 < (l1.length : Int)
   case neg =>
    rw [if_neg c6] at H
    exact absurd H (by simp)
   rw [if_pos c6] at H
   have c6b0 : decide (x5_1 < (l1.length : Int)) = true := decide_eq_true c6
   clear c6
   by_cases c7 : (rd l0 x5_1) = (rd l1 x5_1)
   case neg =>
    rw [if_neg c7] at H
    have c7b0 : ((rd l0 x5_1) == (rd l1 x5_1)) = false := beq_eq_false_iff_ne.mpr c7
    have c7b1 : ((rd l0 x5_1) != (rd l1 x5_1)) = true := bne_iff_ne.mpr c7
    obtain rfl := Option.some.inj H
    have p189 : 0 ≤ (x5_1 : Int) := of_decide_eq_true (by assumption)
    have q189 : x5_1 < (l0.length : Int) := of_decide_eq_true (by assumption)
    obtain ⟨ad189,e189,hx189_0⟩ := Kd.at_int HR0.out x5_1 p189 q189
    cases e189
    replace p189 := eq_true p189
    replace q189 := eq_true q189
    have p190 : 0 ≤ (x5_1 : Int) := of_decide_eq_true (by assumption)
    have q190 : x5_1 < (l1.length : Int) := of_decide_eq_true (by assumption)
    obtain ⟨ad190,e190,hx190_0⟩ := Kd.at_int HR1.out x5_1 p190 q190
    cases e190
    replace p190 := eq_true p190
    replace q190 := eq_true q190
    go_wp2
    repeat (go_quiet (fail);try go_wp2)
    go_ret
    exact ⟨by first | rfl | (simp;done) | (simp [*];done),by repeat (first | exact Drawn0.refl _ | apply Drawn0.step)⟩
   rw [if_pos c7] at H
   have c7b0 : ((rd l0 x5_1) == (rd l1 x5_1)) = true := beq_iff_eq.mpr c7
   have c7b1 : ((rd l0 x5_1) != (rd l1 x5_1)) = false := bne_eq_false_iff_eq.mpr c7
   clear c7
   replace H' := am H
   have p189 : 0 ≤ (x5_1 : Int) := of_decide_eq_true (by assumption)
   have q189 : x5_1 < (l0.length : Int) := of_decide_eq_true (by assumption)
   obtain ⟨ad189,e189,hx189_0⟩ := Kd.at_int HR0.out x5_1 p189 q189
   cases e189
   replace p189 := eq_true p189
   replace q189 := eq_true q189
   have p190 : 0 ≤ (x5_1 : Int) := of_decide_eq_true (by assumption)
   have q190 : x5_1 < (l1.length : Int) := of_decide_eq_true (by assumption)
   obtain ⟨ad190,e190,hx190_0⟩ := Kd.at_int HR1.out x5_1 p190 q190
   cases e190
   replace p190 := eq_true p190
   replace q190 := eq_true q190
   go_wp2
   repeat (go_quiet (fail);try go_wp2)
   go_roundg k1
   case measure => have := HK1.out;omega
   case rel => exact ⟨(wrap64 (x5_1 + 1)),(by first | rfl | (simp;done) | (simp [*];done)),H',⟨by have := HK1.out;omega⟩,by repeat (first | exact Drawn0.refl _ | apply Drawn0.step)⟩
def q4_Same.f (k : Nat) (l0 : List Int) (l1 : List Int) : Option (Bool) := (q1_Same.f k l0 l1).bind fun t191 => (some t191)
theorem q4_Same.calls (k : Nat) (A0 : Option Addr) (c0 : Nat) (l0 : List Int) (A1 : Option Addr) (c1 : Nat) (l1 : List Int) (r : Bool) (w : World) (hr0 : Kd.C (Kd.int .i64) w A0 l0.length l0) (hc0 : l0.length ≤ c0) (hr1 : Kd.C (Kd.int .i64) w A1 l1.length l1) (hc1 : l1.length ≤ c1) (h : q4_Same.f k l0 l1 = some r) :
 Calls Tryz.prog 20 #[.slice A0 l0.length c0,.slice A1 l1.length c1] w fun e w' => e = .returned (.bool r) ∧ Drawn0 w w' := by
 have HR0 := am hr0
 have HC0 := am hc0
 clear hr0 hc0
 have HR1 := am hr1
 have HC1 := am hc1
 clear hr1 hc1
 have H : ((q1_Same.f k l0 l1).bind fun t191 => (some t191)) = some r := h
 clear h
 replace H := obm H
 obtain ⟨t191,A30,H⟩ := H
 (try dsimp only at H)
 have A3 := am A30
 clear A30
 obtain rfl := Option.some.inj H
 go_enter Tryz.func20,Tryz.ntmps20
 go_wp2_with (first | ((with_reducible refine gate_callee (f := 65) rfl ?_);refine goesL_ (some 7) rfl rfl Tryz.func65 (by kernel_rfl) rfl #[.slice A0 l0.length c0,.slice A1 l1.length c1] rfl (by (try simp only [List.map_toArray,List.map_cons,List.map_nil]);first | done | rfl | (simp only [List.length_drop,List.length_take];rfl)) ?_;(refine (q1_Same.calls k _ _ l0 _ _ l1 t191 _ ?side1 ?side2 ?side3 ?side4 A3.out).mono ?_);(case side1 => repeat (first | exact HR0.out | (with_reducible refine Kd.C_alloc ?_ _) | (with_reducible refine Kd.C_drewN ?_ _) | (with_reducible refine Kd.C_drew ?_)));(case side2 => exact HC0.out);(case side3 => repeat (first | exact HR1.out | (with_reducible refine Kd.C_alloc ?_ _) | (with_reducible refine Kd.C_drewN ?_ _) | (with_reducible refine Kd.C_drew ?_)));(case side4 => exact HC1.out);rintro e w' ⟨rfl,⟨nd,rfl⟩⟩;refine ⟨_,rfl,?_⟩))
 go_ret
 exact ⟨by first | rfl | (simp;done) | (simp [*];done),by repeat (first | exact Drawn0.refl _ | apply Drawn0.step)⟩
end
section
attribute [local go_sem] max2_int min2_int max_two min_two
attribute [local go_sem high] eqA40
def q4_SameSpans.l0 : Nat → List (S40) → List (S40) → Int → Option (Bool)
 | 0,_,_,_ => none
 | k + 1,x0,x1,x5 => if x5 < (x0.length : Int) then (if 0 ≤ x5 then (if x5 < (x1.length : Int) then (if (!(((rd_T40 x0 x5).f0) == ((rd_T40 x1 x5).f0)) || (!(((rd_T40 x0 x5).f1) == ((rd_T40 x1 x5).f1)))) = true then (some false) else (q4_SameSpans.l0 k x0 x1 (wrap64 (x5 + 1)))) else (none)) else (none)) else (some true)
def q4_SameSpans.f (k : Nat) (l0 : List (S40)) (l1 : List (S40)) : Option (Bool) := if (l0.length : Int) = (l1.length : Int) then (q4_SameSpans.l0 k l0 l1 0) else (some false)
theorem q4_SameSpans.calls (k : Nat) (A0 : Option Addr) (c0 : Nat) (l0 : List (S40)) (A1 : Option Addr) (c1 : Nat) (l1 : List (S40)) (r : Bool) (w : World) (hr0 : Kd.C k40 w A0 l0.length l0) (hc0 : l0.length ≤ c0) (hr1 : Kd.C k40 w A1 l1.length l1) (hc1 : l1.length ≤ c1) (h : q4_SameSpans.f k l0 l1 = some r) :
 Calls Tryz.prog 29 #[.slice A0 l0.length c0,.slice A1 l1.length c1] w fun e w' => e = .returned (.bool r) ∧ Drawn0 w w' := by
 have hu40 := Tryz.underlying40
 have HR0 := am hr0
 have HC0 := am hc0
 clear hr0 hc0
 have HR1 := am hr1
 have HC1 := am hc1
 clear hr1 hc1
 have H : (if (l0.length : Int) = (l1.length : Int) then (q4_SameSpans.l0 k l0 l1 0) else (some false)) = some r := h
 clear h
 by_cases c3 : (l0.length : Int) = (l1.length : Int)
 case neg =>
  rw [if_neg c3] at H
  have c3b0 : ((l0.length : Int) == (l1.length : Int)) = false := beq_eq_false_iff_ne.mpr c3
  have c3b1 : ((l0.length : Int) != (l1.length : Int)) = true := bne_iff_ne.mpr c3
  have c3b2 : (l0.length == l1.length) = false := by first | simpa using c3 | (simp at c3 ⊢;omega)
  obtain rfl := Option.some.inj H
  go_enter Tryz.func29,Tryz.ntmps29
  go_wp2
  repeat (go_quiet (fail);try go_wp2)
  go_ret
  exact ⟨by first | rfl | (simp;done) | (simp [*];done),by repeat (first | exact Drawn0.refl _ | apply Drawn0.step)⟩
 rw [if_pos c3] at H
 have c3b0 : ((l0.length : Int) == (l1.length : Int)) = true := beq_iff_eq.mpr c3
 have c3b1 : ((l0.length : Int) != (l1.length : Int)) = false := bne_eq_false_iff_eq.mpr c3
 have c3b2 : (l0.length == l1.length) = true := by first | simpa using c3 | (simp at c3 ⊢;omega)
 clear c3
 replace H' := am H
 go_enter Tryz.func29,Tryz.ntmps29
 go_wp2
 repeat (go_quiet (fail);try go_wp2)
 go_loopg [5] k (fun kq v5 w' => ∃ (x5_1 : Int),v5 = .int .i64 x5_1 ∧ Aside0 (q4_SameSpans.l0 kq l0 l1 x5_1 = some r) ∧ Aside0 (kq ≤ k) ∧ Drawn0 w w')
 case atStart => exact ⟨(0),(by first | rfl | (simp;done) | (simp [*];done)),H',⟨Nat.le_refl _⟩,by repeat (first | exact Drawn0.refl _ | apply Drawn0.step)⟩
 case round =>
  clear H'
  obtain ⟨x5_1,rfl,HA,HK1,⟨m1,rfl⟩⟩ := hrel
  cases gk with
  | zero => exact absurd HA.out (by simp [q4_SameSpans.l0])
  | succ k1 =>
   have H := HA.out
   clear HA
   simp only [q4_SameSpans.l0] at H
   by_cases c4 : x5_1 < (l0.length : Int)
   case neg =>
    rw [if_neg c4] at H
    have c4b0 : decide (x5_1 < (l0.length : Int)) = false := decide_eq_false c4
    clear c4
    obtain rfl := Option.some.inj H
    go_wp2
    repeat (go_quiet (fail);try go_wp2)
    go_ret
    exact ⟨by first | rfl | (simp;done) | (simp [*];done),by repeat (first | exact Drawn0.refl _ | apply Drawn0.step)⟩
   rw [if_pos c4] at H
   have c4b0 : decide (x5_1 < (l0.length : Int)) = true := decide_eq_true c4
   clear c4
   by_cases c5 : 0 ≤ x5_1
   case neg =>
    rw [if_neg c5] at H
    exact absurd H (by simp)
   rw [if_pos c5] at H
   have c5b0 : decide (0 ≤ x5_1) = true := decide_eq_true c5
   clear c5
   by_cases c6 : x5_1 < (l1.length : Int)
   case neg =>
    rw [if_neg c6] at H
    exact absurd H (by simp)
   rw [if_pos c6] at H
   have c6b0 : decide (x5_1 < (l1.length : Int)) = true := decide_eq_true c6
   clear c6
   by_cases c7 : (!(((rd_T40 l0 x5_1).f0) == ((rd_T40 l1 x5_1).f0)) || (!(((rd_T40 l0 x5_1).f1) == ((rd_T40 l1 x5_1).f1)))) = true
   · rw [if_pos c7] at H
     have c7b0 : (!(((rd_T40 l0 x5_1).f0) == ((rd_T40 l1 x5_1).f0)) || (!(((rd_T40 l0 x5_1).f1) == ((rd_T40 l1 x5_1).f1)))) = true := c7
     clear c7
     obtain rfl := Option.some.inj H
     have p280 : 0 ≤ (x5_1 : Int) := of_decide_eq_true (by assumption)
     have q280 : x5_1 < (l0.length : Int) := of_decide_eq_true (by assumption)
     obtain ⟨ad280,e280,hx280_0,hx280_1⟩ := at_T40 HR0.out x5_1 p280 q280
     cases e280
     replace p280 := eq_true p280
     replace q280 := eq_true q280
     have p281 : 0 ≤ (x5_1 : Int) := of_decide_eq_true (by assumption)
     have q281 : x5_1 < (l1.length : Int) := of_decide_eq_true (by assumption)
     obtain ⟨ad281,e281,hx281_0,hx281_1⟩ := at_T40 HR1.out x5_1 p281 q281
     cases e281
     replace p281 := eq_true p281
     replace q281 := eq_true q281
     go_wp2
     repeat (go_quiet (fail);try go_wp2)
     go_ret
     exact ⟨by first | rfl | (simp;done) | (simp [*];done),by repeat (first | exact Drawn0.refl _ | apply Drawn0.step)⟩
   · rw [if_neg c7] at H
     have c7b0 : (!(((rd_T40 l0 x5_1).f0) == ((rd_T40 l1 x5_1).f0)) || (!(((rd_T40 l0 x5_1).f1) == ((rd_T40 l1 x5_1).f1)))) = false := by simpa using c7
     clear c7
     replace H' := am H
     have p280 : 0 ≤ (x5_1 : Int) := of_decide_eq_true (by assumption)
     have q280 : x5_1 < (l0.length : Int) := of_decide_eq_true (by assumption)
     obtain ⟨ad280,e280,hx280_0,hx280_1⟩ := at_T40 HR0.out x5_1 p280 q280
     cases e280
     replace p280 := eq_true p280
     replace q280 := eq_true q280
     have p281 : 0 ≤ (x5_1 : Int) := of_decide_eq_true (by assumption)
     have q281 : x5_1 < (l1.length : Int) := of_decide_eq_true (by assumption)
     obtain ⟨ad281,e281,hx281_0,hx281_1⟩ := at_T40 HR1.out x5_1 p281 q281
     cases e281
     replace p281 := eq_true p281
     replace q281 := eq_true q281
     go_wp2
     repeat (go_quiet (fail);try go_wp2)
     go_roundg k1
     case measure => have := HK1.out;omega
     case rel => exact ⟨(wrap64 (x5_1 + 1)),(by first | rfl | (simp;done) | (simp [*];done)),H',⟨by have := HK1.out;omega⟩,by repeat (first | exact Drawn0.refl _ | apply Drawn0.step)⟩
end
section
attribute [local go_sem] max2_int min2_int max_two min_two
theorem eqA58 (d : Nat) (w : World) (x0 y0 : Int) (x1 y1 : Int) :
 (Op.equalIn (d + 2) 58 (.agg #[.int .i64 x0,.int .i64 x1]) (.agg #[.int .i64 y0,.int .i64 y1])).run Tryz.prog w = .ok (x0 == y0 && (x1 == y1)) w := by
 refine eqA_of Tryz.underlying58 (by kernel_rfl) ?_
 refine eqf_cons (by rfl) (by go_simp;rfl) (by go_simp;rfl) (by go_simp) ?_
 exact eqf_last (by rfl) (by go_simp;rfl) (by go_simp;rfl) (by go_simp)
end
section
attribute [local go_sem] max2_int min2_int max_two min_two
attribute [local go_sem high] eqA58
def q4_SameChanges.l0 : Nat → List (S58) → List (S58) → Int → Option (Bool)
 | 0,_,_,_ => none
 | k + 1,x0,x1,x5 => if x5 < (x0.length : Int) then (if 0 ≤ x5 then (if x5 < (x1.length : Int) then (if (!(((rd_T58 x0 x5).f0) == ((rd_T58 x1 x5).f0)) || (!(((rd_T58 x0 x5).f1) == ((rd_T58 x1 x5).f1)))) = true then (some false) else (q4_SameChanges.l0 k x0 x1 (wrap64 (x5 + 1)))) else (none)) else (none)) else (some true)
def q4_SameChanges.f (k : Nat) (l0 : List (S58)) (l1 : List (S58)) : Option (Bool) := if (l0.length : Int) = (l1.length : Int) then (q4_SameChanges.l0 k l0 l1 0) else (some false)
theorem q4_SameChanges.calls (k : Nat) (A0 : Option Addr) (c0 : Nat) (l0 : List (S58)) (A1 : Option Addr) (c1 : Nat) (l1 : List (S58)) (r : Bool) (w : World) (hr0 : Kd.C k58 w A0 l0.length l0) (hc0 : l0.length ≤ c0) (hr1 : Kd.C k58 w A1 l1.length l1) (hc1 : l1.length ≤ c1) (h : q4_SameChanges.f k l0 l1 = some r) :
 Calls Tryz.prog 47 #[.slice A0 l0.length c0,.slice A1 l1.length c1] w fun e w' => e = .returned (.bool r) ∧ Drawn0 w w' := by
 have hu58 := Tryz.underlying58
 have HR0 := am hr0
 have HC0 := am hc0
 clear hr0 hc0
 have HR1 := am hr1
 have HC1 := am hc1
 clear hr1 hc1
 have H : (if (l0.length : Int) = (l1.length : Int) then (q4_SameChanges.l0 k l0 l1 0) else (some false)) = some r := h
 clear h
 by_cases c3 : (l0.length : Int) = (l1.length : Int)
 case neg =>
  rw [if_neg c3] at H
  have c3b0 : ((l0.length : Int) == (l1.length : Int)) = false := beq_eq_false_iff_ne.mpr c3
  have c3b1 : ((l0.length : Int) != (l1.length : Int)) = true := bne_iff_ne.mpr c3
  have c3b2 : (l0.length == l1.length) = false := by first | simpa using c3 | (simp at c3 ⊢;omega)
  obtain rfl := Option.some.inj H
  go_enter Tryz.func47,Tryz.ntmps47
  go_wp2
  repeat (go_quiet (fail);try go_wp2)
  go_ret
  exact ⟨by first | rfl | (simp;done) | (simp [*];done),by repeat (first | exact Drawn0.refl _ | apply Drawn0.step)⟩
 rw [if_pos c3] at H
 have c3b0 : ((l0.length : Int) == (l1.length : Int)) = true := beq_iff_eq.mpr c3
 have c3b1 : ((l0.length : Int) != (l1.length : Int)) = false := bne_eq_false_iff_eq.mpr c3
 have c3b2 : (l0.length == l1.length) = true := by first | simpa using c3 | (simp at c3 ⊢;omega)
 clear c3
 replace H' := am H
 go_enter Tryz.func47,Tryz.ntmps47
 go_wp2
 repeat (go_quiet (fail);try go_wp2)
 go_loopg [5] k (fun kq v5 w' => ∃ (x5_1 : Int),v5 = .int .i64 x5_1 ∧ Aside0 (q4_SameChanges.l0 kq l0 l1 x5_1 = some r) ∧ Aside0 (kq ≤ k) ∧ Drawn0 w w')
 case atStart => exact ⟨(0),(by first | rfl | (simp;done) | (simp [*];done)),H',⟨Nat.le_refl _⟩,by repeat (first | exact Drawn0.refl _ | apply Drawn0.step)⟩
 case round =>
  clear H'
  obtain ⟨x5_1,rfl,HA,HK1,⟨m1,rfl⟩⟩ := hrel
  cases gk with
  | zero => exact absurd HA.out (by simp [q4_SameChanges.l0])
  | succ k1 =>
   have H := HA.out
   clear HA
   simp only [q4_SameChanges.l0] at H
   by_cases c4 : x5_1 < (l0.length : Int)
   case neg =>
    rw [if_neg c4] at H
    have c4b0 : decide (x5_1 < (l0.length : Int)) = false := decide_eq_false c4
    clear c4
    obtain rfl := Option.some.inj H
    go_wp2
    repeat (go_quiet (fail);try go_wp2)
    go_ret
    exact ⟨by first | rfl | (simp;done) | (simp [*];done),by repeat (first | exact Drawn0.refl _ | apply Drawn0.step)⟩
   rw [if_pos c4] at H
   have c4b0 : decide (x5_1 < (l0.length : Int)) = true := decide_eq_true c4
   clear c4
   by_cases c5 : 0 ≤ x5_1
   case neg =>
    rw [if_neg c5] at H
    exact absurd H (by simp)
   rw [if_pos c5] at H
   have c5b0 : decide (0 ≤ x5_1) = true := decide_eq_true c5
   clear c5
   by_cases c6 : x5_1 < (l1.length : Int)
   case neg =>
    rw [if_neg c6] at H
    exact absurd H (by simp)
   rw [if_pos c6] at H
   have c6b0 : decide (x5_1 < (l1.length : Int)) = true := decide_eq_true c6
   clear c6
   by_cases c7 : (!(((rd_T58 l0 x5_1).f0) == ((rd_T58 l1 x5_1).f0)) || (!(((rd_T58 l0 x5_1).f1) == ((rd_T58 l1 x5_1).f1)))) = true
   · rw [if_pos c7] at H
     have c7b0 : (!(((rd_T58 l0 x5_1).f0) == ((rd_T58 l1 x5_1).f0)) || (!(((rd_T58 l0 x5_1).f1) == ((rd_T58 l1 x5_1).f1)))) = true := c7
     clear c7
     obtain rfl := Option.some.inj H
     have p402 : 0 ≤ (x5_1 : Int) := of_decide_eq_true (by assumption)
     have q402 : x5_1 < (l0.length : Int) := of_decide_eq_true (by assumption)
     obtain ⟨ad402,e402,hx402_0,hx402_1⟩ := at_T58 HR0.out x5_1 p402 q402
     cases e402
     replace p402 := eq_true p402
     replace q402 := eq_true q402
     have p403 : 0 ≤ (x5_1 : Int) := of_decide_eq_true (by assumption)
     have q403 : x5_1 < (l1.length : Int) := of_decide_eq_true (by assumption)
     obtain ⟨ad403,e403,hx403_0,hx403_1⟩ := at_T58 HR1.out x5_1 p403 q403
     cases e403
     replace p403 := eq_true p403
     replace q403 := eq_true q403
     go_wp2
     repeat (go_quiet (fail);try go_wp2)
     go_ret
     exact ⟨by first | rfl | (simp;done) | (simp [*];done),by repeat (first | exact Drawn0.refl _ | apply Drawn0.step)⟩
   · rw [if_neg c7] at H
     have c7b0 : (!(((rd_T58 l0 x5_1).f0) == ((rd_T58 l1 x5_1).f0)) || (!(((rd_T58 l0 x5_1).f1) == ((rd_T58 l1 x5_1).f1)))) = false := by simpa using c7
     clear c7
     replace H' := am H
     have p402 : 0 ≤ (x5_1 : Int) := of_decide_eq_true (by assumption)
     have q402 : x5_1 < (l0.length : Int) := of_decide_eq_true (by assumption)
     obtain ⟨ad402,e402,hx402_0,hx402_1⟩ := at_T58 HR0.out x5_1 p402 q402
     cases e402
     replace p402 := eq_true p402
     replace q402 := eq_true q402
     have p403 : 0 ≤ (x5_1 : Int) := of_decide_eq_true (by assumption)
     have q403 : x5_1 < (l1.length : Int) := of_decide_eq_true (by assumption)
     obtain ⟨ad403,e403,hx403_0,hx403_1⟩ := at_T58 HR1.out x5_1 p403 q403
     cases e403
     replace p403 := eq_true p403
     replace q403 := eq_true q403
     go_wp2
     repeat (go_quiet (fail);try go_wp2)
     go_roundg k1
     case measure => have := HK1.out;omega
     case rel => exact ⟨(wrap64 (x5_1 + 1)),(by first | rfl | (simp;done) | (simp [*];done)),H',⟨by have := HK1.out;omega⟩,by repeat (first | exact Drawn0.refl _ | apply Drawn0.step)⟩
end
section
attribute [local go_sem] max2_int min2_int max_two min_two
def q4_SameLists.l0 : Nat → List (List Int) → List (List Int) → Int → Option (Bool)
 | 0,_,_,_ => none
 | k + 1,x0,x1,x5 => if x5 < (x0.length : Int) then (if 0 ≤ x5 then (if x5 < (x1.length : Int) then ((q4_Same.f k (rd_L3 x0 x5) (rd_L3 x1 x5)).bind fun t451 => (if t451 = true then (q4_SameLists.l0 k x0 x1 (wrap64 (x5 + 1))) else (some false))) else (none)) else (none)) else (some true)
def q4_SameLists.f (k : Nat) (l0 : List (List Int)) (l1 : List (List Int)) : Option (Bool) := if (l0.length : Int) = (l1.length : Int) then (q4_SameLists.l0 k l0 l1 0) else (some false)
theorem q4_SameLists.calls (k : Nat) (A0 : Option Addr) (c0 : Nat) (l0 : List (List Int)) (A1 : Option Addr) (c1 : Nat) (l1 : List (List Int)) (r : Bool) (w : World) (hr0 : Kd.C (Kd.slice 3 (Kd.int .i64)) w A0 l0.length l0) (hc0 : l0.length ≤ c0) (hr1 : Kd.C (Kd.slice 3 (Kd.int .i64)) w A1 l1.length l1) (hc1 : l1.length ≤ c1) (h : q4_SameLists.f k l0 l1 = some r) :
 Calls Tryz.prog 55 #[.slice A0 l0.length c0,.slice A1 l1.length c1] w fun e w' => e = .returned (.bool r) ∧ Drawn0 w w' := by
 have HR0 := am hr0
 have HC0 := am hc0
 clear hr0 hc0
 have HR1 := am hr1
 have HC1 := am hc1
 clear hr1 hc1
 have H : (if (l0.length : Int) = (l1.length : Int) then (q4_SameLists.l0 k l0 l1 0) else (some false)) = some r := h
 clear h
 by_cases c3 : (l0.length : Int) = (l1.length : Int)
 case neg =>
  rw [if_neg c3] at H
  have c3b0 : ((l0.length : Int) == (l1.length : Int)) = false := beq_eq_false_iff_ne.mpr c3
  have c3b1 : ((l0.length : Int) != (l1.length : Int)) = true := bne_iff_ne.mpr c3
  have c3b2 : (l0.length == l1.length) = false := by first | simpa using c3 | (simp at c3 ⊢;omega)
  obtain rfl := Option.some.inj H
  go_enter Tryz.func55,Tryz.ntmps55
  go_wp2
  repeat (go_quiet (fail);try go_wp2)
  go_ret
  exact ⟨by first | rfl | (simp;done) | (simp [*];done),by repeat (first | exact Drawn0.refl _ | apply Drawn0.step)⟩
 rw [if_pos c3] at H
 have c3b0 : ((l0.length : Int) == (l1.length : Int)) = true := beq_iff_eq.mpr c3
 have c3b1 : ((l0.length : Int) != (l1.length : Int)) = false := bne_eq_false_iff_eq.mpr c3
 have c3b2 : (l0.length == l1.length) = true := by first | simpa using c3 | (simp at c3 ⊢;omega)
 clear c3
 replace H' := am H
 go_enter Tryz.func55,Tryz.ntmps55
 go_wp2
 repeat (go_quiet (fail);try go_wp2)
 go_loopg [5] k (fun kq v5 w' => ∃ (x5_1 : Int),v5 = .int .i64 x5_1 ∧ Aside0 (q4_SameLists.l0 kq l0 l1 x5_1 = some r) ∧ Aside0 (kq ≤ k) ∧ Drawn0 w w')
 case atStart => exact ⟨(0),(by first | rfl | (simp;done) | (simp [*];done)),H',⟨Nat.le_refl _⟩,by repeat (first | exact Drawn0.refl _ | apply Drawn0.step)⟩
 case round =>
  clear H'
  obtain ⟨x5_1,rfl,HA,HK1,⟨m1,rfl⟩⟩ := hrel
  cases gk with
  | zero => exact absurd HA.out (by simp [q4_SameLists.l0])
  | succ k1 =>
   have H := HA.out
   clear HA
   simp only [q4_SameLists.l0] at H
   by_cases c4 : x5_1 < (l0.length : Int)
   case neg =>
    rw [if_neg c4] at H
    have c4b0 : decide (x5_1 < (l0.length : Int)) = false := decide_eq_false c4
    clear c4
    obtain rfl := Option.some.inj H
    go_wp2
    repeat (go_quiet (fail);try go_wp2)
    go_ret
    exact ⟨by first | rfl | (simp;done) | (simp [*];done),by repeat (first | exact Drawn0.refl _ | apply Drawn0.step)⟩
   rw [if_pos c4] at H
   have c4b0 : decide (x5_1 < (l0.length : Int)) = true := decide_eq_true c4
   clear c4
   by_cases c5 : 0 ≤ x5_1
   case neg =>
    rw [if_neg c5] at H
    exact absurd H (by simp)
   rw [if_pos c5] at H
   have c5b0 : decide (0 ≤ x5_1) = true := decide_eq_true c5
   clear c5
   by_cases c6 : x5_1 < (l1.length : Int)
   case neg =>
    rw [if_neg c6] at H
    exact absurd H (by simp)
   rw [if_pos c6] at H
   have c6b0 : decide (x5_1 < (l1.length : Int)) = true := decide_eq_true c6
   clear c6
   replace H := obm H
   obtain ⟨t451,A70,H⟩ := H
   (try dsimp only at H)
   have A7 := am A70
   clear A70
   by_cases c8 : t451 = true
   · subst c8
     rw [if_pos rfl] at H
     replace H' := am H
     have p449 : 0 ≤ (x5_1 : Int) := of_decide_eq_true (by assumption)
     have q449 : x5_1 < (l0.length : Int) := of_decide_eq_true (by assumption)
     obtain ⟨ad449,A449_0,c449_0,e449,hx449_0,hl449_0,hi449_0⟩ := at_L3 HR0.out x5_1 p449 q449
     cases e449
     have HR449_0 := am hi449_0
     have HC449_0 := am hl449_0
     clear hi449_0 hl449_0
     replace p449 := eq_true p449
     replace q449 := eq_true q449
     have p450 : 0 ≤ (x5_1 : Int) := of_decide_eq_true (by assumption)
     have q450 : x5_1 < (l1.length : Int) := of_decide_eq_true (by assumption)
     obtain ⟨ad450,A450_0,c450_0,e450,hx450_0,hl450_0,hi450_0⟩ := at_L3 HR1.out x5_1 p450 q450
     cases e450
     have HR450_0 := am hi450_0
     have HC450_0 := am hl450_0
     clear hi450_0 hl450_0
     replace p450 := eq_true p450
     replace q450 := eq_true q450
     go_wp2_with (first | (go_at_call 20;(with_reducible refine (q4_Same.calls k1 _ _ (rd_L3 l0 x5_1) _ _ (rd_L3 l1 x5_1) true _ ?side1 ?side2 ?side3 ?side4 A7.out).mono ?_);(case side1 => repeat (first | exact HR449_0.out | (with_reducible refine Kd.C_alloc ?_ _) | (with_reducible refine Kd.C_drewN ?_ _) | (with_reducible refine Kd.C_drew ?_)));(case side2 => exact HC449_0.out);(case side3 => repeat (first | exact HR450_0.out | (with_reducible refine Kd.C_alloc ?_ _) | (with_reducible refine Kd.C_drewN ?_ _) | (with_reducible refine Kd.C_drew ?_)));(case side4 => exact HC450_0.out);rintro e w' ⟨rfl,⟨nd,rfl⟩⟩;(try first | exact ⟨rfl,_,World.drewN_drewN _ _ _⟩ | exact ⟨rfl,_,Eq.trans (World.drewN_drewN _ _ _) (congrArg (World.drewN _) (Nat.add_assoc _ _ _))⟩)))
     repeat (go_quiet (first | (go_at_call 20;(with_reducible refine (q4_Same.calls k1 _ _ (rd_L3 l0 x5_1) _ _ (rd_L3 l1 x5_1) true _ ?side1 ?side2 ?side3 ?side4 A7.out).mono ?_);(case side1 => repeat (first | exact HR449_0.out | (with_reducible refine Kd.C_alloc ?_ _) | (with_reducible refine Kd.C_drewN ?_ _) | (with_reducible refine Kd.C_drew ?_)));(case side2 => exact HC449_0.out);(case side3 => repeat (first | exact HR450_0.out | (with_reducible refine Kd.C_alloc ?_ _) | (with_reducible refine Kd.C_drewN ?_ _) | (with_reducible refine Kd.C_drew ?_)));(case side4 => exact HC450_0.out);rintro e w' ⟨rfl,⟨nd,rfl⟩⟩;(try first | exact ⟨rfl,_,World.drewN_drewN _ _ _⟩ | exact ⟨rfl,_,Eq.trans (World.drewN_drewN _ _ _) (congrArg (World.drewN _) (Nat.add_assoc _ _ _))⟩)));try go_wp2_with (first | (go_at_call 20;(with_reducible refine (q4_Same.calls k1 _ _ (rd_L3 l0 x5_1) _ _ (rd_L3 l1 x5_1) true _ ?side1 ?side2 ?side3 ?side4 A7.out).mono ?_);(case side1 => repeat (first | exact HR449_0.out | (with_reducible refine Kd.C_alloc ?_ _) | (with_reducible refine Kd.C_drewN ?_ _) | (with_reducible refine Kd.C_drew ?_)));(case side2 => exact HC449_0.out);(case side3 => repeat (first | exact HR450_0.out | (with_reducible refine Kd.C_alloc ?_ _) | (with_reducible refine Kd.C_drewN ?_ _) | (with_reducible refine Kd.C_drew ?_)));(case side4 => exact HC450_0.out);rintro e w' ⟨rfl,⟨nd,rfl⟩⟩;(try first | exact ⟨rfl,_,World.drewN_drewN _ _ _⟩ | exact ⟨rfl,_,Eq.trans (World.drewN_drewN _ _ _) (congrArg (World.drewN _) (Nat.add_assoc _ _ _))⟩))))
     go_roundg k1
     case measure => have := HK1.out;omega
     case rel => exact ⟨(wrap64 (x5_1 + 1)),(by first | rfl | (simp;done) | (simp [*];done)),H',⟨by have := HK1.out;omega⟩,by repeat (first | exact Drawn0.refl _ | apply Drawn0.step)⟩
   · replace c8 := Bool.eq_false_iff.mpr c8
     subst c8
     rw [if_neg (show ¬ (false = true) by decide)] at H
     obtain rfl := Option.some.inj H
     have p449 : 0 ≤ (x5_1 : Int) := of_decide_eq_true (by assumption)
     have q449 : x5_1 < (l0.length : Int) := of_decide_eq_true (by assumption)
     obtain ⟨ad449,A449_0,c449_0,e449,hx449_0,hl449_0,hi449_0⟩ := at_L3 HR0.out x5_1 p449 q449
     cases e449
     have HR449_0 := am hi449_0
     have HC449_0 := am hl449_0
     clear hi449_0 hl449_0
     replace p449 := eq_true p449
     replace q449 := eq_true q449
     have p450 : 0 ≤ (x5_1 : Int) := of_decide_eq_true (by assumption)
     have q450 : x5_1 < (l1.length : Int) := of_decide_eq_true (by assumption)
     obtain ⟨ad450,A450_0,c450_0,e450,hx450_0,hl450_0,hi450_0⟩ := at_L3 HR1.out x5_1 p450 q450
     cases e450
     have HR450_0 := am hi450_0
     have HC450_0 := am hl450_0
     clear hi450_0 hl450_0
     replace p450 := eq_true p450
     replace q450 := eq_true q450
     go_wp2_with (first | (go_at_call 20;(with_reducible refine (q4_Same.calls k1 _ _ (rd_L3 l0 x5_1) _ _ (rd_L3 l1 x5_1) false _ ?side1 ?side2 ?side3 ?side4 A7.out).mono ?_);(case side1 => repeat (first | exact HR449_0.out | (with_reducible refine Kd.C_alloc ?_ _) | (with_reducible refine Kd.C_drewN ?_ _) | (with_reducible refine Kd.C_drew ?_)));(case side2 => exact HC449_0.out);(case side3 => repeat (first | exact HR450_0.out | (with_reducible refine Kd.C_alloc ?_ _) | (with_reducible refine Kd.C_drewN ?_ _) | (with_reducible refine Kd.C_drew ?_)));(case side4 => exact HC450_0.out);rintro e w' ⟨rfl,⟨nd,rfl⟩⟩;(try first | exact ⟨rfl,_,World.drewN_drewN _ _ _⟩ | exact ⟨rfl,_,Eq.trans (World.drewN_drewN _ _ _) (congrArg (World.drewN _) (Nat.add_assoc _ _ _))⟩)))
     repeat (go_quiet (first | (go_at_call 20;(with_reducible refine (q4_Same.calls k1 _ _ (rd_L3 l0 x5_1) _ _ (rd_L3 l1 x5_1) false _ ?side1 ?side2 ?side3 ?side4 A7.out).mono ?_);(case side1 => repeat (first | exact HR449_0.out | (with_reducible refine Kd.C_alloc ?_ _) | (with_reducible refine Kd.C_drewN ?_ _) | (with_reducible refine Kd.C_drew ?_)));(case side2 => exact HC449_0.out);(case side3 => repeat (first | exact HR450_0.out | (with_reducible refine Kd.C_alloc ?_ _) | (with_reducible refine Kd.C_drewN ?_ _) | (with_reducible refine Kd.C_drew ?_)));(case side4 => exact HC450_0.out);rintro e w' ⟨rfl,⟨nd,rfl⟩⟩;(try first | exact ⟨rfl,_,World.drewN_drewN _ _ _⟩ | exact ⟨rfl,_,Eq.trans (World.drewN_drewN _ _ _) (congrArg (World.drewN _) (Nat.add_assoc _ _ _))⟩)));try go_wp2_with (first | (go_at_call 20;(with_reducible refine (q4_Same.calls k1 _ _ (rd_L3 l0 x5_1) _ _ (rd_L3 l1 x5_1) false _ ?side1 ?side2 ?side3 ?side4 A7.out).mono ?_);(case side1 => repeat (first | exact HR449_0.out | (with_reducible refine Kd.C_alloc ?_ _) | (with_reducible refine Kd.C_drewN ?_ _) | (with_reducible refine Kd.C_drew ?_)));(case side2 => exact HC449_0.out);(case side3 => repeat (first | exact HR450_0.out | (with_reducible refine Kd.C_alloc ?_ _) | (with_reducible refine Kd.C_drewN ?_ _) | (with_reducible refine Kd.C_drew ?_)));(case side4 => exact HC450_0.out);rintro e w' ⟨rfl,⟨nd,rfl⟩⟩;(try first | exact ⟨rfl,_,World.drewN_drewN _ _ _⟩ | exact ⟨rfl,_,Eq.trans (World.drewN_drewN _ _ _) (congrArg (World.drewN _) (Nat.add_assoc _ _ _))⟩))))
     go_ret
     exact ⟨by first | rfl | (simp;done) | (simp [*];done),by repeat (first | exact Drawn0.refl _ | apply Drawn0.step)⟩
theorem eqA64 (d : Nat) (w : World) (x0 y0 : Int) (x1 y1 : Int) :
 (Op.equalIn (d + 2) 64 (.agg #[.int .i64 x0,.int .i64 x1]) (.agg #[.int .i64 y0,.int .i64 y1])).run Tryz.prog w = .ok (x0 == y0 && (x1 == y1)) w := by
 refine eqA_of Tryz.underlying64 (by kernel_rfl) ?_
 refine eqf_cons (by rfl) (by go_simp;rfl) (by go_simp;rfl) (by go_simp) ?_
 exact eqf_last (by rfl) (by go_simp;rfl) (by go_simp;rfl) (by go_simp)
theorem eqA126 (d : Nat) (w : World) (x0 y0 : Int) (x1 y1 : Int) (x2 y2 : Int) :
 (Op.equalIn (d + 2) 126 (.agg #[.int .i64 x0,.int .i64 x1,.int .i64 x2]) (.agg #[.int .i64 y0,.int .i64 y1,.int .i64 y2])).run Tryz.prog w = .ok (x0 == y0 && (x1 == y1 && (x2 == y2))) w := by
 refine eqA_of Tryz.underlying126 (by kernel_rfl) ?_
 refine eqf_cons (by rfl) (by go_simp;rfl) (by go_simp;rfl) (by go_simp) ?_
 refine eqf_cons (by rfl) (by go_simp;rfl) (by go_simp;rfl) (by go_simp) ?_
 exact eqf_last (by rfl) (by go_simp;rfl) (by go_simp;rfl) (by go_simp)
end
section
attribute [local go_sem] max2_int min2_int max_two min_two
attribute [local go_sem high] eqA126
mutual
def q3_SameTables.j0 : Nat → Bool → List (S126) → Int → List (S126) → Int → Option (Bool)
 | 0,_,_,_,_,_ => none
 | k + 1,x19,x453000,x453001,x454000,x454001 => if x19 = true then (some false) else (q3_SameTables.l0 k 0 x453000 x453001 x454000 x454001)
def q3_SameTables.l0 : Nat → Int → List (S126) → Int → List (S126) → Int → Option (Bool)
 | 0,_,_,_,_,_ => none
 | k + 1,x5,x453000,x453001,x454000,x454001 => if x5 < (x453000.length : Int) then (if 0 ≤ x5 then (if x5 < (x454000.length : Int) then (if (!(((rd_T126 x453000 x5).f0) == ((rd_T126 x454000 x5).f0)) || (!(((rd_T126 x453000 x5).f1) == ((rd_T126 x454000 x5).f1)) || (!(((rd_T126 x453000 x5).f2) == ((rd_T126 x454000 x5).f2))))) = true then (some false) else (q3_SameTables.l0 k (wrap64 (x5 + 1)) x453000 x453001 x454000 x454001)) else (none)) else (none)) else (some true)
end
def q3_SameTables.f (k : Nat) (l0_0 : List (S126)) (a0_1 : Int) (l1_0 : List (S126)) (a1_1 : Int) : Option (Bool) := if a0_1 = a1_1 then (q3_SameTables.j0 k ((l0_0.length : Int) != (l1_0.length : Int)) l0_0 a0_1 l1_0 a1_1) else (q3_SameTables.j0 k true l0_0 a0_1 l1_0 a1_1)
theorem q3_SameTables.calls (k : Nat) (A0_0 : Option Addr) (c0_0 : Nat) (l0_0 : List (S126)) (a0_1 : Int) (A1_0 : Option Addr) (c1_0 : Nat) (l1_0 : List (S126)) (a1_1 : Int) (r : Bool) (w : World) (hr0_0 : Kd.C k126 w A0_0 l0_0.length l0_0) (hc0_0 : l0_0.length ≤ c0_0) (hr1_0 : Kd.C k126 w A1_0 l1_0.length l1_0) (hc1_0 : l1_0.length ≤ c1_0) (h : q3_SameTables.f k l0_0 a0_1 l1_0 a1_1 = some r) :
 Calls Tryz.prog 93 #[.agg #[.slice A0_0 l0_0.length c0_0,.int .i64 a0_1],.agg #[.slice A1_0 l1_0.length c1_0,.int .i64 a1_1]] w fun e w' => e = .returned (.bool r) ∧ Below w.heap.size w w' := by
 have hu24 := Tryz.underlying24
 have hu126 := Tryz.underlying126
 have HR0_0 := am hr0_0
 have HC0_0 := am hc0_0
 clear hr0_0 hc0_0
 have HR1_0 := am hr1_0
 have HC1_0 := am hc1_0
 clear hr1_0 hc1_0
 have HB := am (Below.refl w.heap.size w)
 have H : (if a0_1 = a1_1 then (q3_SameTables.j0 k ((l0_0.length : Int) != (l1_0.length : Int)) l0_0 a0_1 l1_0 a1_1) else (q3_SameTables.j0 k true l0_0 a0_1 l1_0 a1_1)) = some r := h
 clear h
 have HC3 := am H
 clear H
 go_enter Tryz.func93,Tryz.ntmps93
 go_upto_region 1 with (first | ((refine gate_dst (N := 2) rfl ?_);(try (refine gate_guard (by rfl) ?_;dsimp only));refine box_event rfl (N := 2) rfl (cs := #[.slice A0_0 l0_0.length c0_0,.int .i64 a0_1]) (t := 24) ?hr ?_;(case hr => go_simp;try rfl);intro gb452 hg w4 hbox hb;have BK452 := am (hbox);have GE452 := am (ge_new (HB.out) hg);replace HB := am (below_step (HB.out) hb);clear hb hbox hg) | ((refine gate_dst (N := 3) rfl ?_);(try (refine gate_guard (by rfl) ?_;dsimp only));refine box_event rfl (N := 3) rfl (cs := #[.slice A1_0 l1_0.length c1_0,.int .i64 a1_1]) (t := 24) ?hr ?_;(case hr => go_simp;try rfl);intro gb453 hg w5 hbox hb;have BK453 := am (hbox);have GE453 := am (ge_new (HB.out) hg);replace BK452 := (kmv hb BK452);replace HB := am (below_step (HB.out) hb);clear hb hbox hg))
 repeat (go_quiet (first | ((refine gate_dst (N := 2) rfl ?_);(try (refine gate_guard (by rfl) ?_;dsimp only));refine box_event rfl (N := 2) rfl (cs := #[.slice A0_0 l0_0.length c0_0,.int .i64 a0_1]) (t := 24) ?hr ?_;(case hr => go_simp;try rfl);intro gb452 hg w4 hbox hb;have BK452 := am (hbox);have GE452 := am (ge_new (by repeat (first | (with_reducible first | exact HB.out | apply below_alloc | apply pw_below_drewN) | exact HB.out)) hg);replace HB := am (below_step (by repeat (first | (with_reducible first | exact HB.out | apply below_alloc | apply pw_below_drewN) | exact HB.out)) hb);clear hb hbox hg) | ((refine gate_dst (N := 3) rfl ?_);(try (refine gate_guard (by rfl) ?_;dsimp only));refine box_event rfl (N := 3) rfl (cs := #[.slice A1_0 l1_0.length c1_0,.int .i64 a1_1]) (t := 24) ?hr ?_;(case hr => go_simp;try rfl);intro gb453 hg w5 hbox hb;have BK453 := am (hbox);have GE453 := am (ge_new (by repeat (first | (with_reducible first | exact HB.out | refine below_set ?_ GE452.out | apply below_alloc | apply pw_below_drewN) | exact HB.out)) hg);replace BK452 := (kmv hb BK452);replace HB := am (below_step (by repeat (first | (with_reducible first | exact HB.out | refine below_set ?_ GE452.out | apply below_alloc | apply pw_below_drewN) | exact HB.out)) hb);clear hb hbox hg));go_upto_region 1 with (first | ((refine gate_dst (N := 2) rfl ?_);(try (refine gate_guard (by rfl) ?_;dsimp only));refine box_event rfl (N := 2) rfl (cs := #[.slice A0_0 l0_0.length c0_0,.int .i64 a0_1]) (t := 24) ?hr ?_;(case hr => go_simp;try rfl);intro gb452 hg w4 hbox hb;have BK452 := am (hbox);have GE452 := am (ge_new (by repeat (first | (with_reducible first | exact HB.out | apply below_alloc | apply pw_below_drewN) | exact HB.out)) hg);replace HB := am (below_step (by repeat (first | (with_reducible first | exact HB.out | apply below_alloc | apply pw_below_drewN) | exact HB.out)) hb);clear hb hbox hg) | ((refine gate_dst (N := 3) rfl ?_);(try (refine gate_guard (by rfl) ?_;dsimp only));refine box_event rfl (N := 3) rfl (cs := #[.slice A1_0 l1_0.length c1_0,.int .i64 a1_1]) (t := 24) ?hr ?_;(case hr => go_simp;try rfl);intro gb453 hg w5 hbox hb;have BK453 := am (hbox);have GE453 := am (ge_new (by repeat (first | (with_reducible first | exact HB.out | refine below_set ?_ GE452.out | apply below_alloc | apply pw_below_drewN) | exact HB.out)) hg);replace BK452 := (kmv hb BK452);replace HB := am (below_step (by repeat (first | (with_reducible first | exact HB.out | refine below_set ?_ GE452.out | apply below_alloc | apply pw_below_drewN) | exact HB.out)) hb);clear hb hbox hg)))
 (try simp only [Act.put,NR3])
 go_cut [19] (fun v19 wc => ∃ (kq : Nat) (x19_2 : Bool),v19 = .bool x19_2 ∧ Aside0 (q3_SameTables.j0 kq x19_2 l0_0 a0_1 l1_0 a1_1 = some r) ∧ Aside0 (kq ≤ k) ∧ Aside0 (wc.heap[gb452]? = some (.cells #[(.slice A0_0 l0_0.length c0_0),.int .i64 a0_1] 24 (0,0))) ∧ Aside0 (wc.heap[gb453]? = some (.cells #[(.slice A1_0 l1_0.length c1_0),.int .i64 a1_1] 24 (0,0))) ∧ Aside0 (Below w.heap.size w wc))
 case first =>
  have H := HC3.out
  clear HC3
  by_cases c6 : a0_1 = a1_1
  case neg =>
   rw [if_neg c6] at H
   have c6b0 : (a0_1 == a1_1) = false := beq_eq_false_iff_ne.mpr c6
   have c6b1 : (a0_1 != a1_1) = true := bne_iff_ne.mpr c6
   (first | rw [c6b0] | (simp only [i64_w,i32_w];rw [c6b0]) | skip)
   replace H' := am H
   obtain ⟨hcz11_0,hcz11_1⟩ := cO2 BK452.out
   obtain ⟨hcz12_0,hcz12_1⟩ := cO2 BK453.out
   go_wp2
   repeat (go_quiet (fail);try go_wp2)
   go_meet
   case rel => exact ⟨_,(true),(by first | rfl | (simp;done) | (simp [*];done)),H',⟨by first | omega | exact Nat.le_refl _⟩,⟨BK452.out⟩,⟨BK453.out⟩,⟨HB.out⟩⟩
  rw [if_pos c6] at H
  have c6b0 : (a0_1 == a1_1) = true := beq_iff_eq.mpr c6
  have c6b1 : (a0_1 != a1_1) = false := bne_eq_false_iff_eq.mpr c6
  clear c6
  (first | rw [c6b0] | (simp only [i64_w,i32_w];rw [c6b0]) | skip)
  replace H' := am H
  obtain ⟨hcz8_0,hcz8_1⟩ := cO2 BK452.out
  obtain ⟨hcz9_0,hcz9_1⟩ := cO2 BK453.out
  go_wp2
  repeat (go_quiet (fail);try go_wp2)
  go_meet
  case rel => exact ⟨_,(((l0_0.length : Int) != (l1_0.length : Int))),(by first | rfl | (simp;done) | (simp [*];done)),H',⟨by first | omega | exact Nat.le_refl _⟩,⟨BK452.out⟩,⟨BK453.out⟩,⟨HB.out⟩⟩
 case rest =>
  clear HC3
  obtain ⟨kq,x19_2,rfl,HA,HJ2,BK452,BK453,HB⟩ := hcut
  cases kq with
  | zero => exact absurd HA.out (by simp [q3_SameTables.j0])
  | succ kj2 =>
   have H := HA.out
   clear HA
   simp only [q3_SameTables.j0] at H
   by_cases c13 : x19_2 = true
   · subst c13
     rw [if_pos rfl] at H
     obtain rfl := Option.some.inj H
     go_wp2
     repeat (go_quiet (fail);try go_wp2)
     go_ret
     exact ⟨by first | rfl | (simp [*] <;> rfl),HB.out⟩
   · replace c13 := Bool.eq_false_iff.mpr c13
     subst c13
     rw [if_neg (show ¬ (false = true) by decide)] at H
     replace H' := am H
     go_wp2
     repeat (go_quiet (fail);try go_wp2)
     go_loopg [5] kj2 (fun kq v5 w' => ∃ (x5_2 : Int),v5 = .int .i64 x5_2 ∧ Aside0 (q3_SameTables.l0 kq x5_2 l0_0 a0_1 l1_0 a1_1 = some r) ∧ Aside0 (kq ≤ kj2) ∧ Aside0 (w'.heap[gb452]? = some (.cells #[(.slice A0_0 l0_0.length c0_0),.int .i64 a0_1] 24 (0,0))) ∧ Aside0 (w'.heap[gb453]? = some (.cells #[(.slice A1_0 l1_0.length c1_0),.int .i64 a1_1] 24 (0,0))) ∧ Aside0 (Below w.heap.size w w'))
     case atStart => exact ⟨(0),(by first | rfl | (simp;done) | (simp [*];done)),H',⟨Nat.le_refl _⟩,⟨BK452.out⟩,⟨BK453.out⟩,⟨HB.out⟩⟩
     case round =>
      clear H'
      obtain ⟨x5_2,rfl,HA,HK2,BK452,BK453,HB⟩ := hrel
      cases gk with
      | zero => exact absurd HA.out (by simp [q3_SameTables.l0])
      | succ k2 =>
       have H := HA.out
       clear HA
       simp only [q3_SameTables.l0] at H
       by_cases c14 : x5_2 < (l0_0.length : Int)
       case neg =>
        rw [if_neg c14] at H
        have c14b0 : decide (x5_2 < (l0_0.length : Int)) = false := decide_eq_false c14
        clear c14
        obtain rfl := Option.some.inj H
        obtain ⟨hcz25_0,hcz25_1⟩ := cO2 BK452.out
        go_wp2
        repeat (go_quiet (fail);try go_wp2)
        go_ret
        exact ⟨by first | rfl | (simp [*] <;> rfl),HB.out⟩
       rw [if_pos c14] at H
       have c14b0 : decide (x5_2 < (l0_0.length : Int)) = true := decide_eq_true c14
       clear c14
       by_cases c15 : 0 ≤ x5_2
       case neg =>
        rw [if_neg c15] at H
        exact absurd H (by simp)
       rw [if_pos c15] at H
       have c15b0 : decide (0 ≤ x5_2) = true := decide_eq_true c15
       clear c15
       by_cases c16 : x5_2 < (l1_0.length : Int)
       case neg =>
        rw [if_neg c16] at H
        exact absurd H (by simp)
       rw [if_pos c16] at H
       have c16b0 : decide (x5_2 < (l1_0.length : Int)) = true := decide_eq_true c16
       clear c16
       by_cases c17 : (!(((rd_T126 l0_0 x5_2).f0) == ((rd_T126 l1_0 x5_2).f0)) || (!(((rd_T126 l0_0 x5_2).f1) == ((rd_T126 l1_0 x5_2).f1)) || (!(((rd_T126 l0_0 x5_2).f2) == ((rd_T126 l1_0 x5_2).f2))))) = true
       · rw [if_pos c17] at H
         have c17b0 : (!(((rd_T126 l0_0 x5_2).f0) == ((rd_T126 l1_0 x5_2).f0)) || (!(((rd_T126 l0_0 x5_2).f1) == ((rd_T126 l1_0 x5_2).f1)) || (!(((rd_T126 l0_0 x5_2).f2) == ((rd_T126 l1_0 x5_2).f2))))) = true := c17
         clear c17
         obtain rfl := Option.some.inj H
         obtain ⟨hcz19_0,hcz19_1⟩ := cO2 BK452.out
         have p454 : 0 ≤ (x5_2 : Int) := of_decide_eq_true (by assumption)
         have q454 : x5_2 < (l0_0.length : Int) := of_decide_eq_true (by assumption)
         obtain ⟨ad454,e454,hx454_0,hx454_1,hx454_2⟩ := at_T126 HR0_0.out x5_2 p454 q454
         cases e454
         replace hx454_0 := (HB.out.cell (wbl hx454_0)).trans hx454_0
         replace hx454_1 := (HB.out.cell (wbl hx454_1)).trans hx454_1
         replace hx454_2 := (HB.out.cell (wbl hx454_2)).trans hx454_2
         replace p454 := eq_true p454
         replace q454 := eq_true q454
         obtain ⟨hcz20_0,hcz20_1⟩ := cO2 BK453.out
         have p455 : 0 ≤ (x5_2 : Int) := of_decide_eq_true (by assumption)
         have q455 : x5_2 < (l1_0.length : Int) := of_decide_eq_true (by assumption)
         obtain ⟨ad455,e455,hx455_0,hx455_1,hx455_2⟩ := at_T126 HR1_0.out x5_2 p455 q455
         cases e455
         replace hx455_0 := (HB.out.cell (wbl hx455_0)).trans hx455_0
         replace hx455_1 := (HB.out.cell (wbl hx455_1)).trans hx455_1
         replace hx455_2 := (HB.out.cell (wbl hx455_2)).trans hx455_2
         replace p455 := eq_true p455
         replace q455 := eq_true q455
         go_wp2
         repeat (go_quiet (fail);try go_wp2)
         go_ret
         exact ⟨by first | rfl | (simp [*] <;> rfl),pw_below_drewN HB.out _⟩
       · rw [if_neg c17] at H
         have c17b0 : (!(((rd_T126 l0_0 x5_2).f0) == ((rd_T126 l1_0 x5_2).f0)) || (!(((rd_T126 l0_0 x5_2).f1) == ((rd_T126 l1_0 x5_2).f1)) || (!(((rd_T126 l0_0 x5_2).f2) == ((rd_T126 l1_0 x5_2).f2))))) = false := by simpa using c17
         clear c17
         replace H' := am H
         obtain ⟨hcz22_0,hcz22_1⟩ := cO2 BK452.out
         have p454 : 0 ≤ (x5_2 : Int) := of_decide_eq_true (by assumption)
         have q454 : x5_2 < (l0_0.length : Int) := of_decide_eq_true (by assumption)
         obtain ⟨ad454,e454,hx454_0,hx454_1,hx454_2⟩ := at_T126 HR0_0.out x5_2 p454 q454
         cases e454
         replace hx454_0 := (HB.out.cell (wbl hx454_0)).trans hx454_0
         replace hx454_1 := (HB.out.cell (wbl hx454_1)).trans hx454_1
         replace hx454_2 := (HB.out.cell (wbl hx454_2)).trans hx454_2
         replace p454 := eq_true p454
         replace q454 := eq_true q454
         obtain ⟨hcz23_0,hcz23_1⟩ := cO2 BK453.out
         have p455 : 0 ≤ (x5_2 : Int) := of_decide_eq_true (by assumption)
         have q455 : x5_2 < (l1_0.length : Int) := of_decide_eq_true (by assumption)
         obtain ⟨ad455,e455,hx455_0,hx455_1,hx455_2⟩ := at_T126 HR1_0.out x5_2 p455 q455
         cases e455
         replace hx455_0 := (HB.out.cell (wbl hx455_0)).trans hx455_0
         replace hx455_1 := (HB.out.cell (wbl hx455_1)).trans hx455_1
         replace hx455_2 := (HB.out.cell (wbl hx455_2)).trans hx455_2
         replace p455 := eq_true p455
         replace q455 := eq_true q455
         go_wp2
         repeat (go_quiet (fail);try go_wp2)
         go_roundg k2
         case measure => have := HJ2.out;have := HK2.out;omega
         case rel => exact ⟨(wrap64 (x5_2 + 1)),(by first | rfl | (simp;done) | (simp [*];done)),H',⟨by have := HJ2.out;have := HK2.out;omega⟩,⟨BK452.out⟩,⟨BK453.out⟩,⟨pw_below_drewN HB.out _⟩⟩
end
section
attribute [local go_sem] max2_int min2_int max_two min_two
attribute [local go_sem high] eqA64
mutual
def q4_SameBasins.j0 : Nat → Bool → List (S126) → Int → List (S64) → Int → Int → List (S126) → Int → List (S64) → Int → Int → Option (Bool)
 | 0,_,_,_,_,_,_,_,_,_,_,_ => none
 | k + 1,x34,x457000,x457001,x457002,x457003,x457004,x458000,x458001,x458002,x458003,x458004 => if x34 = true then (some false) else (q4_SameBasins.l0 k 0 x457000 x457001 x457002 x457003 x457004 x458000 x458001 x458002 x458003 x458004)
def q4_SameBasins.l0 : Nat → Int → List (S126) → Int → List (S64) → Int → Int → List (S126) → Int → List (S64) → Int → Int → Option (Bool)
 | 0,_,_,_,_,_,_,_,_,_,_,_ => none
 | k + 1,x5,x457000,x457001,x457002,x457003,x457004,x458000,x458001,x458002,x458003,x458004 => if x5 < (x457002.length : Int) then (if 0 ≤ x5 then (if x5 < (x458002.length : Int) then (if (!(((rd_T64 x457002 x5).f0) == ((rd_T64 x458002 x5).f0)) || (!(((rd_T64 x457002 x5).f1) == ((rd_T64 x458002 x5).f1)))) = true then (some false) else (q4_SameBasins.l0 k (wrap64 (x5 + 1)) x457000 x457001 x457002 x457003 x457004 x458000 x458001 x458002 x458003 x458004)) else (none)) else (none)) else (some true)
end
def q4_SameBasins.f (k : Nat) (l0_0 : List (S126)) (a0_1 : Int) (l0_2 : List (S64)) (a0_3 : Int) (a0_4 : Int) (l1_0 : List (S126)) (a1_1 : Int) (l1_2 : List (S64)) (a1_3 : Int) (a1_4 : Int) : Option (Bool) := (q3_SameTables.f k l0_0 a0_1 l1_0 a1_1).bind fun t458 => (if t458 = true then (if (l0_2.length : Int) = (l1_2.length : Int) then (if a0_3 = a1_3 then (q4_SameBasins.j0 k (a0_4 != a1_4) l0_0 a0_1 l0_2 a0_3 a0_4 l1_0 a1_1 l1_2 a1_3 a1_4) else (q4_SameBasins.j0 k true l0_0 a0_1 l0_2 a0_3 a0_4 l1_0 a1_1 l1_2 a1_3 a1_4)) else (q4_SameBasins.j0 k true l0_0 a0_1 l0_2 a0_3 a0_4 l1_0 a1_1 l1_2 a1_3 a1_4)) else (q4_SameBasins.j0 k true l0_0 a0_1 l0_2 a0_3 a0_4 l1_0 a1_1 l1_2 a1_3 a1_4))
theorem q4_SameBasins.calls (k : Nat) (A0_0 : Option Addr) (c0_0 : Nat) (l0_0 : List (S126)) (a0_1 : Int) (A0_2 : Option Addr) (c0_2 : Nat) (l0_2 : List (S64)) (a0_3 : Int) (a0_4 : Int) (A1_0 : Option Addr) (c1_0 : Nat) (l1_0 : List (S126)) (a1_1 : Int) (A1_2 : Option Addr) (c1_2 : Nat) (l1_2 : List (S64)) (a1_3 : Int) (a1_4 : Int) (r : Bool) (w : World) (hr0_0 : Kd.C k126 w A0_0 l0_0.length l0_0) (hc0_0 : l0_0.length ≤ c0_0) (hr0_2 : Kd.C k64 w A0_2 l0_2.length l0_2) (hc0_2 : l0_2.length ≤ c0_2) (hr1_0 : Kd.C k126 w A1_0 l1_0.length l1_0) (hc1_0 : l1_0.length ≤ c1_0) (hr1_2 : Kd.C k64 w A1_2 l1_2.length l1_2) (hc1_2 : l1_2.length ≤ c1_2) (h : q4_SameBasins.f k l0_0 a0_1 l0_2 a0_3 a0_4 l1_0 a1_1 l1_2 a1_3 a1_4 = some r) :
 Calls Tryz.prog 56 #[.agg #[.slice A0_0 l0_0.length c0_0,.int .i64 a0_1,.slice A0_2 l0_2.length c0_2,.int .i64 a0_3,.int .i64 a0_4],.agg #[.slice A1_0 l1_0.length c1_0,.int .i64 a1_1,.slice A1_2 l1_2.length c1_2,.int .i64 a1_3,.int .i64 a1_4]] w fun e w' => e = .returned (.bool r) ∧ Below w.heap.size w w' := by
 have hu27 := Tryz.underlying27
 have hu24 := Tryz.underlying24
 have hu64 := Tryz.underlying64
 have HR0_0 := am hr0_0
 have HC0_0 := am hc0_0
 clear hr0_0 hc0_0
 have HR0_2 := am hr0_2
 have HC0_2 := am hc0_2
 clear hr0_2 hc0_2
 have HR1_0 := am hr1_0
 have HC1_0 := am hc1_0
 clear hr1_0 hc1_0
 have HR1_2 := am hr1_2
 have HC1_2 := am hc1_2
 clear hr1_2 hc1_2
 have HB := am (Below.refl w.heap.size w)
 have H : ((q3_SameTables.f k l0_0 a0_1 l1_0 a1_1).bind fun t458 => (if t458 = true then (if (l0_2.length : Int) = (l1_2.length : Int) then (if a0_3 = a1_3 then (q4_SameBasins.j0 k (a0_4 != a1_4) l0_0 a0_1 l0_2 a0_3 a0_4 l1_0 a1_1 l1_2 a1_3 a1_4) else (q4_SameBasins.j0 k true l0_0 a0_1 l0_2 a0_3 a0_4 l1_0 a1_1 l1_2 a1_3 a1_4)) else (q4_SameBasins.j0 k true l0_0 a0_1 l0_2 a0_3 a0_4 l1_0 a1_1 l1_2 a1_3 a1_4)) else (q4_SameBasins.j0 k true l0_0 a0_1 l0_2 a0_3 a0_4 l1_0 a1_1 l1_2 a1_3 a1_4))) = some r := h
 clear h
 have HC3 := am H
 clear H
 go_enter Tryz.func56,Tryz.ntmps56
 go_upto_region 1 with (first | ((refine gate_dst (N := 2) rfl ?_);(try (refine gate_guard (by rfl) ?_;dsimp only));refine box_event rfl (N := 2) rfl (cs := #[.slice A0_0 l0_0.length c0_0,.int .i64 a0_1,.slice A0_2 l0_2.length c0_2,.int .i64 a0_3,.int .i64 a0_4]) (t := 27) ?hr ?_;(case hr => go_simp;try rfl);intro gb456 hg w4 hbox hb;have BK456 := am (hbox);have GE456 := am (ge_new (HB.out) hg);replace HB := am (below_step (HB.out) hb);clear hb hbox hg) | ((refine gate_dst (N := 3) rfl ?_);(try (refine gate_guard (by rfl) ?_;dsimp only));refine box_event rfl (N := 3) rfl (cs := #[.slice A1_0 l1_0.length c1_0,.int .i64 a1_1,.slice A1_2 l1_2.length c1_2,.int .i64 a1_3,.int .i64 a1_4]) (t := 27) ?hr ?_;(case hr => go_simp;try rfl);intro gb457 hg w5 hbox hb;have BK457 := am (hbox);have GE457 := am (ge_new (HB.out) hg);replace BK456 := (kmv hb BK456);replace HB := am (below_step (HB.out) hb);clear hb hbox hg))
 repeat (go_quiet (first | ((refine gate_dst (N := 2) rfl ?_);(try (refine gate_guard (by rfl) ?_;dsimp only));refine box_event rfl (N := 2) rfl (cs := #[.slice A0_0 l0_0.length c0_0,.int .i64 a0_1,.slice A0_2 l0_2.length c0_2,.int .i64 a0_3,.int .i64 a0_4]) (t := 27) ?hr ?_;(case hr => go_simp;try rfl);intro gb456 hg w4 hbox hb;have BK456 := am (hbox);have GE456 := am (ge_new (by repeat (first | (with_reducible first | exact HB.out | apply below_alloc | apply pw_below_drewN) | exact HB.out)) hg);replace HB := am (below_step (by repeat (first | (with_reducible first | exact HB.out | apply below_alloc | apply pw_below_drewN) | exact HB.out)) hb);clear hb hbox hg) | ((refine gate_dst (N := 3) rfl ?_);(try (refine gate_guard (by rfl) ?_;dsimp only));refine box_event rfl (N := 3) rfl (cs := #[.slice A1_0 l1_0.length c1_0,.int .i64 a1_1,.slice A1_2 l1_2.length c1_2,.int .i64 a1_3,.int .i64 a1_4]) (t := 27) ?hr ?_;(case hr => go_simp;try rfl);intro gb457 hg w5 hbox hb;have BK457 := am (hbox);have GE457 := am (ge_new (by repeat (first | (with_reducible first | exact HB.out | refine below_set ?_ GE456.out | apply below_alloc | apply pw_below_drewN) | exact HB.out)) hg);replace BK456 := (kmv hb BK456);replace HB := am (below_step (by repeat (first | (with_reducible first | exact HB.out | refine below_set ?_ GE456.out | apply below_alloc | apply pw_below_drewN) | exact HB.out)) hb);clear hb hbox hg));go_upto_region 1 with (first | ((refine gate_dst (N := 2) rfl ?_);(try (refine gate_guard (by rfl) ?_;dsimp only));refine box_event rfl (N := 2) rfl (cs := #[.slice A0_0 l0_0.length c0_0,.int .i64 a0_1,.slice A0_2 l0_2.length c0_2,.int .i64 a0_3,.int .i64 a0_4]) (t := 27) ?hr ?_;(case hr => go_simp;try rfl);intro gb456 hg w4 hbox hb;have BK456 := am (hbox);have GE456 := am (ge_new (by repeat (first | (with_reducible first | exact HB.out | apply below_alloc | apply pw_below_drewN) | exact HB.out)) hg);replace HB := am (below_step (by repeat (first | (with_reducible first | exact HB.out | apply below_alloc | apply pw_below_drewN) | exact HB.out)) hb);clear hb hbox hg) | ((refine gate_dst (N := 3) rfl ?_);(try (refine gate_guard (by rfl) ?_;dsimp only));refine box_event rfl (N := 3) rfl (cs := #[.slice A1_0 l1_0.length c1_0,.int .i64 a1_1,.slice A1_2 l1_2.length c1_2,.int .i64 a1_3,.int .i64 a1_4]) (t := 27) ?hr ?_;(case hr => go_simp;try rfl);intro gb457 hg w5 hbox hb;have BK457 := am (hbox);have GE457 := am (ge_new (by repeat (first | (with_reducible first | exact HB.out | refine below_set ?_ GE456.out | apply below_alloc | apply pw_below_drewN) | exact HB.out)) hg);replace BK456 := (kmv hb BK456);replace HB := am (below_step (by repeat (first | (with_reducible first | exact HB.out | refine below_set ?_ GE456.out | apply below_alloc | apply pw_below_drewN) | exact HB.out)) hb);clear hb hbox hg)))
 (try simp only [Act.put,NR3])
 go_cut [34] (fun v34 wc => ∃ (kq : Nat) (x34_2 : Bool),v34 = .bool x34_2 ∧ Aside0 (q4_SameBasins.j0 kq x34_2 l0_0 a0_1 l0_2 a0_3 a0_4 l1_0 a1_1 l1_2 a1_3 a1_4 = some r) ∧ Aside0 (kq ≤ k) ∧ Aside0 (wc.heap[gb456]? = some (.cells #[(.slice A0_0 l0_0.length c0_0),.int .i64 a0_1,(.slice A0_2 l0_2.length c0_2),.int .i64 a0_3,.int .i64 a0_4] 27 (0,0))) ∧ Aside0 (wc.heap[gb457]? = some (.cells #[(.slice A1_0 l1_0.length c1_0),.int .i64 a1_1,(.slice A1_2 l1_2.length c1_2),.int .i64 a1_3,.int .i64 a1_4] 27 (0,0))) ∧ Aside0 (Below w.heap.size w wc))
 case first =>
  have H := HC3.out
  clear HC3
  replace H := obm H
  obtain ⟨t458,A60,H⟩ := H
  (try dsimp only at H)
  have A6 := am A60
  clear A60
  by_cases c7 : t458 = true
  case neg =>
   replace c7 := Bool.eq_false_iff.mpr c7
   subst c7
   rw [if_neg (show ¬ (false = true) by decide)] at H
   replace H' := am H
   obtain ⟨hcz29_0,hcz29_1,hcz29_2,hcz29_3,hcz29_4⟩ := cO5 BK456.out
   obtain ⟨hcz30_0,hcz30_1,hcz30_2,hcz30_3,hcz30_4⟩ := cO5 BK457.out
   go_wp2_with (first | (go_at_call 93;(with_reducible refine (q3_SameTables.calls k _ _ l0_0 a0_1 _ _ l1_0 a1_1 false _ ?side1 ?side2 ?side3 ?side4 A6.out).mono ?_);(case side1 => exact kC HR0_0.out HB.out);(case side2 => exact HC0_0.out);(case side3 => exact kC HR1_0.out HB.out);(case side4 => exact HC1_0.out);rintro e w31 ⟨rfl,hb⟩;replace BK456 := (kmv hb BK456);replace BK457 := (kmv hb BK457);replace HB := am (below_step (HB.out) hb);(try clear hb);(try clear hb2);(try clear hk);(try clear hi)))
   repeat (go_quiet (first | (go_at_call 93;(with_reducible refine (q3_SameTables.calls k _ _ l0_0 a0_1 _ _ l1_0 a1_1 false _ ?side1 ?side2 ?side3 ?side4 A6.out).mono ?_);(case side1 => repeat (first | exact (kC HR0_0.out HB.out) | (with_reducible refine Kd.C_alloc ?_ _) | (with_reducible refine Kd.C_drewN ?_ _) | (with_reducible refine Kd.C_drew ?_)));(case side2 => exact HC0_0.out);(case side3 => repeat (first | exact (kC HR1_0.out HB.out) | (with_reducible refine Kd.C_alloc ?_ _) | (with_reducible refine Kd.C_drewN ?_ _) | (with_reducible refine Kd.C_drew ?_)));(case side4 => exact HC1_0.out);rintro e w31 ⟨rfl,hb⟩;replace BK456 := (kmv hb BK456);replace BK457 := (kmv hb BK457);replace HB := am (below_step (by repeat (first | (with_reducible first | exact HB.out | refine below_set ?_ (Aside0.out (by assumption)) | apply below_alloc | apply pw_below_drewN) | exact HB.out)) hb);(try clear hb);(try clear hb2);(try clear hk);(try clear hi)));try go_wp2_with (first | (go_at_call 93;(with_reducible refine (q3_SameTables.calls k _ _ l0_0 a0_1 _ _ l1_0 a1_1 false _ ?side1 ?side2 ?side3 ?side4 A6.out).mono ?_);(case side1 => repeat (first | exact (kC HR0_0.out HB.out) | (with_reducible refine Kd.C_alloc ?_ _) | (with_reducible refine Kd.C_drewN ?_ _) | (with_reducible refine Kd.C_drew ?_)));(case side2 => exact HC0_0.out);(case side3 => repeat (first | exact (kC HR1_0.out HB.out) | (with_reducible refine Kd.C_alloc ?_ _) | (with_reducible refine Kd.C_drewN ?_ _) | (with_reducible refine Kd.C_drew ?_)));(case side4 => exact HC1_0.out);rintro e w31 ⟨rfl,hb⟩;replace BK456 := (kmv hb BK456);replace BK457 := (kmv hb BK457);replace HB := am (below_step (by repeat (first | (with_reducible first | exact HB.out | refine below_set ?_ (Aside0.out (by assumption)) | apply below_alloc | apply pw_below_drewN) | exact HB.out)) hb);(try clear hb);(try clear hb2);(try clear hk);(try clear hi))))
   go_meet
   case rel => exact ⟨_,(true),(by first | rfl | (simp;done) | (simp [*];done)),H',⟨by first | omega | exact Nat.le_refl _⟩,⟨BK456.out⟩,⟨BK457.out⟩,⟨HB.out⟩⟩
  subst c7
  rw [if_pos rfl] at H
  by_cases c8 : (l0_2.length : Int) = (l1_2.length : Int)
  case neg =>
   rw [if_neg c8] at H
   have c8b0 : ((l0_2.length : Int) == (l1_2.length : Int)) = false := beq_eq_false_iff_ne.mpr c8
   have c8b1 : ((l0_2.length : Int) != (l1_2.length : Int)) = true := bne_iff_ne.mpr c8
   have c8b2 : (l0_2.length == l1_2.length) = false := by first | simpa using c8 | (simp at c8 ⊢;omega)
   (first | rw [c8b0] | (simp only [i64_w,i32_w];rw [c8b0]) | skip)
   replace H' := am H
   obtain ⟨hcz23_0,hcz23_1,hcz23_2,hcz23_3,hcz23_4⟩ := cO5 BK456.out
   obtain ⟨hcz24_0,hcz24_1,hcz24_2,hcz24_3,hcz24_4⟩ := cO5 BK457.out
   go_wp2_with (first | (go_at_call 93;(with_reducible refine (q3_SameTables.calls k _ _ l0_0 a0_1 _ _ l1_0 a1_1 true _ ?side1 ?side2 ?side3 ?side4 A6.out).mono ?_);(case side1 => exact kC HR0_0.out HB.out);(case side2 => exact HC0_0.out);(case side3 => exact kC HR1_0.out HB.out);(case side4 => exact HC1_0.out);rintro e w25 ⟨rfl,hb⟩;replace BK456 := (kmv hb BK456);replace BK457 := (kmv hb BK457);replace HB := am (below_step (HB.out) hb);(try clear hb);(try clear hb2);(try clear hk);(try clear hi);obtain ⟨hcz26_0,hcz26_1,hcz26_2,hcz26_3,hcz26_4⟩ := cO5 BK456.out;obtain ⟨hcz27_0,hcz27_1,hcz27_2,hcz27_3,hcz27_4⟩ := cO5 BK457.out))
   repeat (go_quiet (first | (go_at_call 93;(with_reducible refine (q3_SameTables.calls k _ _ l0_0 a0_1 _ _ l1_0 a1_1 true _ ?side1 ?side2 ?side3 ?side4 A6.out).mono ?_);(case side1 => repeat (first | exact (kC HR0_0.out HB.out) | (with_reducible refine Kd.C_alloc ?_ _) | (with_reducible refine Kd.C_drewN ?_ _) | (with_reducible refine Kd.C_drew ?_)));(case side2 => exact HC0_0.out);(case side3 => repeat (first | exact (kC HR1_0.out HB.out) | (with_reducible refine Kd.C_alloc ?_ _) | (with_reducible refine Kd.C_drewN ?_ _) | (with_reducible refine Kd.C_drew ?_)));(case side4 => exact HC1_0.out);rintro e w25 ⟨rfl,hb⟩;replace BK456 := (kmv hb BK456);replace BK457 := (kmv hb BK457);replace HB := am (below_step (by repeat (first | (with_reducible first | exact HB.out | refine below_set ?_ (Aside0.out (by assumption)) | apply below_alloc | apply pw_below_drewN) | exact HB.out)) hb);(try clear hb);(try clear hb2);(try clear hk);(try clear hi);obtain ⟨hcz26_0,hcz26_1,hcz26_2,hcz26_3,hcz26_4⟩ := cO5 BK456.out;obtain ⟨hcz27_0,hcz27_1,hcz27_2,hcz27_3,hcz27_4⟩ := cO5 BK457.out));try go_wp2_with (first | (go_at_call 93;(with_reducible refine (q3_SameTables.calls k _ _ l0_0 a0_1 _ _ l1_0 a1_1 true _ ?side1 ?side2 ?side3 ?side4 A6.out).mono ?_);(case side1 => repeat (first | exact (kC HR0_0.out HB.out) | (with_reducible refine Kd.C_alloc ?_ _) | (with_reducible refine Kd.C_drewN ?_ _) | (with_reducible refine Kd.C_drew ?_)));(case side2 => exact HC0_0.out);(case side3 => repeat (first | exact (kC HR1_0.out HB.out) | (with_reducible refine Kd.C_alloc ?_ _) | (with_reducible refine Kd.C_drewN ?_ _) | (with_reducible refine Kd.C_drew ?_)));(case side4 => exact HC1_0.out);rintro e w25 ⟨rfl,hb⟩;replace BK456 := (kmv hb BK456);replace BK457 := (kmv hb BK457);replace HB := am (below_step (by repeat (first | (with_reducible first | exact HB.out | refine below_set ?_ (Aside0.out (by assumption)) | apply below_alloc | apply pw_below_drewN) | exact HB.out)) hb);(try clear hb);(try clear hb2);(try clear hk);(try clear hi);obtain ⟨hcz26_0,hcz26_1,hcz26_2,hcz26_3,hcz26_4⟩ := cO5 BK456.out;obtain ⟨hcz27_0,hcz27_1,hcz27_2,hcz27_3,hcz27_4⟩ := cO5 BK457.out)))
   go_meet
   case rel => exact ⟨_,(true),(by first | rfl | (simp;done) | (simp [*];done)),H',⟨by first | omega | exact Nat.le_refl _⟩,⟨BK456.out⟩,⟨BK457.out⟩,⟨HB.out⟩⟩
  rw [if_pos c8] at H
  have c8b0 : ((l0_2.length : Int) == (l1_2.length : Int)) = true := beq_iff_eq.mpr c8
  have c8b1 : ((l0_2.length : Int) != (l1_2.length : Int)) = false := bne_eq_false_iff_eq.mpr c8
  have c8b2 : (l0_2.length == l1_2.length) = true := by first | simpa using c8 | (simp at c8 ⊢;omega)
  clear c8
  (first | rw [c8b0] | (simp only [i64_w,i32_w];rw [c8b0]) | skip)
  by_cases c9 : a0_3 = a1_3
  case neg =>
   rw [if_neg c9] at H
   have c9b0 : (a0_3 == a1_3) = false := beq_eq_false_iff_ne.mpr c9
   have c9b1 : (a0_3 != a1_3) = true := bne_iff_ne.mpr c9
   replace H' := am H
   obtain ⟨hcz17_0,hcz17_1,hcz17_2,hcz17_3,hcz17_4⟩ := cO5 BK456.out
   obtain ⟨hcz18_0,hcz18_1,hcz18_2,hcz18_3,hcz18_4⟩ := cO5 BK457.out
   go_wp2_with (first | (go_at_call 93;(with_reducible refine (q3_SameTables.calls k _ _ l0_0 a0_1 _ _ l1_0 a1_1 true _ ?side1 ?side2 ?side3 ?side4 A6.out).mono ?_);(case side1 => exact kC HR0_0.out HB.out);(case side2 => exact HC0_0.out);(case side3 => exact kC HR1_0.out HB.out);(case side4 => exact HC1_0.out);rintro e w19 ⟨rfl,hb⟩;replace BK456 := (kmv hb BK456);replace BK457 := (kmv hb BK457);replace HB := am (below_step (HB.out) hb);(try clear hb);(try clear hb2);(try clear hk);(try clear hi);obtain ⟨hcz20_0,hcz20_1,hcz20_2,hcz20_3,hcz20_4⟩ := cO5 BK456.out;obtain ⟨hcz21_0,hcz21_1,hcz21_2,hcz21_3,hcz21_4⟩ := cO5 BK457.out))
   repeat (go_quiet (first | (go_at_call 93;(with_reducible refine (q3_SameTables.calls k _ _ l0_0 a0_1 _ _ l1_0 a1_1 true _ ?side1 ?side2 ?side3 ?side4 A6.out).mono ?_);(case side1 => repeat (first | exact (kC HR0_0.out HB.out) | (with_reducible refine Kd.C_alloc ?_ _) | (with_reducible refine Kd.C_drewN ?_ _) | (with_reducible refine Kd.C_drew ?_)));(case side2 => exact HC0_0.out);(case side3 => repeat (first | exact (kC HR1_0.out HB.out) | (with_reducible refine Kd.C_alloc ?_ _) | (with_reducible refine Kd.C_drewN ?_ _) | (with_reducible refine Kd.C_drew ?_)));(case side4 => exact HC1_0.out);rintro e w19 ⟨rfl,hb⟩;replace BK456 := (kmv hb BK456);replace BK457 := (kmv hb BK457);replace HB := am (below_step (by repeat (first | (with_reducible first | exact HB.out | refine below_set ?_ (Aside0.out (by assumption)) | apply below_alloc | apply pw_below_drewN) | exact HB.out)) hb);(try clear hb);(try clear hb2);(try clear hk);(try clear hi);obtain ⟨hcz20_0,hcz20_1,hcz20_2,hcz20_3,hcz20_4⟩ := cO5 BK456.out;obtain ⟨hcz21_0,hcz21_1,hcz21_2,hcz21_3,hcz21_4⟩ := cO5 BK457.out));try go_wp2_with (first | (go_at_call 93;(with_reducible refine (q3_SameTables.calls k _ _ l0_0 a0_1 _ _ l1_0 a1_1 true _ ?side1 ?side2 ?side3 ?side4 A6.out).mono ?_);(case side1 => repeat (first | exact (kC HR0_0.out HB.out) | (with_reducible refine Kd.C_alloc ?_ _) | (with_reducible refine Kd.C_drewN ?_ _) | (with_reducible refine Kd.C_drew ?_)));(case side2 => exact HC0_0.out);(case side3 => repeat (first | exact (kC HR1_0.out HB.out) | (with_reducible refine Kd.C_alloc ?_ _) | (with_reducible refine Kd.C_drewN ?_ _) | (with_reducible refine Kd.C_drew ?_)));(case side4 => exact HC1_0.out);rintro e w19 ⟨rfl,hb⟩;replace BK456 := (kmv hb BK456);replace BK457 := (kmv hb BK457);replace HB := am (below_step (by repeat (first | (with_reducible first | exact HB.out | refine below_set ?_ (Aside0.out (by assumption)) | apply below_alloc | apply pw_below_drewN) | exact HB.out)) hb);(try clear hb);(try clear hb2);(try clear hk);(try clear hi);obtain ⟨hcz20_0,hcz20_1,hcz20_2,hcz20_3,hcz20_4⟩ := cO5 BK456.out;obtain ⟨hcz21_0,hcz21_1,hcz21_2,hcz21_3,hcz21_4⟩ := cO5 BK457.out)))
   go_meet
   case rel => exact ⟨_,(true),(by first | rfl | (simp;done) | (simp [*];done)),H',⟨by first | omega | exact Nat.le_refl _⟩,⟨BK456.out⟩,⟨BK457.out⟩,⟨HB.out⟩⟩
  rw [if_pos c9] at H
  have c9b0 : (a0_3 == a1_3) = true := beq_iff_eq.mpr c9
  have c9b1 : (a0_3 != a1_3) = false := bne_eq_false_iff_eq.mpr c9
  clear c9
  replace H' := am H
  obtain ⟨hcz11_0,hcz11_1,hcz11_2,hcz11_3,hcz11_4⟩ := cO5 BK456.out
  obtain ⟨hcz12_0,hcz12_1,hcz12_2,hcz12_3,hcz12_4⟩ := cO5 BK457.out
  go_wp2_with (first | (go_at_call 93;(with_reducible refine (q3_SameTables.calls k _ _ l0_0 a0_1 _ _ l1_0 a1_1 true _ ?side1 ?side2 ?side3 ?side4 A6.out).mono ?_);(case side1 => exact kC HR0_0.out HB.out);(case side2 => exact HC0_0.out);(case side3 => exact kC HR1_0.out HB.out);(case side4 => exact HC1_0.out);rintro e w13 ⟨rfl,hb⟩;replace BK456 := (kmv hb BK456);replace BK457 := (kmv hb BK457);replace HB := am (below_step (HB.out) hb);(try clear hb);(try clear hb2);(try clear hk);(try clear hi);obtain ⟨hcz14_0,hcz14_1,hcz14_2,hcz14_3,hcz14_4⟩ := cO5 BK456.out;obtain ⟨hcz15_0,hcz15_1,hcz15_2,hcz15_3,hcz15_4⟩ := cO5 BK457.out))
  repeat (go_quiet (first | (go_at_call 93;(with_reducible refine (q3_SameTables.calls k _ _ l0_0 a0_1 _ _ l1_0 a1_1 true _ ?side1 ?side2 ?side3 ?side4 A6.out).mono ?_);(case side1 => repeat (first | exact (kC HR0_0.out HB.out) | (with_reducible refine Kd.C_alloc ?_ _) | (with_reducible refine Kd.C_drewN ?_ _) | (with_reducible refine Kd.C_drew ?_)));(case side2 => exact HC0_0.out);(case side3 => repeat (first | exact (kC HR1_0.out HB.out) | (with_reducible refine Kd.C_alloc ?_ _) | (with_reducible refine Kd.C_drewN ?_ _) | (with_reducible refine Kd.C_drew ?_)));(case side4 => exact HC1_0.out);rintro e w13 ⟨rfl,hb⟩;replace BK456 := (kmv hb BK456);replace BK457 := (kmv hb BK457);replace HB := am (below_step (by repeat (first | (with_reducible first | exact HB.out | refine below_set ?_ (Aside0.out (by assumption)) | apply below_alloc | apply pw_below_drewN) | exact HB.out)) hb);(try clear hb);(try clear hb2);(try clear hk);(try clear hi);obtain ⟨hcz14_0,hcz14_1,hcz14_2,hcz14_3,hcz14_4⟩ := cO5 BK456.out;obtain ⟨hcz15_0,hcz15_1,hcz15_2,hcz15_3,hcz15_4⟩ := cO5 BK457.out));try go_wp2_with (first | (go_at_call 93;(with_reducible refine (q3_SameTables.calls k _ _ l0_0 a0_1 _ _ l1_0 a1_1 true _ ?side1 ?side2 ?side3 ?side4 A6.out).mono ?_);(case side1 => repeat (first | exact (kC HR0_0.out HB.out) | (with_reducible refine Kd.C_alloc ?_ _) | (with_reducible refine Kd.C_drewN ?_ _) | (with_reducible refine Kd.C_drew ?_)));(case side2 => exact HC0_0.out);(case side3 => repeat (first | exact (kC HR1_0.out HB.out) | (with_reducible refine Kd.C_alloc ?_ _) | (with_reducible refine Kd.C_drewN ?_ _) | (with_reducible refine Kd.C_drew ?_)));(case side4 => exact HC1_0.out);rintro e w13 ⟨rfl,hb⟩;replace BK456 := (kmv hb BK456);replace BK457 := (kmv hb BK457);replace HB := am (below_step (by repeat (first | (with_reducible first | exact HB.out | refine below_set ?_ (Aside0.out (by assumption)) | apply below_alloc | apply pw_below_drewN) | exact HB.out)) hb);(try clear hb);(try clear hb2);(try clear hk);(try clear hi);obtain ⟨hcz14_0,hcz14_1,hcz14_2,hcz14_3,hcz14_4⟩ := cO5 BK456.out;obtain ⟨hcz15_0,hcz15_1,hcz15_2,hcz15_3,hcz15_4⟩ := cO5 BK457.out)))
  go_meet
  case rel => exact ⟨_,((a0_4 != a1_4)),(by first | rfl | (simp;done) | (simp [*];done)),H',⟨by first | omega | exact Nat.le_refl _⟩,⟨BK456.out⟩,⟨BK457.out⟩,⟨HB.out⟩⟩
 case rest =>
  clear HC3
  obtain ⟨kq,x34_2,rfl,HA,HJ2,BK456,BK457,HB⟩ := hcut
  cases kq with
  | zero => exact absurd HA.out (by simp [q4_SameBasins.j0])
  | succ kj2 =>
   have H := HA.out
   clear HA
   simp only [q4_SameBasins.j0] at H
   by_cases c32 : x34_2 = true
   · subst c32
     rw [if_pos rfl] at H
     obtain rfl := Option.some.inj H
     go_wp2
     repeat (go_quiet (fail);try go_wp2)
     go_ret
     exact ⟨by first | rfl | (simp [*] <;> rfl),HB.out⟩
   · replace c32 := Bool.eq_false_iff.mpr c32
     subst c32
     rw [if_neg (show ¬ (false = true) by decide)] at H
     replace H' := am H
     go_wp2
     repeat (go_quiet (fail);try go_wp2)
     go_loopg [5] kj2 (fun kq v5 w' => ∃ (x5_2 : Int),v5 = .int .i64 x5_2 ∧ Aside0 (q4_SameBasins.l0 kq x5_2 l0_0 a0_1 l0_2 a0_3 a0_4 l1_0 a1_1 l1_2 a1_3 a1_4 = some r) ∧ Aside0 (kq ≤ kj2) ∧ Aside0 (w'.heap[gb456]? = some (.cells #[(.slice A0_0 l0_0.length c0_0),.int .i64 a0_1,(.slice A0_2 l0_2.length c0_2),.int .i64 a0_3,.int .i64 a0_4] 27 (0,0))) ∧ Aside0 (w'.heap[gb457]? = some (.cells #[(.slice A1_0 l1_0.length c1_0),.int .i64 a1_1,(.slice A1_2 l1_2.length c1_2),.int .i64 a1_3,.int .i64 a1_4] 27 (0,0))) ∧ Aside0 (Below w.heap.size w w'))
     case atStart => exact ⟨(0),(by first | rfl | (simp;done) | (simp [*];done)),H',⟨Nat.le_refl _⟩,⟨BK456.out⟩,⟨BK457.out⟩,⟨HB.out⟩⟩
     case round =>
      clear H'
      obtain ⟨x5_2,rfl,HA,HK2,BK456,BK457,HB⟩ := hrel
      cases gk with
      | zero => exact absurd HA.out (by simp [q4_SameBasins.l0])
      | succ k2 =>
       have H := HA.out
       clear HA
       simp only [q4_SameBasins.l0] at H
       by_cases c33 : x5_2 < (l0_2.length : Int)
       case neg =>
        rw [if_neg c33] at H
        have c33b0 : decide (x5_2 < (l0_2.length : Int)) = false := decide_eq_false c33
        clear c33
        obtain rfl := Option.some.inj H
        obtain ⟨hcz44_0,hcz44_1,hcz44_2,hcz44_3,hcz44_4⟩ := cO5 BK456.out
        go_wp2
        repeat (go_quiet (fail);try go_wp2)
        go_ret
        exact ⟨by first | rfl | (simp [*] <;> rfl),HB.out⟩
       rw [if_pos c33] at H
       have c33b0 : decide (x5_2 < (l0_2.length : Int)) = true := decide_eq_true c33
       clear c33
       by_cases c34 : 0 ≤ x5_2
       case neg =>
        rw [if_neg c34] at H
        exact absurd H (by simp)
       rw [if_pos c34] at H
       have c34b0 : decide (0 ≤ x5_2) = true := decide_eq_true c34
       clear c34
       by_cases c35 : x5_2 < (l1_2.length : Int)
       case neg =>
        rw [if_neg c35] at H
        exact absurd H (by simp)
       rw [if_pos c35] at H
       have c35b0 : decide (x5_2 < (l1_2.length : Int)) = true := decide_eq_true c35
       clear c35
       by_cases c36 : (!(((rd_T64 l0_2 x5_2).f0) == ((rd_T64 l1_2 x5_2).f0)) || (!(((rd_T64 l0_2 x5_2).f1) == ((rd_T64 l1_2 x5_2).f1)))) = true
       · rw [if_pos c36] at H
         have c36b0 : (!(((rd_T64 l0_2 x5_2).f0) == ((rd_T64 l1_2 x5_2).f0)) || (!(((rd_T64 l0_2 x5_2).f1) == ((rd_T64 l1_2 x5_2).f1)))) = true := c36
         clear c36
         obtain rfl := Option.some.inj H
         obtain ⟨hcz38_0,hcz38_1,hcz38_2,hcz38_3,hcz38_4⟩ := cO5 BK456.out
         have p459 : 0 ≤ (x5_2 : Int) := of_decide_eq_true (by assumption)
         have q459 : x5_2 < (l0_2.length : Int) := of_decide_eq_true (by assumption)
         obtain ⟨ad459,e459,hx459_0,hx459_1⟩ := at_T64 HR0_2.out x5_2 p459 q459
         cases e459
         replace hx459_0 := (HB.out.cell (wbl hx459_0)).trans hx459_0
         replace hx459_1 := (HB.out.cell (wbl hx459_1)).trans hx459_1
         replace p459 := eq_true p459
         replace q459 := eq_true q459
         obtain ⟨hcz39_0,hcz39_1,hcz39_2,hcz39_3,hcz39_4⟩ := cO5 BK457.out
         have p460 : 0 ≤ (x5_2 : Int) := of_decide_eq_true (by assumption)
         have q460 : x5_2 < (l1_2.length : Int) := of_decide_eq_true (by assumption)
         obtain ⟨ad460,e460,hx460_0,hx460_1⟩ := at_T64 HR1_2.out x5_2 p460 q460
         cases e460
         replace hx460_0 := (HB.out.cell (wbl hx460_0)).trans hx460_0
         replace hx460_1 := (HB.out.cell (wbl hx460_1)).trans hx460_1
         replace p460 := eq_true p460
         replace q460 := eq_true q460
         go_wp2
         repeat (go_quiet (fail);try go_wp2)
         go_ret
         exact ⟨by first | rfl | (simp [*] <;> rfl),pw_below_drewN HB.out _⟩
       · rw [if_neg c36] at H
         have c36b0 : (!(((rd_T64 l0_2 x5_2).f0) == ((rd_T64 l1_2 x5_2).f0)) || (!(((rd_T64 l0_2 x5_2).f1) == ((rd_T64 l1_2 x5_2).f1)))) = false := by simpa using c36
         clear c36
         replace H' := am H
         obtain ⟨hcz41_0,hcz41_1,hcz41_2,hcz41_3,hcz41_4⟩ := cO5 BK456.out
         have p459 : 0 ≤ (x5_2 : Int) := of_decide_eq_true (by assumption)
         have q459 : x5_2 < (l0_2.length : Int) := of_decide_eq_true (by assumption)
         obtain ⟨ad459,e459,hx459_0,hx459_1⟩ := at_T64 HR0_2.out x5_2 p459 q459
         cases e459
         replace hx459_0 := (HB.out.cell (wbl hx459_0)).trans hx459_0
         replace hx459_1 := (HB.out.cell (wbl hx459_1)).trans hx459_1
         replace p459 := eq_true p459
         replace q459 := eq_true q459
         obtain ⟨hcz42_0,hcz42_1,hcz42_2,hcz42_3,hcz42_4⟩ := cO5 BK457.out
         have p460 : 0 ≤ (x5_2 : Int) := of_decide_eq_true (by assumption)
         have q460 : x5_2 < (l1_2.length : Int) := of_decide_eq_true (by assumption)
         obtain ⟨ad460,e460,hx460_0,hx460_1⟩ := at_T64 HR1_2.out x5_2 p460 q460
         cases e460
         replace hx460_0 := (HB.out.cell (wbl hx460_0)).trans hx460_0
         replace hx460_1 := (HB.out.cell (wbl hx460_1)).trans hx460_1
         replace p460 := eq_true p460
         replace q460 := eq_true q460
         go_wp2
         repeat (go_quiet (fail);try go_wp2)
         go_roundg k2
         case measure => have := HJ2.out;have := HK2.out;omega
         case rel => exact ⟨(wrap64 (x5_2 + 1)),(by first | rfl | (simp;done) | (simp [*];done)),H',⟨by have := HJ2.out;have := HK2.out;omega⟩,⟨BK456.out⟩,⟨BK457.out⟩,⟨pw_below_drewN HB.out _⟩⟩
end
def tRows : List S126 := [⟨5,4,10⟩,⟨10,8,20⟩,⟨20,15,45⟩]
def aNoz : List S64 := [⟨0,10⟩,⟨1,10⟩,⟨2,12⟩]
def bNoz : List S64 := [⟨1,5⟩,⟨0,5⟩]
def cBas : List S27 := [⟨⟨tRows,50⟩,aNoz,20,5⟩,⟨⟨tRows,50⟩,bNoz,8,100⟩]
def cFeeds : List S123 := [⟨0,2⟩]
theorem kn_A : l4_A.f = some (tRows,50,aNoz,20,5) := by kernel_rfl
theorem kn_C : l4_C.f = some (cBas,cFeeds) := by kernel_rfl
theorem kn_T : l4_T.f = some (tRows,50) := by kernel_rfl
theorem kn_Out : ca_Out.f 400 tRows 50 aNoz 20 5 22 = some ([10,20,45],10,0) := by kernel_rfl
theorem kn_Shares : ca_Shares.f 400 tRows 50 aNoz 20 5 78 = some ([10,20,45],3,0) := by kernel_rfl
theorem kn_Level : ca_Level.f 400 tRows 50 aNoz 20 5 30 60 = some (13,15,0) := by kernel_rfl
theorem kn_Bounds : ca_Bounds.f 400 tRows 50 aNoz 20 5 30 60 = some ([⟨8,10⟩,⟨13,20⟩,⟨9,30⟩],0,0,0) := by kernel_rfl
theorem kn_Proves : ca_Proves.f tRows 50 aNoz 20 5 13 14 = some (27,56,0) := by kernel_rfl
theorem kn_Gains : ca_Gains.f 400 tRows 50 aNoz 20 5 2 10 30 = some ([-4,-5,9],0,0) := by kernel_rfl
theorem kn_Lowered : ca_Lowered.f 3000 tRows 50 aNoz 20 5 30 [⟨4,4⟩,⟨8,8⟩,⟨18,18⟩] = some ([⟨2,9⟩,⟨2,10⟩],0) := by kernel_rfl
theorem kn_Flow : ca_Flow.f 400 cBas cFeeds 30 = some ([[8,13,9],[7,2]],[0,0],0) := by kernel_rfl
theorem kn_Least : ca_Least.f 400 cBas cFeeds 1 0 8 = some (34,0) := by kernel_rfl
theorem kn_Mends : ca_Mends.f 400 tRows 50 aNoz 20 5 [8,12,12] 33 = some ([10,11,12],1,0) := by kernel_rfl
def rText : ByteArray := { data := #[99,97,115,116,108,101,32,56,32,49,10,110,111,122,122,108,101,32,48,32,53,10,101,110,100,32,48,51,56,10] }
theorem kn_Read : ca_Read.f tRows 50 rText = some (tRows,50,[⟨0,5⟩],8,1,0) := by kernel_rfl
theorem C_of_block {α : Type} {k : Kd α} {W : World} {g t : Nat} {xs : List α} {inner : List Value} (hb : W.heap[g]? = some (.cells inner.toArray t (0,0))) (hr : Reps (k.K W) k.sz xs inner) (hm : xs.length ≤ 9223372036854775807) : k.C W (some ⟨g,0,none⟩) xs.length xs := by
 refine ⟨rfl,hm,fun hn => ⟨_,rfl,fun j p hj => ?_⟩⟩
 have h := hr.2 j p hj
 refine ⟨_,k.K_len h,h,?_⟩
 intro i u hu
 have ha : (Addr.add ⟨g,0,none⟩ (j * k.sz + i)) = ⟨g,j * k.sz + i,none⟩ := by
  simp [Addr.add]
  try (intro h1 h2;rw [h1,h2])
 rw [ha]
 refine (blk_cell hb _).trans ?_
 have h3 : inner[j * k.sz + i]? = some u := by
  rw [List.getElem?_take] at hu
  split at hu
  · rw [List.getElem?_drop] at hu;exact hu
  · cases hu
 simpa using h3
theorem ints_of_block {W : World} {g t : Nat} {xs : List Int} (hb : W.heap[g]? = some (.cells (xs.map (Value.int .i64)).toArray t (0,0))) (hm : xs.length ≤ 9223372036854775807) : (Kd.int .i64).C W (some ⟨g,0,none⟩) xs.length xs :=
 C_of_block hb (by
  refine ⟨by simp [Kd.int,Kd.scalar],fun j p hj => ?_⟩
  show ((xs.map (Value.int .i64)).drop (j * 1)).take 1 = [Value.int .i64 p]
  obtain ⟨hl,hp⟩ := List.getElem?_eq_some_iff.1 hj
  rw [Nat.mul_one,List.drop_eq_getElem_cons (by simpa using hl)]
  simp [hp]) hm
theorem blk_new1 (w : World) (a b : Obj) : ((w.alloc a).alloc b).heap[w.heap.size + 1]? = some b := by
 have h := blk_new (w.alloc a) b
 rw [World.size_alloc] at h
 exact h
theorem blk_new2 (w : World) (a b c : Obj) : (((w.alloc a).alloc b).alloc c).heap[w.heap.size + 1 + 1]? = some c := by
 have h := blk_new1 (w.alloc a) b c
 rw [World.size_alloc] at h
 exact h
theorem lists2_of_block {e : Nat} {W : World} {g t : Nat} {A1 A2 : Option Addr} {c1 c2 : Nat} {x1 x2 : List Int} (hb : W.heap[g]? = some (.cells #[.slice A1 x1.length c1,.slice A2 x2.length c2] t (0,0))) (h1 : (Kd.int .i64).C W A1 x1.length x1) (hc1 : x1.length ≤ c1) (h2 : (Kd.int .i64).C W A2 x2.length x2) (hc2 : x2.length ≤ c2) : (Kd.slice e (Kd.int .i64)).C W (some ⟨g,0,none⟩) 2 [x1,x2] :=
 C_of_block (xs := [x1,x2]) (inner := [.slice A1 x1.length c1,.slice A2 x2.length c2]) hb (Reps.snoc (ps := [x1]) (cs := [.slice A1 x1.length c1]) (Reps.snoc (ps := []) (cs := []) (Reps.none _ _) ⟨A1,c1,rfl,hc1,h1⟩ rfl) ⟨A2,c2,rfl,hc2,h2⟩ rfl) (by simp)
section
attribute [local go_sem] max2_int min2_int max_two min_two
set_option linter.unusedSimpArgs false
end
end Go.Proofs.YticlelgmmonloaaGreatDoor.C

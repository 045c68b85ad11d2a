/- A part of the proof: the walks of the functions that it reaches. TIGHT. -/
import Derived.Test.YticlelgmmonloaaGreatDoorM14
import Derived.Test.YticlelgmmonloaaGreatDoorM16
set_option linter.unusedVariables false
set_option linter.unusedSimpArgs false
namespace Go.Proofs.YticlelgmmonloaaGreatDoor.C
open Go.RowKit Go.Proofs.YticlelgmmonloaaGreatDoorW.PrintWords Go.Proofs.YticlelgmmonloaaGreatDoorW.PrintLast Go.Proofs.YticlelgmmonloaaGreatDoorW.PrintMore
set_option linter.unusedVariables false
set_option linter.unusedSimpArgs false
set_option maxHeartbeats 16000000
set_option maxRecDepth 100000
section
attribute [local go_sem] max2_int min2_int max_two min_two
theorem eqA58 (d : Nat) (w : World) (x0 y0 : Int) (x1 y1 : Int) :
 (Op.equalIn (d + 2) 58 (.agg #[.int .i64 x0,.int .i64 x1]) (.agg #[.int .i64 y0,.int .i64 y1])).run Tryz.prog w = .ok (x0 == y0 && (x1 == y1)) w := by
 refine eqA_of Tryz.underlying58 (by kernel_rfl) ?_
 refine eqf_cons (by rfl) (by go_simp;rfl) (by go_simp;rfl) (by go_simp) ?_
 exact eqf_last (by rfl) (by go_simp;rfl) (by go_simp;rfl) (by go_simp)
end
section
attribute [local go_sem] max2_int min2_int max_two min_two
attribute [local go_sem high] eqA58
def q4_SameChanges.l0 : Nat → List (S58) → List (S58) → Int → Option (Bool)
 | 0,_,_,_ => none
 | k + 1,x0,x1,x5 => if x5 < (x0.length : Int) then (if 0 ≤ x5 then (if x5 < (x1.length : Int) then (if (!(((rd_T58 x0 x5).f0) == ((rd_T58 x1 x5).f0)) || (!(((rd_T58 x0 x5).f1) == ((rd_T58 x1 x5).f1)))) = true then (some false) else (q4_SameChanges.l0 k x0 x1 (wrap64 (x5 + 1)))) else (none)) else (none)) else (some true)
def q4_SameChanges.f (k : Nat) (l0 : List (S58)) (l1 : List (S58)) : Option (Bool) := if (l0.length : Int) = (l1.length : Int) then (q4_SameChanges.l0 k l0 l1 0) else (some false)
theorem q4_SameChanges.calls (k : Nat) (A0 : Option Addr) (c0 : Nat) (l0 : List (S58)) (A1 : Option Addr) (c1 : Nat) (l1 : List (S58)) (r : Bool) (w : World) (hr0 : Kd.C k58 w A0 l0.length l0) (hc0 : l0.length ≤ c0) (hr1 : Kd.C k58 w A1 l1.length l1) (hc1 : l1.length ≤ c1) (h : q4_SameChanges.f k l0 l1 = some r) :
 Calls Tryz.prog 47 #[.slice A0 l0.length c0,.slice A1 l1.length c1] w fun e w' => e = .returned (.bool r) ∧ Drawn0 w w' := by
 have hu58 := Tryz.underlying58
 have HR0 := am hr0
 have HC0 := am hc0
 clear hr0 hc0
 have HR1 := am hr1
 have HC1 := am hc1
 clear hr1 hc1
 have H : (if (l0.length : Int) = (l1.length : Int) then (q4_SameChanges.l0 k l0 l1 0) else (some false)) = some r := h
 clear h
 by_cases c3 : (l0.length : Int) = (l1.length : Int)
 case neg =>
  rw [if_neg c3] at H
  have c3b0 : ((l0.length : Int) == (l1.length : Int)) = false := beq_eq_false_iff_ne.mpr c3
  have c3b1 : ((l0.length : Int) != (l1.length : Int)) = true := bne_iff_ne.mpr c3
  have c3b2 : (l0.length == l1.length) = false := by first | simpa using c3 | (simp at c3 ⊢;omega)
  obtain rfl := Option.some.inj H
  go_enter Tryz.func47,Tryz.ntmps47
  go_wp2
  repeat (go_quiet (fail);try go_wp2)
  go_ret
  exact ⟨by first | rfl | (simp;done) | (simp [*];done),by repeat (first | exact Drawn0.refl _ | apply Drawn0.step)⟩
 rw [if_pos c3] at H
 have c3b0 : ((l0.length : Int) == (l1.length : Int)) = true := beq_iff_eq.mpr c3
 have c3b1 : ((l0.length : Int) != (l1.length : Int)) = false := bne_eq_false_iff_eq.mpr c3
 have c3b2 : (l0.length == l1.length) = true := by first | simpa using c3 | (simp at c3 ⊢;omega)
 clear c3
 replace H' := am H
 go_enter Tryz.func47,Tryz.ntmps47
 go_wp2
 repeat (go_quiet (fail);try go_wp2)
 go_loopg [5] k (fun kq v5 w' => ∃ (x5_1 : Int),v5 = .int .i64 x5_1 ∧ Aside0 (q4_SameChanges.l0 kq l0 l1 x5_1 = some r) ∧ Aside0 (kq ≤ k) ∧ Drawn0 w w')
 case atStart => exact ⟨(0),(by first | rfl | (simp;done) | (simp [*];done)),H',⟨Nat.le_refl _⟩,by repeat (first | exact Drawn0.refl _ | apply Drawn0.step)⟩
 case round =>
  clear H'
  obtain ⟨x5_1,rfl,HA,HK1,⟨m1,rfl⟩⟩ := hrel
  cases gk with
  | zero => exact absurd HA.out (by simp [q4_SameChanges.l0])
  | succ k1 =>
   have H := HA.out
   clear HA
   simp only [q4_SameChanges.l0] at H
   by_cases c4 : x5_1 < (l0.length : Int)
   case neg =>
    rw [if_neg c4] at H
    have c4b0 : decide (x5_1 < (l0.length : Int)) = false := decide_eq_false c4
    clear c4
    obtain rfl := Option.some.inj H
    go_wp2
    repeat (go_quiet (fail);try go_wp2)
    go_ret
    exact ⟨by first | rfl | (simp;done) | (simp [*];done),by repeat (first | exact Drawn0.refl _ | apply Drawn0.step)⟩
   rw [if_pos c4] at H
   have c4b0 : decide (x5_1 < (l0.length : Int)) = true := decide_eq_true c4
   clear c4
   by_cases c5 : 0 ≤ x5_1
   case neg =>
    rw [if_neg c5] at H
    exact absurd H (by simp)
   rw [if_pos c5] at H
   have c5b0 : decide (0 ≤ x5_1) = true := decide_eq_true c5
   clear c5
   by_cases c6 : x5_1 < (l1.length : Int)
   case neg =>
    rw [if_neg c6] at H
    exact absurd H (by simp)
   rw [if_pos c6] at H
   have c6b0 : decide (x5_1 < (l1.length : Int)) = true := decide_eq_true c6
   clear c6
   by_cases c7 : (!(((rd_T58 l0 x5_1).f0) == ((rd_T58 l1 x5_1).f0)) || (!(((rd_T58 l0 x5_1).f1) == ((rd_T58 l1 x5_1).f1)))) = true
   · rw [if_pos c7] at H
     have c7b0 : (!(((rd_T58 l0 x5_1).f0) == ((rd_T58 l1 x5_1).f0)) || (!(((rd_T58 l0 x5_1).f1) == ((rd_T58 l1 x5_1).f1)))) = true := c7
     clear c7
     obtain rfl := Option.some.inj H
     have p402 : 0 ≤ (x5_1 : Int) := of_decide_eq_true (by assumption)
     have q402 : x5_1 < (l0.length : Int) := of_decide_eq_true (by assumption)
     obtain ⟨ad402,e402,hx402_0,hx402_1⟩ := at_T58 HR0.out x5_1 p402 q402
     cases e402
     replace p402 := eq_true p402
     replace q402 := eq_true q402
     have p403 : 0 ≤ (x5_1 : Int) := of_decide_eq_true (by assumption)
     have q403 : x5_1 < (l1.length : Int) := of_decide_eq_true (by assumption)
     obtain ⟨ad403,e403,hx403_0,hx403_1⟩ := at_T58 HR1.out x5_1 p403 q403
     cases e403
     replace p403 := eq_true p403
     replace q403 := eq_true q403
     go_wp2
     repeat (go_quiet (fail);try go_wp2)
     go_ret
     exact ⟨by first | rfl | (simp;done) | (simp [*];done),by repeat (first | exact Drawn0.refl _ | apply Drawn0.step)⟩
   · rw [if_neg c7] at H
     have c7b0 : (!(((rd_T58 l0 x5_1).f0) == ((rd_T58 l1 x5_1).f0)) || (!(((rd_T58 l0 x5_1).f1) == ((rd_T58 l1 x5_1).f1)))) = false := by simpa using c7
     clear c7
     replace H' := am H
     have p402 : 0 ≤ (x5_1 : Int) := of_decide_eq_true (by assumption)
     have q402 : x5_1 < (l0.length : Int) := of_decide_eq_true (by assumption)
     obtain ⟨ad402,e402,hx402_0,hx402_1⟩ := at_T58 HR0.out x5_1 p402 q402
     cases e402
     replace p402 := eq_true p402
     replace q402 := eq_true q402
     have p403 : 0 ≤ (x5_1 : Int) := of_decide_eq_true (by assumption)
     have q403 : x5_1 < (l1.length : Int) := of_decide_eq_true (by assumption)
     obtain ⟨ad403,e403,hx403_0,hx403_1⟩ := at_T58 HR1.out x5_1 p403 q403
     cases e403
     replace p403 := eq_true p403
     replace q403 := eq_true q403
     go_wp2
     repeat (go_quiet (fail);try go_wp2)
     go_roundg k1
     case measure => have := HK1.out;omega
     case rel => exact ⟨(wrap64 (x5_1 + 1)),(by first | rfl | (simp;done) | (simp [*];done)),H',⟨by have := HK1.out;omega⟩,by repeat (first | exact Drawn0.refl _ | apply Drawn0.step)⟩
end
section
attribute [local go_sem] max2_int min2_int max_two min_two
def q4_Counts.l0 : Nat → List (S40) → Int → List (S126) → Int → List (S64) → Int → Int → Option (Bool)
 | 0,_,_,_,_,_,_,_ => none
 | k + 1,x1,x5,x959000,x959001,x959002,x959003,x959004 => if x5 < (x1.length : Int) then (if 0 ≤ x5 then ((q4_Flow.f ((rd_T40 x1 x5).f0) ((rd_T40 x1 x5).f1)).bind fun t960 => (if t960 = true then (q4_Counts.l0 k x1 (wrap64 (x5 + 1)) x959000 x959001 x959002 x959003 x959004) else (some false))) else (none)) else (some ((x1.length : Int) == (x959002.length : Int)))
def q4_Counts.f (k : Nat) (l0_0 : List (S126)) (a0_1 : Int) (l0_2 : List (S64)) (a0_3 : Int) (a0_4 : Int) (l1 : List (S40)) : Option (Bool) := q4_Counts.l0 k l1 0 l0_0 a0_1 l0_2 a0_3 a0_4
theorem q4_Counts.calls (k : Nat) (A0_0 : Option Addr) (c0_0 : Nat) (l0_0 : List (S126)) (a0_1 : Int) (A0_2 : Option Addr) (c0_2 : Nat) (l0_2 : List (S64)) (a0_3 : Int) (a0_4 : Int) (A1 : Option Addr) (c1 : Nat) (l1 : List (S40)) (r : Bool) (w : World) (hr0_0 : Kd.C k126 w A0_0 l0_0.length l0_0) (hc0_0 : l0_0.length ≤ c0_0) (hr0_2 : Kd.C k64 w A0_2 l0_2.length l0_2) (hc0_2 : l0_2.length ≤ c0_2) (hr1 : Kd.C k40 w A1 l1.length l1) (hc1 : l1.length ≤ c1) (h : q4_Counts.f k l0_0 a0_1 l0_2 a0_3 a0_4 l1 = some r) :
 Calls Tryz.prog 46 #[.agg #[.slice A0_0 l0_0.length c0_0,.int .i64 a0_1,.slice A0_2 l0_2.length c0_2,.int .i64 a0_3,.int .i64 a0_4],.slice A1 l1.length c1] w fun e w' => e = .returned (.bool r) ∧ Below w.heap.size w w' := by
 have hu27 := Tryz.underlying27
 have hu40 := Tryz.underlying40
 have HR0_0 := am hr0_0
 have HC0_0 := am hc0_0
 clear hr0_0 hc0_0
 have HR0_2 := am hr0_2
 have HC0_2 := am hc0_2
 clear hr0_2 hc0_2
 have HR1 := am hr1
 have HC1 := am hc1
 clear hr1 hc1
 have HB := am (Below.refl w.heap.size w)
 have H : (q4_Counts.l0 k l1 0 l0_0 a0_1 l0_2 a0_3 a0_4) = some r := h
 clear h
 replace H' := am H
 go_enter Tryz.func46,Tryz.ntmps46
 go_wp2_with (first | ((refine gate_dst (N := 2) rfl ?_);refine box_event rfl (N := 2) rfl (cs := #[.slice A0_0 l0_0.length c0_0,.int .i64 a0_1,.slice A0_2 l0_2.length c0_2,.int .i64 a0_3,.int .i64 a0_4]) (t := 27) ?hr ?_;(case hr => go_simp;try rfl);intro gb958 hg w3 hbox hb;have BK958 := am (hbox);have GW958 := am (ge_new (HB.out) hg);have GE958 := am (ge_new (HB.out) hg);replace HB := am (below_step (HB.out) hb);clear hb hbox hg))
 go_loopg [5] k (fun kq v5 w' => ∃ (x5_1 : Int),v5 = .int .i64 x5_1 ∧ Aside0 (q4_Counts.l0 kq l1 x5_1 l0_0 a0_1 l0_2 a0_3 a0_4 = some r) ∧ Aside0 (kq ≤ k) ∧ Aside0 (w'.heap[gb958]? = some (.cells #[(.slice A0_0 l0_0.length c0_0),.int .i64 a0_1,(.slice A0_2 l0_2.length c0_2),.int .i64 a0_3,.int .i64 a0_4] 27 (0,0))) ∧ Aside0 (Below w.heap.size w w'))
 case atStart => exact ⟨(0),(by first | rfl | (simp;done) | (simp [*];done)),H',⟨Nat.le_refl _⟩,⟨BK958.out⟩,⟨HB.out⟩⟩
 case round =>
  clear H'
  obtain ⟨x5_1,rfl,HA,HK1,BK958,HB⟩ := hrel
  cases gk with
  | zero => exact absurd HA.out (by simp [q4_Counts.l0])
  | succ k1 =>
   have H := HA.out
   clear HA
   simp only [q4_Counts.l0] at H
   by_cases c4 : x5_1 < (l1.length : Int)
   case neg =>
    rw [if_neg c4] at H
    have c4b0 : decide (x5_1 < (l1.length : Int)) = false := decide_eq_false c4
    clear c4
    obtain rfl := Option.some.inj H
    obtain ⟨hcz10_0,hcz10_1,hcz10_2,hcz10_3,hcz10_4⟩ := cO5 BK958.out
    go_wp2
    go_ret
    exact ⟨by first | rfl | (simp [*] <;> rfl),HB.out⟩
   rw [if_pos c4] at H
   have c4b0 : decide (x5_1 < (l1.length : Int)) = true := decide_eq_true c4
   clear c4
   by_cases c5 : 0 ≤ x5_1
   case neg =>
    rw [if_neg c5] at H
    exact absurd H (by simp)
   rw [if_pos c5] at H
   have c5b0 : decide (0 ≤ x5_1) = true := decide_eq_true c5
   clear c5
   replace H := obm H
   obtain ⟨t960,A60,H⟩ := H
   replace H : (if t960 = true then (q4_Counts.l0 k1 l1 (wrap64 (x5_1 + 1)) l0_0 a0_1 l0_2 a0_3 a0_4) else (some false)) = some r := H
   have A6 := am A60
   clear A60
   by_cases c7 : t960 = true
   · subst c7
     replace H : (q4_Counts.l0 k1 l1 (wrap64 (x5_1 + 1)) l0_0 a0_1 l0_2 a0_3 a0_4) = some r := by rw [if_pos rfl] at H;exact H
     replace H' := am H
     have p959 : 0 ≤ (x5_1 : Int) := of_decide_eq_true (by assumption)
     have q959 : x5_1 < (l1.length : Int) := of_decide_eq_true (by assumption)
     obtain ⟨ad959,e959,hx959_0,hx959_1⟩ := at_T40 HR1.out x5_1 p959 q959
     cases e959
     replace hx959_0 := (HB.out.cell (wbl hx959_0)).trans hx959_0
     replace hx959_1 := (HB.out.cell (wbl hx959_1)).trans hx959_1
     replace p959 := eq_true p959
     replace q959 := eq_true q959
     go_wp2_with (first | ((with_reducible refine gate_callee (f := 26) rfl ?_);refine goesL_ (some 16) rfl rfl Tryz.func26 (by kernel_rfl) rfl #[.agg #[.int .i64 ((rd_T40 l1 x5_1).f0),.int .i64 ((rd_T40 l1 x5_1).f1)]] rfl (by (try simp only [List.map_toArray,List.map_cons,List.map_nil]);first | done | rfl | (simp only [List.length_drop,List.length_take];rfl)) ?_;(refine (q4_Flow.calls ((rd_T40 l1 x5_1).f0) ((rd_T40 l1 x5_1).f1) true _ A6.out).mono ?_);rintro e w8 ⟨rfl,hb⟩;refine ⟨_,rfl,?_⟩;replace BK958 := (kmv hb BK958);replace HB := am (below_step (HB.out) hb);(try clear hb);(try clear hb2);(try clear hk);(try clear hi)))
     go_roundg k1
     case measure => have := HK1.out;omega
     case rel => exact ⟨(wrap64 (x5_1 + 1)),(by first | rfl | (simp;done) | (simp [*];done)),H',⟨by have := HK1.out;omega⟩,⟨BK958.out⟩,⟨HB.out⟩⟩
   · replace c7 := Bool.eq_false_iff.mpr c7
     subst c7
     replace H : (some false) = some r := by rw [if_neg (show ¬ (false = true) by decide)] at H;exact H
     obtain rfl := Option.some.inj H
     have p959 : 0 ≤ (x5_1 : Int) := of_decide_eq_true (by assumption)
     have q959 : x5_1 < (l1.length : Int) := of_decide_eq_true (by assumption)
     obtain ⟨ad959,e959,hx959_0,hx959_1⟩ := at_T40 HR1.out x5_1 p959 q959
     cases e959
     replace hx959_0 := (HB.out.cell (wbl hx959_0)).trans hx959_0
     replace hx959_1 := (HB.out.cell (wbl hx959_1)).trans hx959_1
     replace p959 := eq_true p959
     replace q959 := eq_true q959
     go_wp2_with (first | ((with_reducible refine gate_callee (f := 26) rfl ?_);refine goesL_ (some 16) rfl rfl Tryz.func26 (by kernel_rfl) rfl #[.agg #[.int .i64 ((rd_T40 l1 x5_1).f0),.int .i64 ((rd_T40 l1 x5_1).f1)]] rfl (by (try simp only [List.map_toArray,List.map_cons,List.map_nil]);first | done | rfl | (simp only [List.length_drop,List.length_take];rfl)) ?_;(refine (q4_Flow.calls ((rd_T40 l1 x5_1).f0) ((rd_T40 l1 x5_1).f1) false _ A6.out).mono ?_);rintro e w9 ⟨rfl,hb⟩;refine ⟨_,rfl,?_⟩;replace BK958 := (kmv hb BK958);replace HB := am (below_step (HB.out) hb);(try clear hb);(try clear hb2);(try clear hk);(try clear hi)))
     go_ret
     exact ⟨by first | rfl | (simp [*] <;> rfl),HB.out⟩
def q4_With.f (l0_0 : List (S126)) (a0_1 : Int) (l0_2 : List (S64)) (a0_3 : Int) (a0_4 : Int) (a1_0 : Int) (a1_1 : Int) : Option ((List (S64))) := if ([] : List (S64)).length + l0_2.length < 8796093022208 then ((some (([] : List (S64)) ++ l0_2 : List (S64))).bind fun y721 => (if 0 ≤ a1_0 then (if a1_0 < (y721.length : Int) then (some (y721.set (a1_0 : Int).toNat (⟨(rd_T64 y721 a1_0).f0,a1_1⟩ : S64))) else (none)) else (none))) else (none)
theorem q4_With.calls (A0_0 : Option Addr) (c0_0 : Nat) (l0_0 : List (S126)) (a0_1 : Int) (A0_2 : Option Addr) (c0_2 : Nat) (l0_2 : List (S64)) (a0_3 : Int) (a0_4 : Int) (a1_0 : Int) (a1_1 : Int) (r : List (S64)) (w : World) (hr0_0 : Kd.C k126 w A0_0 l0_0.length l0_0) (hc0_0 : l0_0.length ≤ c0_0) (hr0_2 : Kd.C k64 w A0_2 l0_2.length l0_2) (hc0_2 : l0_2.length ≤ c0_2) (h : q4_With.f l0_0 a0_1 l0_2 a0_3 a0_4 a1_0 a1_1 = some r) :
 Calls Tryz.prog 36 #[.agg #[.slice A0_0 l0_0.length c0_0,.int .i64 a0_1,.slice A0_2 l0_2.length c0_2,.int .i64 a0_3,.int .i64 a0_4],.agg #[.int .i64 a1_0,.int .i64 a1_1]] w fun e w' => ∃ v0_ : Value,e = .returned (.agg #[.slice A0_0 l0_0.length c0_0,.int .i64 a0_1,v0_,.int .i64 a0_3,.int .i64 a0_4]) ∧ Kd.R k64 64 w' w.heap.size (fun _ => True) v0_ r ∧ Below w.heap.size w w' := by
 have hu27 := Tryz.underlying27
 have hu58 := Tryz.underlying58
 have HR0_0 := am hr0_0
 have HC0_0 := am hc0_0
 clear hr0_0 hc0_0
 have HR0_2 := am hr0_2
 have HC0_2 := am hc0_2
 clear hr0_2 hc0_2
 have HB := am (Below.refl w.heap.size w)
 have H : (if ([] : List (S64)).length + l0_2.length < 8796093022208 then ((some (([] : List (S64)) ++ l0_2 : List (S64))).bind fun y721 => (if 0 ≤ a1_0 then (if a1_0 < (y721.length : Int) then (some (y721.set (a1_0 : Int).toNat (⟨(rd_T64 y721 a1_0).f0,a1_1⟩ : S64))) else (none)) else (none))) else (none)) = some r := h
 clear h
 by_cases c3 : ([] : List (S64)).length + l0_2.length < 8796093022208
 case neg =>
  rw [if_neg c3] at H
  exact absurd H (by simp)
 rw [if_pos c3] at H
 have LMc3 := am c3
 clear c3
 obtain ⟨y721,hy721⟩ : ∃ y_ : List (S64),y_ = (([] : List (S64)) ++ l0_2) := ⟨_,rfl⟩
 replace H : (if 0 ≤ a1_0 then (if a1_0 < (y721.length : Int) then (some (y721.set (a1_0 : Int).toNat (⟨(rd_T64 y721 a1_0).f0,a1_1⟩ : S64))) else (none)) else (none)) = some r := by first | (rw [hy721];with_reducible exact H) | (have H2_ := (Option.bind_some _ _).symm.trans H;rw [hy721];with_reducible exact H2_) | (have H2_ := (Option.bind_some _ _).symm.trans H;with_reducible exact H2_) | with_reducible exact H | (rw [hy721];exact H) | exact H
 have Ny721 := am hy721
 clear hy721
 by_cases c4 : 0 ≤ a1_0
 case neg =>
  rw [if_neg c4] at H
  exact absurd H (by simp)
 rw [if_pos c4] at H
 have c4b0 : decide (0 ≤ a1_0) = true := decide_eq_true c4
 clear c4
 by_cases c5 : a1_0 < (y721.length : Int)
 case neg =>
  rw [if_neg c5] at H
  exact absurd H (by simp)
 rw [if_pos c5] at H
 have c5b0 : decide (a1_0 < (y721.length : Int)) = true := decide_eq_true c5
 clear c5
 obtain ⟨y724,hy724⟩ : ∃ y_ : List (S64),y_ = (y721.set (a1_0 : Int).toNat (⟨(rd_T64 y721 a1_0).f0,a1_1⟩ : S64)) := ⟨_,rfl⟩
 replace H : (some y724) = some r := by first | (rw [hy724];with_reducible exact H) | (have H2_ := (Option.bind_some _ _).symm.trans H;rw [hy724];with_reducible exact H2_) | (have H2_ := (Option.bind_some _ _).symm.trans H;with_reducible exact H2_) | with_reducible exact H | (rw [hy724];exact H) | exact H
 have Ny724 := am hy724
 clear hy724
 obtain rfl := Option.some.inj H
 go_enter Tryz.func36,Tryz.ntmps36
 go_wp2_with (first | ((refine gate_dst (N := 2) rfl ?_);refine box_event rfl (N := 2) rfl (cs := #[.slice A0_0 l0_0.length c0_0,.int .i64 a0_1,.slice A0_2 l0_2.length c0_2,.int .i64 a0_3,.int .i64 a0_4]) (t := 27) ?hr ?_;(case hr => go_simp;try rfl);intro gb718 hg w7 hbox hb;have BK718 := am (hbox);have GW718 := am (ge_new (HB.out) hg);have GE718 := am (ge_new (HB.out) hg);replace HB := am (below_step (HB.out) hb);clear hb hbox hg) | ((refine gate_dst (N := 3) rfl ?_);refine box_event rfl (N := 3) rfl (cs := #[.int .i64 a1_0,.int .i64 a1_1]) (t := 58) ?hr ?_;(case hr => go_simp;try rfl);intro gb719 hg w8 hbox hb;have BK719 := am (hbox);have GW719 := am (ge_new (HB.out) hg);have GE719 := am (ge_new (HB.out) hg);have NB718_719 := am (ne_new BK718.out hg);have NB719_718 := am (ne_new2 BK718.out hg);replace BK718 := (kmv hb BK718);replace HB := am (below_step (HB.out) hb);clear hb hbox hg) | ((refine gate_dst (N := 4) rfl ?_);refine box_event rfl (N := 4) rfl (cs := #[.slice none 0 0,.int .i64 0,.slice none 0 0,.int .i64 0,.int .i64 0]) (t := 27) ?hr ?_;(case hr => go_simp;try rfl);intro gb720 hg w9 hbox hb;have BK720 := am (hbox);have GW720 := am (ge_new (HB.out) hg);have GE720 := am (ge_new (HB.out) hg);have NB718_720 := am (ne_new BK718.out hg);have NB720_718 := am (ne_new2 BK718.out hg);have NB719_720 := am (ne_new BK719.out hg);have NB720_719 := am (ne_new2 BK719.out hg);replace BK718 := (kmv hb BK718);replace BK719 := (kmv hb BK719);replace HB := am (below_step (HB.out) hb);clear hb hbox hg;have hnb10 := NB718_719.out;have hnc10 := NB719_718.out;have hnb11 := NB718_720.out;have hnc11 := NB720_718.out;obtain ⟨hcz12_0,hcz12_1,hcz12_2,hcz12_3,hcz12_4⟩ := cO5 BK718.out;have hfz12_0 := blk_frozen BK718.out 0;have hfz12_1 := blk_frozen BK718.out 1;have hfz12_2 := blk_frozen BK718.out 2;have hfz12_3 := blk_frozen BK718.out 3;have hfz12_4 := blk_frozen BK718.out 4) | ((with_reducible refine gate_builtin (b := .append) (xs := #[.const (.slice none 0 0),.tmp 6]) rfl ?_);at_builtin;refine Kd.R_append_rows k64 (w0 := w) w.heap.size rfl (.const (.slice none 0 0)) (.tmp 6) 25 64 (.agg #[(.int .i64 0),(.int .i64 0)]) 16 rfl Tryz.underlying25 info64 rfl (by decide) (by omega) (.slice none 0 0) ([] : List (S64)) l0_2 _ _ _ (fun _ => True) (fun _ => False) rfl rfl ?aO ?aR (fun _ _ h => h) (fun _ h => h.elim) ?aF ?aB ?aS ?aL ?_;(case aR => repeat (first | exact (kC HR0_2.out HB.out) | (with_reducible refine Kd.C_alloc ?_ _) | (with_reducible refine Kd.C_drewN ?_ _) | (with_reducible refine Kd.C_drew ?_)));(case aB => exact (HB.out));(case aF => exact (fun _ _ => trivial));(case aO => exact ((Kd.R_nil _ _ _ _ (fun _ => True))));(case aS => exact (below_size (HB.out)));(case aL => have := LMc3.out;omega);intro v722 w13 ho hb hg hat;rw [← Ny721.out] at ho;have HO723 := am (ho);replace BK718 := am (blk_grown (g := gb718) (o := .cells #[.slice A0_0 l0_0.length c0_0,.int .i64 a0_1,.slice A0_2 l0_2.length c0_2,.int .i64 a0_3,.int .i64 a0_4] 27 (0,0)) BK718.out hg (by simp [Value.ownBlock]));replace BK719 := am (blk_grown (g := gb719) (o := .cells #[.int .i64 a1_0,.int .i64 a1_1] 58 (0,0)) BK719.out hg (by simp [Value.ownBlock]));replace BK720 := am (blk_grown (g := gb720) (o := .cells #[.slice none 0 0,.int .i64 0,.slice none 0 0,.int .i64 0,.int .i64 0] 27 (0,0)) BK720.out hg (by simp [Value.ownBlock]));replace HB := am (hb);clear ho hb hg hat;obtain ⟨Ao14,co14,eo14⟩ := Kd.R_slice HO723.out;subst eo14;obtain ⟨hcz15_0,hcz15_1,hcz15_2,hcz15_3,hcz15_4⟩ := cO5 BK718.out;have hfz15_0 := blk_frozen BK718.out 0;have hfz15_1 := blk_frozen BK718.out 1;have hfz15_2 := blk_frozen BK718.out 2;have hfz15_3 := blk_frozen BK718.out 3;have hfz15_4 := blk_frozen BK718.out 4) | ((with_reducible refine gate_store (t := 25) (p := 8) rfl ?_);refine store_event (t := 25) (p := 8) (v := ?vo_w16) (w1 := (w13.setCell ⟨gb718,2,none⟩ (.slice Ao14 y721.length co14))) ?hg ?ho ?hn ?hr ?_;(case ho => rfl);(case hg => rfl);(case hn => rfl);(case hr => go_simp;try rfl);intro w16 hw;have n0_ : Aside0 (Kd.R k64 64 w16 w.heap.size (fun _ => True) (.slice Ao14 y721.length co14) y721) := ⟨(by rw [hw];exact (Kd.R_mono (Kd.R_far (p := ⟨gb718,2,none⟩) (Kd.R_types HO723.out BK718.out (by decide)) (fun _ hk => hk.2) (.slice Ao14 y721.length co14)) (fun _ hk => trivial)))⟩;have n1_ : Aside0 (w16.heap[gb718]? = some (.cells #[.slice A0_0 l0_0.length c0_0,.int .i64 a0_1,.slice Ao14 y721.length co14,.int .i64 a0_3,.int .i64 a0_4] 27 (0,0))) := ⟨(by rw [hw];exact (blk_put (cs := #[.slice A0_0 l0_0.length c0_0,.int .i64 a0_1,.slice A0_2 l0_2.length c0_2,.int .i64 a0_3,.int .i64 a0_4]) BK718.out 2 _ rfl))⟩;have n2_ : Aside0 (w16.heap[gb719]? = some (.cells #[.int .i64 a1_0,.int .i64 a1_1] 58 (0,0))) := ⟨(by rw [hw];exact (blk_far BK719.out NB719_718.out _))⟩;have n3_ : Aside0 (w16.heap[gb720]? = some (.cells #[.slice none 0 0,.int .i64 0,.slice none 0 0,.int .i64 0,.int .i64 0] 27 (0,0))) := ⟨(by rw [hw];exact (blk_far BK720.out NB720_718.out _))⟩;have n4_ : Aside0 (Below w.heap.size w w16) := ⟨(by rw [hw];exact (by repeat (first | (with_reducible first | exact HB.out | refine below_set ?_ (Aside0.out (by assumption)) | apply below_alloc | apply pw_below_drewN) | exact HB.out)))⟩;clear hw;clear HO723;clear BK718;clear BK719;clear BK720;clear HB;have HO723 := n0_;have BK718 := n1_;have BK719 := n2_;have BK720 := n3_;have HB := n4_;clear n0_ n1_ n2_ n3_ n4_;obtain ⟨hcz17_0,hcz17_1,hcz17_2,hcz17_3,hcz17_4⟩ := cO5 BK718.out;have hfz17_0 := blk_frozen BK718.out 0;have hfz17_1 := blk_frozen BK718.out 1;have hfz17_2 := blk_frozen BK718.out 2;have hfz17_3 := blk_frozen BK718.out 3;have hfz17_4 := blk_frozen BK718.out 4;have hnb18 := NB719_720.out;have hnc18 := NB720_719.out;obtain ⟨hcz19_0,hcz19_1⟩ := cO2 BK719.out;have p6 : 0 ≤ (a1_0 : Int) := of_decide_eq_true (by assumption);have q6 : (a1_0 : Int) < ((y721.length : Int) : Int) := of_decide_eq_true (by assumption);obtain ⟨go6,co6,eo6,gb6,gl6,cl6,HG6⟩ := Kd.R_form HO723.out (by omega);(first | cases eo6 | (injection eo6 with ea_ en_ ec_;(first | subst ea_ | (injection ea_ with ea_;subst ea_));subst ec_;clear en_));have GB6 := am gb6;have GG6 := am HG6;clear gb6 gl6 HG6;obtain ⟨ce6,hcl6,hM6,hcc6,hfr6⟩ := Kd.R_elem HO723.out z64 (a1_0 : Int) p6 q6;obtain rfl := k64_openM hM6;have hx6_0 : w16.cell? ⟨go6,(a1_0 : Int).toNat * 2,none⟩ = some (.int .i64 ((rd_T64 y721 a1_0).f0)) := hcc6 0 _ rfl;have hx6_1 : w16.cell? ⟨go6,(a1_0 : Int).toNat * 2 + 1,none⟩ = some (.int .i64 ((rd_T64 y721 a1_0).f1)) := hcc6 1 _ rfl;have hf6_0 : w16.frozen? ⟨go6,(a1_0 : Int).toNat * 2,none⟩ = false := hfr6 0;have hf6_1 : w16.frozen? ⟨go6,(a1_0 : Int).toNat * 2 + 1,none⟩ = false := hfr6 1;clear hcl6 hcc6 hfr6 hM6;replace p6 := eq_true p6;replace q6 := eq_true q6;have HX20 := am (show Kd.R k64 64 w16 w.heap.size (fun _ => True) (.slice (some ⟨go6,0,none⟩) y721.length co14) y721 from HO723.out);obtain ⟨ce20,hcl20,hM20,hcc20,hfr20⟩ := Kd.R_elem HX20.out z64 (a1_0 : Int) (of_decide_eq_true (by assumption)) (by have h_ : (a1_0 : Int) < ((y721.length : Int) : Int) := of_decide_eq_true (by assumption);first | exact h_ | (have e_ := (Kd.R_reads' HO723.out).1;omega) | simpa using h_);obtain rfl := k64_openM hM20;have HP20 := Kd.R_seg HX20.out (a1_0 : Int) (of_decide_eq_true (by assumption)) (by have h_ : (a1_0 : Int) < ((y721.length : Int) : Int) := of_decide_eq_true (by assumption);first | exact h_ | (have e_ := (Kd.R_reads' HO723.out).1;omega) | simpa using h_) (seg := [.int .i64 a1_1]) (j := 1) hcl20 hcc20 (show 2 ≤ 2 from by decide) (x' := (⟨(rd_T64 y721 a1_0).f0,a1_1⟩ : S64)) (k64_mkM _ _ _ (⟨(rd_T64 y721 a1_0).f0,a1_1⟩ : S64) ) (fun _ hk => hk);have hx20_1 := hcc20 1 _ rfl;(try simp only [show (k64).sz = 2 from rfl,Nat.mul_one,Nat.add_zero] at hx20_1);have hf20_1 := hfr20 1;(try simp only [show (k64).sz = 2 from rfl,Nat.mul_one,Nat.add_zero] at hf20_1);clear hcl20 hcc20 hfr20 hM20) | ((with_reducible refine gate_store (t := 3) (p := 16) rfl ?_);refine store_event (t := 3) (p := 16) (v := ?vo_w21) (w1 := (w16.setCell ⟨go6,(a1_0 : Int).toNat * 2 + 1,none⟩ (.int .i64 a1_1))) ?hg ?ho ?hn ?hr ?_;(case ho => rfl);(case hg => rfl);(case hn => rfl);(case hr => go_simp;try rfl);intro w21 hw;have hg : w16.grownBy w21 (some go6) := (by rw [hw];exact HP20.2);have hp_ : Kd.R k64 64 w21 w.heap.size (fun _ => True) (.slice (some ⟨go6,0,none⟩) y721.length co14) y724 := (by rw [hw,Ny724.out];exact HP20.1);clear HP20;replace BK718 := am (blk_grown (g := gb718) (o := .cells #[.slice A0_0 l0_0.length c0_0,.int .i64 a0_1,.slice (some ⟨go6,0,none⟩) y721.length co14,.int .i64 a0_3,.int .i64 a0_4] 27 (0,0)) BK718.out hg (Kd.R_ne HO723.out BK718.out (by decide)));replace BK719 := am (blk_grown (g := gb719) (o := .cells #[.int .i64 a1_0,.int .i64 a1_1] 58 (0,0)) BK719.out hg (Kd.R_ne HO723.out BK719.out (by decide)));replace BK720 := am (blk_grown (g := gb720) (o := .cells #[.slice none 0 0,.int .i64 0,.slice none 0 0,.int .i64 0,.int .i64 0] 27 (0,0)) BK720.out hg (Kd.R_ne HO723.out BK720.out (by decide)));replace HO723 := am (hp_);replace HB := am ((by rw [hw];exact below_set (HB.out) GB6.out : Below w.heap.size w w21));clear hg hw hp_;obtain ⟨hcz22_0,hcz22_1,hcz22_2,hcz22_3,hcz22_4⟩ := cO5 BK718.out;have hfz22_0 := blk_frozen BK718.out 0;have hfz22_1 := blk_frozen BK718.out 1;have hfz22_2 := blk_frozen BK718.out 2;have hfz22_3 := blk_frozen BK718.out 3;have hfz22_4 := blk_frozen BK718.out 4;obtain ⟨hcz23_0,hcz23_1,hcz23_2,hcz23_3,hcz23_4⟩ := cO5 BK720.out;have hfz23_0 := blk_frozen BK720.out 0;have hfz23_1 := blk_frozen BK720.out 1;have hfz23_2 := blk_frozen BK720.out 2;have hfz23_3 := blk_frozen BK720.out 3;have hfz23_4 := blk_frozen BK720.out 4))
 refine bodyPost_ret (results_cell_row rfl _ _ gb720 27 #[.slice A0_0 l0_0.length c0_0,.int .i64 a0_1,.slice (some ⟨go6,0,none⟩) y721.length co14,.int .i64 a0_3,.int .i64 a0_4] (0,0) _ rfl (blk_put (cs := #[.slice A0_0 l0_0.length c0_0,.int .i64 a0_1,.slice (some ⟨go6,0,none⟩) y721.length co14,.int .i64 a0_3,.int .i64 0]) (blk_put (cs := #[.slice A0_0 l0_0.length c0_0,.int .i64 a0_1,.slice (some ⟨go6,0,none⟩) y721.length co14,.int .i64 0,.int .i64 0]) (blk_put (cs := #[.slice A0_0 l0_0.length c0_0,.int .i64 a0_1,.slice none 0 0,.int .i64 0,.int .i64 0]) (blk_put (cs := #[.slice A0_0 l0_0.length c0_0,.int .i64 0,.slice none 0 0,.int .i64 0,.int .i64 0]) (blk_put (cs := #[.slice none 0 0,.int .i64 0,.slice none 0 0,.int .i64 0,.int .i64 0]) BK720.out 0 _ rfl) 1 _ rfl) 2 _ rfl) 3 _ rfl) 4 _ rfl) Tryz.underlying27 rfl (by kernel_rfl)) rfl ?_
 exact ⟨_,by first | rfl | (simp [*] <;> rfl),by (with_reducible repeat (first | apply Kd.R_alloc | apply Kd.R_drewN | apply Kd.R_drew));exact Kd.R_mono (Kd.R_far (p := ⟨gb720,4,none⟩) (Kd.R_far (p := ⟨gb720,3,none⟩) (Kd.R_far (p := ⟨gb720,2,none⟩) (Kd.R_far (p := ⟨gb720,1,none⟩) (Kd.R_far (p := ⟨gb720,0,none⟩) (Kd.R_types HO723.out BK720.out (by decide)) (fun _ hk => hk.2) (.slice A0_0 l0_0.length c0_0)) (fun _ hk => hk.2) (.int .i64 a0_1)) (fun _ hk => hk.2) (.slice (some ⟨go6,0,none⟩) y721.length co14)) (fun _ hk => hk.2) (.int .i64 a0_3)) (fun _ hk => hk.2) (.int .i64 a0_4)) (fun _ hk => trivial),by repeat (first | (with_reducible first | exact HB.out | refine below_set ?_ (Aside0.out (by assumption)) | apply below_alloc | apply pw_below_drewN) | exact HB.out)⟩
def q4_Agrees.l0 : Nat → List (S40) → List Int → Int → Option (Bool)
 | 0,_,_,_ => none
 | k + 1,x2,x7,x9 => if x9 < (x7.length : Int) then (if 0 ≤ x9 then (if x9 < (x2.length : Int) then ((q4_in.f (rd x7 x9) ((rd_T40 x2 x9).f0) ((rd_T40 x2 x9).f1)).bind fun t969 => (if t969 = true then (q4_Agrees.l0 k x2 x7 (wrap64 (x9 + 1))) else (some false))) else (none)) else (none)) else (some true)
def q4_Agrees.f (k : Nat) (l0_0 : List (S126)) (a0_1 : Int) (l0_2 : List (S64)) (a0_3 : Int) (a0_4 : Int) (a1 : Int) (l2 : List (S40)) : Option (Bool) := (q4_Shares.f k l0_0 a0_1 l0_2 a0_3 a0_4 a1).bind fun bt962 => (q4_Agrees.l0 k l2 bt962.1 0)
theorem q4_Agrees.calls (k : Nat) (A0_0 : Option Addr) (c0_0 : Nat) (l0_0 : List (S126)) (a0_1 : Int) (A0_2 : Option Addr) (c0_2 : Nat) (l0_2 : List (S64)) (a0_3 : Int) (a0_4 : Int) (a1 : Int) (A2 : Option Addr) (c2 : Nat) (l2 : List (S40)) (r : Bool) (w : World) (hr0_0 : Kd.C k126 w A0_0 l0_0.length l0_0) (hc0_0 : l0_0.length ≤ c0_0) (hr0_2 : Kd.C k64 w A0_2 l0_2.length l0_2) (hc0_2 : l0_2.length ≤ c0_2) (hr2 : Kd.C k40 w A2 l2.length l2) (hc2 : l2.length ≤ c2) (h : q4_Agrees.f k l0_0 a0_1 l0_2 a0_3 a0_4 a1 l2 = some r) :
 Calls Tryz.prog 85 #[.agg #[.slice A0_0 l0_0.length c0_0,.int .i64 a0_1,.slice A0_2 l0_2.length c0_2,.int .i64 a0_3,.int .i64 a0_4],.int .i64 a1,.slice A2 l2.length c2] w fun e w' => e = .returned (.bool r) ∧ Below w.heap.size w w' := by
 have hu27 := Tryz.underlying27
 have HR0_0 := am hr0_0
 have HC0_0 := am hc0_0
 clear hr0_0 hc0_0
 have HR0_2 := am hr0_2
 have HC0_2 := am hc0_2
 clear hr0_2 hc0_2
 have HR2 := am hr2
 have HC2 := am hc2
 clear hr2 hc2
 have HB := am (Below.refl w.heap.size w)
 have H : ((q4_Shares.f k l0_0 a0_1 l0_2 a0_3 a0_4 a1).bind fun bt962 => (q4_Agrees.l0 k l2 bt962.1 0)) = some r := h
 clear h
 replace H := obm H
 obtain ⟨⟨t962,t965⟩,A40,H⟩ := H
 replace H : (q4_Agrees.l0 k l2 t962 0) = some r := H
 have A4 := am A40
 clear A40
 replace H' := am H
 go_enter Tryz.func85,Tryz.ntmps85
 go_wp2_with (first | ((refine gate_dst (N := 3) rfl ?_);refine box_event rfl (N := 3) rfl (cs := #[.slice A0_0 l0_0.length c0_0,.int .i64 a0_1,.slice A0_2 l0_2.length c0_2,.int .i64 a0_3,.int .i64 a0_4]) (t := 27) ?hr ?_;(case hr => go_simp;try rfl);intro gb961 hg w5 hbox hb;have BK961 := am (hbox);have GW961 := am (ge_new (HB.out) hg);have GE961 := am (ge_new (HB.out) hg);replace HB := am (below_step (HB.out) hb);clear hb hbox hg;obtain ⟨hcz6_0,hcz6_1,hcz6_2,hcz6_3,hcz6_4⟩ := cO5 BK961.out) | (go_at_call 19;(with_reducible refine (q4_Shares.calls k _ _ l0_0 a0_1 _ _ l0_2 a0_3 a0_4 a1 t962 t965 _ ?side1 ?side2 ?side3 ?side4 A4.out).mono ?_);(case side1 => exact kC HR0_0.out HB.out);(case side2 => exact HC0_0.out);(case side3 => exact kC HR0_2.out HB.out);(case side4 => exact HC0_2.out);rintro e w7 ⟨v963,rfl,ho0,hb⟩;have HO964 := am (Kd.R_lower ho0 (below_size (HB.out)));replace BK961 := (kmv hb BK961);replace HB := am (below_step (HB.out) hb);(try clear hb);(try clear hb2);(try clear hk);(try clear hi);(try clear ho0)))
 repeat (go_quiet (first | ((refine gate_dst (N := 3) rfl ?_);refine box_event rfl (N := 3) rfl (cs := #[.slice A0_0 l0_0.length c0_0,.int .i64 a0_1,.slice A0_2 l0_2.length c0_2,.int .i64 a0_3,.int .i64 a0_4]) (t := 27) ?hr ?_;(case hr => go_simp;try rfl);intro gb961 hg w5 hbox hb;have BK961 := am (hbox);have GW961 := am (ge_new (by repeat (first | (with_reducible first | exact HB.out | apply below_alloc | apply pw_below_drewN) | exact HB.out)) hg);have GE961 := am (ge_new (by repeat (first | (with_reducible first | exact HB.out | apply below_alloc | apply pw_below_drewN) | exact HB.out)) hg);replace HB := am (below_step (by repeat (first | (with_reducible first | exact HB.out | apply below_alloc | apply pw_below_drewN) | exact HB.out)) hb);clear hb hbox hg;obtain ⟨hcz6_0,hcz6_1,hcz6_2,hcz6_3,hcz6_4⟩ := cO5 BK961.out) | (go_at_call 19;(with_reducible refine (q4_Shares.calls k _ _ l0_0 a0_1 _ _ l0_2 a0_3 a0_4 a1 t962 t965 _ ?side1 ?side2 ?side3 ?side4 A4.out).mono ?_);(case side1 => repeat (first | exact (kC HR0_0.out HB.out) | (with_reducible refine Kd.C_alloc ?_ _) | (with_reducible refine Kd.C_drewN ?_ _) | (with_reducible refine Kd.C_drew ?_)));(case side2 => exact HC0_0.out);(case side3 => repeat (first | exact (kC HR0_2.out HB.out) | (with_reducible refine Kd.C_alloc ?_ _) | (with_reducible refine Kd.C_drewN ?_ _) | (with_reducible refine Kd.C_drew ?_)));(case side4 => exact HC0_2.out);rintro e w7 ⟨v963,rfl,ho0,hb⟩;have HO964 := am (Kd.R_lower ho0 (below_size (by repeat (first | (with_reducible first | exact HB.out | refine below_set ?_ GE961.out | apply below_alloc | apply pw_below_drewN) | exact HB.out))));replace BK961 := (kmv hb BK961);replace HB := am (below_step (by repeat (first | (with_reducible first | exact HB.out | refine below_set ?_ GE961.out | apply below_alloc | apply pw_below_drewN) | exact HB.out)) hb);(try clear hb);(try clear hb2);(try clear hk);(try clear hi);(try clear ho0)));try go_wp2_with (first | ((refine gate_dst (N := 3) rfl ?_);refine box_event rfl (N := 3) rfl (cs := #[.slice A0_0 l0_0.length c0_0,.int .i64 a0_1,.slice A0_2 l0_2.length c0_2,.int .i64 a0_3,.int .i64 a0_4]) (t := 27) ?hr ?_;(case hr => go_simp;try rfl);intro gb961 hg w5 hbox hb;have BK961 := am (hbox);have GW961 := am (ge_new (by repeat (first | (with_reducible first | exact HB.out | apply below_alloc | apply pw_below_drewN) | exact HB.out)) hg);have GE961 := am (ge_new (by repeat (first | (with_reducible first | exact HB.out | apply below_alloc | apply pw_below_drewN) | exact HB.out)) hg);replace HB := am (below_step (by repeat (first | (with_reducible first | exact HB.out | apply below_alloc | apply pw_below_drewN) | exact HB.out)) hb);clear hb hbox hg;obtain ⟨hcz6_0,hcz6_1,hcz6_2,hcz6_3,hcz6_4⟩ := cO5 BK961.out) | (go_at_call 19;(with_reducible refine (q4_Shares.calls k _ _ l0_0 a0_1 _ _ l0_2 a0_3 a0_4 a1 t962 t965 _ ?side1 ?side2 ?side3 ?side4 A4.out).mono ?_);(case side1 => repeat (first | exact (kC HR0_0.out HB.out) | (with_reducible refine Kd.C_alloc ?_ _) | (with_reducible refine Kd.C_drewN ?_ _) | (with_reducible refine Kd.C_drew ?_)));(case side2 => exact HC0_0.out);(case side3 => repeat (first | exact (kC HR0_2.out HB.out) | (with_reducible refine Kd.C_alloc ?_ _) | (with_reducible refine Kd.C_drewN ?_ _) | (with_reducible refine Kd.C_drew ?_)));(case side4 => exact HC0_2.out);rintro e w7 ⟨v963,rfl,ho0,hb⟩;have HO964 := am (Kd.R_lower ho0 (below_size (by repeat (first | (with_reducible first | exact HB.out | refine below_set ?_ GE961.out | apply below_alloc | apply pw_below_drewN) | exact HB.out))));replace BK961 := (kmv hb BK961);replace HB := am (below_step (by repeat (first | (with_reducible first | exact HB.out | refine below_set ?_ GE961.out | apply below_alloc | apply pw_below_drewN) | exact HB.out)) hb);(try clear hb);(try clear hb2);(try clear hk);(try clear hi);(try clear ho0))))
 go_loopg [9] k (fun kq v9 w' => ∃ (x9_1 : Int),v9 = .int .i64 x9_1 ∧ Aside0 (q4_Agrees.l0 kq l2 t962 x9_1 = some r) ∧ Aside0 (kq ≤ k) ∧ Aside0 (Kd.R (Kd.int .i64) 3 w' w.heap.size (fun _ => True) v963 t962) ∧ Aside0 (w'.heap[gb961]? = some (.cells #[(.slice A0_0 l0_0.length c0_0),.int .i64 a0_1,(.slice A0_2 l0_2.length c0_2),.int .i64 a0_3,.int .i64 a0_4] 27 (0,0))) ∧ Aside0 (Below w.heap.size w w'))
 case atStart => exact ⟨(0),(by first | rfl | (simp;done) | (simp [*];done)),H',⟨Nat.le_refl _⟩,⟨by (with_reducible repeat (first | apply Kd.R_alloc | apply Kd.R_drewN | apply Kd.R_drew));exact HO964.out⟩,⟨BK961.out⟩,⟨HB.out⟩⟩
 case round =>
  clear H'
  obtain ⟨x9_1,rfl,HA,HK1,HO_7,BK961,HB⟩ := hrel
  cases gk with
  | zero => exact absurd HA.out (by simp [q4_Agrees.l0])
  | succ k1 =>
   have H := HA.out
   clear HA
   simp only [q4_Agrees.l0] at H
   by_cases c8 : x9_1 < (t962.length : Int)
   case neg =>
    rw [if_neg c8] at H
    have c8b0 : decide (x9_1 < (t962.length : Int)) = false := decide_eq_false c8
    clear c8
    obtain rfl := Option.some.inj H
    obtain ⟨Ao15,co15,eo15⟩ := Kd.R_slice HO_7.out
    subst eo15
    go_wp2
    repeat (go_quiet (fail);try go_wp2)
    go_ret
    exact ⟨by first | rfl | (simp [*] <;> rfl),HB.out⟩
   rw [if_pos c8] at H
   have c8b0 : decide (x9_1 < (t962.length : Int)) = true := decide_eq_true c8
   clear c8
   by_cases c9 : 0 ≤ x9_1
   case neg =>
    rw [if_neg c9] at H
    exact absurd H (by simp)
   rw [if_pos c9] at H
   have c9b0 : decide (0 ≤ x9_1) = true := decide_eq_true c9
   clear c9
   by_cases c10 : x9_1 < (l2.length : Int)
   case neg =>
    rw [if_neg c10] at H
    exact absurd H (by simp)
   rw [if_pos c10] at H
   have c10b0 : decide (x9_1 < (l2.length : Int)) = true := decide_eq_true c10
   clear c10
   replace H := obm H
   obtain ⟨t969,A110,H⟩ := H
   replace H : (if t969 = true then (q4_Agrees.l0 k1 l2 t962 (wrap64 (x9_1 + 1))) else (some false)) = some r := H
   have A11 := am A110
   clear A110
   by_cases c12 : t969 = true
   · subst c12
     replace H : (q4_Agrees.l0 k1 l2 t962 (wrap64 (x9_1 + 1))) = some r := by rw [if_pos rfl] at H;exact H
     replace H' := am H
     obtain ⟨Ao13,co13,eo13⟩ := Kd.R_slice HO_7.out
     subst eo13
     have p966 : 0 ≤ (x9_1 : Int) := of_decide_eq_true (by assumption)
     have q966 : x9_1 < (t962.length : Int) := of_decide_eq_true (by assumption)
     obtain ⟨ad966,e966,hx966_0⟩ := Kd.at_int (Kd.R_reads' HO_7.out).2.2 x9_1 p966 q966
     cases e966
     replace p966 := eq_true p966
     replace q966 := eq_true q966
     have p967 : 0 ≤ (x9_1 : Int) := of_decide_eq_true (by assumption)
     have q967 : x9_1 < (l2.length : Int) := of_decide_eq_true (by assumption)
     obtain ⟨ad967,e967,hx967_0,hx967_1⟩ := at_T40 HR2.out x9_1 p967 q967
     cases e967
     replace hx967_0 := (HB.out.cell (wbl hx967_0)).trans hx967_0
     replace hx967_1 := (HB.out.cell (wbl hx967_1)).trans hx967_1
     replace p967 := eq_true p967
     replace q967 := eq_true q967
     have p968 : 0 ≤ (x9_1 : Int) := of_decide_eq_true (by assumption)
     have q968 : x9_1 < (l2.length : Int) := of_decide_eq_true (by assumption)
     obtain ⟨ad968,e968,hx968_0,hx968_1⟩ := at_T40 HR2.out x9_1 p968 q968
     obtain rfl : ad967 = ad968 := (by injection e968)
     replace hx968_0 := (HB.out.cell (wbl hx968_0)).trans hx968_0
     replace hx968_1 := (HB.out.cell (wbl hx968_1)).trans hx968_1
     replace p968 := eq_true p968
     replace q968 := eq_true q968
     go_wp2_with (first | (go_at_call 61;(with_reducible refine (q4_in.calls (rd t962 x9_1) ((rd_T40 l2 x9_1).f0) ((rd_T40 l2 x9_1).f1) true _ A11.out).mono ?_);rintro e w' ⟨rfl,⟨nd,rfl⟩⟩;(try first | exact ⟨rfl,_,World.drewN_drewN _ _ _⟩ | exact ⟨rfl,_,Eq.trans (World.drewN_drewN _ _ _) (congrArg (World.drewN _) (Nat.add_assoc _ _ _))⟩)))
     repeat (go_quiet (first | (go_at_call 61;(with_reducible refine (q4_in.calls (rd t962 x9_1) ((rd_T40 l2 x9_1).f0) ((rd_T40 l2 x9_1).f1) true _ A11.out).mono ?_);rintro e w' ⟨rfl,⟨nd,rfl⟩⟩;(try first | exact ⟨rfl,_,World.drewN_drewN _ _ _⟩ | exact ⟨rfl,_,Eq.trans (World.drewN_drewN _ _ _) (congrArg (World.drewN _) (Nat.add_assoc _ _ _))⟩)));try go_wp2_with (first | (go_at_call 61;(with_reducible refine (q4_in.calls (rd t962 x9_1) ((rd_T40 l2 x9_1).f0) ((rd_T40 l2 x9_1).f1) true _ A11.out).mono ?_);rintro e w' ⟨rfl,⟨nd,rfl⟩⟩;(try first | exact ⟨rfl,_,World.drewN_drewN _ _ _⟩ | exact ⟨rfl,_,Eq.trans (World.drewN_drewN _ _ _) (congrArg (World.drewN _) (Nat.add_assoc _ _ _))⟩))))
     go_roundg k1
     case measure => have := HK1.out;omega
     case rel => exact ⟨(wrap64 (x9_1 + 1)),(by first | rfl | (simp;done) | (simp [*];done)),H',⟨by have := HK1.out;omega⟩,⟨by (with_reducible repeat (first | apply Kd.R_alloc | apply Kd.R_drewN | apply Kd.R_drew));exact HO_7.out⟩,⟨BK961.out⟩,⟨pw_below_drewN HB.out _⟩⟩
   · replace c12 := Bool.eq_false_iff.mpr c12
     subst c12
     replace H : (some false) = some r := by rw [if_neg (show ¬ (false = true) by decide)] at H;exact H
     obtain rfl := Option.some.inj H
     obtain ⟨Ao14,co14,eo14⟩ := Kd.R_slice HO_7.out
     subst eo14
     have p966 : 0 ≤ (x9_1 : Int) := of_decide_eq_true (by assumption)
     have q966 : x9_1 < (t962.length : Int) := of_decide_eq_true (by assumption)
     obtain ⟨ad966,e966,hx966_0⟩ := Kd.at_int (Kd.R_reads' HO_7.out).2.2 x9_1 p966 q966
     cases e966
     replace p966 := eq_true p966
     replace q966 := eq_true q966
     have p967 : 0 ≤ (x9_1 : Int) := of_decide_eq_true (by assumption)
     have q967 : x9_1 < (l2.length : Int) := of_decide_eq_true (by assumption)
     obtain ⟨ad967,e967,hx967_0,hx967_1⟩ := at_T40 HR2.out x9_1 p967 q967
     cases e967
     replace hx967_0 := (HB.out.cell (wbl hx967_0)).trans hx967_0
     replace hx967_1 := (HB.out.cell (wbl hx967_1)).trans hx967_1
     replace p967 := eq_true p967
     replace q967 := eq_true q967
     have p968 : 0 ≤ (x9_1 : Int) := of_decide_eq_true (by assumption)
     have q968 : x9_1 < (l2.length : Int) := of_decide_eq_true (by assumption)
     obtain ⟨ad968,e968,hx968_0,hx968_1⟩ := at_T40 HR2.out x9_1 p968 q968
     obtain rfl : ad967 = ad968 := (by injection e968)
     replace hx968_0 := (HB.out.cell (wbl hx968_0)).trans hx968_0
     replace hx968_1 := (HB.out.cell (wbl hx968_1)).trans hx968_1
     replace p968 := eq_true p968
     replace q968 := eq_true q968
     go_wp2_with (first | (go_at_call 61;(with_reducible refine (q4_in.calls (rd t962 x9_1) ((rd_T40 l2 x9_1).f0) ((rd_T40 l2 x9_1).f1) false _ A11.out).mono ?_);rintro e w' ⟨rfl,⟨nd,rfl⟩⟩;(try first | exact ⟨rfl,_,World.drewN_drewN _ _ _⟩ | exact ⟨rfl,_,Eq.trans (World.drewN_drewN _ _ _) (congrArg (World.drewN _) (Nat.add_assoc _ _ _))⟩)))
     repeat (go_quiet (first | (go_at_call 61;(with_reducible refine (q4_in.calls (rd t962 x9_1) ((rd_T40 l2 x9_1).f0) ((rd_T40 l2 x9_1).f1) false _ A11.out).mono ?_);rintro e w' ⟨rfl,⟨nd,rfl⟩⟩;(try first | exact ⟨rfl,_,World.drewN_drewN _ _ _⟩ | exact ⟨rfl,_,Eq.trans (World.drewN_drewN _ _ _) (congrArg (World.drewN _) (Nat.add_assoc _ _ _))⟩)));try go_wp2_with (first | (go_at_call 61;(with_reducible refine (q4_in.calls (rd t962 x9_1) ((rd_T40 l2 x9_1).f0) ((rd_T40 l2 x9_1).f1) false _ A11.out).mono ?_);rintro e w' ⟨rfl,⟨nd,rfl⟩⟩;(try first | exact ⟨rfl,_,World.drewN_drewN _ _ _⟩ | exact ⟨rfl,_,Eq.trans (World.drewN_drewN _ _ _) (congrArg (World.drewN _) (Nat.add_assoc _ _ _))⟩))))
     go_ret
     exact ⟨by first | rfl | (simp [*] <;> rfl),pw_below_drewN HB.out _⟩
end
end Go.Proofs.YticlelgmmonloaaGreatDoor.C

/- A part of the proof: the walks of the functions that it reaches. TIGHT. -/
import Derived.Test.YtnnmnhpeblhiiaaGreatDoorM16
set_option linter.unusedVariables false
set_option linter.unusedSimpArgs false
namespace Go.Proofs.YtnnmnhpeblhiiaaGreatDoor.C
open Go.RowKit Go.Proofs.YtnnmnhpeblhiiaaGreatDoorW.PrintWords Go.Proofs.YtnnmnhpeblhiiaaGreatDoorW.PrintLast Go.Proofs.YtnnmnhpeblhiiaaGreatDoorW.PrintMore
set_option linter.unusedVariables false
set_option linter.unusedSimpArgs false
set_option maxHeartbeats 16000000
set_option maxRecDepth 100000
section
attribute [local go_sem] max2_int min2_int max_two min_two
def q4_Counts.l0 : Nat → List (S54) → Int → List (S126) → Int → List (S48) → Int → Int → Option (Bool)
 | 0,_,_,_,_,_,_,_ => none
 | k + 1,x1,x5,x611000,x611001,x611002,x611003,x611004 => if x5 < (x1.length : Int) then (if 0 ≤ x5 then ((q4_Flow.f ((rd_T54 x1 x5).f0) ((rd_T54 x1 x5).f1)).bind fun t612 => (if t612 = true then (q4_Counts.l0 k x1 (wrap64 (x5 + 1)) x611000 x611001 x611002 x611003 x611004) else (some false))) else (none)) else (some ((x1.length : Int) == (x611002.length : Int)))
def q4_Counts.f (k : Nat) (l0_0 : List (S126)) (a0_1 : Int) (l0_2 : List (S48)) (a0_3 : Int) (a0_4 : Int) (l1 : List (S54)) : Option (Bool) := q4_Counts.l0 k l1 0 l0_0 a0_1 l0_2 a0_3 a0_4
theorem q4_Counts.calls (k : Nat) (A0_0 : Option Addr) (c0_0 : Nat) (l0_0 : List (S126)) (a0_1 : Int) (A0_2 : Option Addr) (c0_2 : Nat) (l0_2 : List (S48)) (a0_3 : Int) (a0_4 : Int) (A1 : Option Addr) (c1 : Nat) (l1 : List (S54)) (r : Bool) (w : World) (hr0_0 : Kd.C k126 w A0_0 l0_0.length l0_0) (hc0_0 : l0_0.length ≤ c0_0) (hr0_2 : Kd.C k48 w A0_2 l0_2.length l0_2) (hc0_2 : l0_2.length ≤ c0_2) (hr1 : Kd.C k54 w A1 l1.length l1) (hc1 : l1.length ≤ c1) (h : q4_Counts.f k l0_0 a0_1 l0_2 a0_3 a0_4 l1 = some r) :
 Calls Tryz.prog 26 #[.agg #[.slice A0_0 l0_0.length c0_0,.int .i64 a0_1,.slice A0_2 l0_2.length c0_2,.int .i64 a0_3,.int .i64 a0_4],.slice A1 l1.length c1] w fun e w' => e = .returned (.bool r) ∧ Below w.heap.size w w' := by
 have hu27 := Tryz.underlying27
 have hu54 := Tryz.underlying54
 have HR0_0 := am hr0_0
 have HC0_0 := am hc0_0
 clear hr0_0 hc0_0
 have HR0_2 := am hr0_2
 have HC0_2 := am hc0_2
 clear hr0_2 hc0_2
 have HR1 := am hr1
 have HC1 := am hc1
 clear hr1 hc1
 have HB := am (Below.refl w.heap.size w)
 have H : (q4_Counts.l0 k l1 0 l0_0 a0_1 l0_2 a0_3 a0_4) = some r := h
 clear h
 replace H' := am H
 go_enter Tryz.func26,Tryz.ntmps26
 go_wp2_with (first | ((refine gate_dst (N := 2) rfl ?_);refine box_event rfl (N := 2) rfl (cs := #[.slice A0_0 l0_0.length c0_0,.int .i64 a0_1,.slice A0_2 l0_2.length c0_2,.int .i64 a0_3,.int .i64 a0_4]) (t := 27) ?hr ?_;(case hr => go_simp;try rfl);intro gb610 hg w3 hbox hb;have BK610 := am (hbox);have GW610 := am (ge_new (HB.out) hg);have GE610 := am (ge_new (HB.out) hg);replace HB := am (below_step (HB.out) hb);clear hb hbox hg))
 go_loopg [5] k (fun kq v5 w' => ∃ (x5_1 : Int),v5 = .int .i64 x5_1 ∧ Aside0 (q4_Counts.l0 kq l1 x5_1 l0_0 a0_1 l0_2 a0_3 a0_4 = some r) ∧ Aside0 (kq ≤ k) ∧ Aside0 (w'.heap[gb610]? = some (.cells #[(.slice A0_0 l0_0.length c0_0),.int .i64 a0_1,(.slice A0_2 l0_2.length c0_2),.int .i64 a0_3,.int .i64 a0_4] 27 (0,0))) ∧ Aside0 (Below w.heap.size w w'))
 case atStart => exact ⟨(0),(by first | rfl | (simp;done) | (simp [*];done)),H',⟨Nat.le_refl _⟩,⟨BK610.out⟩,⟨HB.out⟩⟩
 case round =>
  clear H'
  obtain ⟨x5_1,rfl,HA,HK1,BK610,HB⟩ := hrel
  cases gk with
  | zero => exact absurd HA.out (by simp [q4_Counts.l0])
  | succ k1 =>
   have H := HA.out
   clear HA
   simp only [q4_Counts.l0] at H
   by_cases c4 : x5_1 < (l1.length : Int)
   case neg =>
    rw [if_neg c4] at H
    have c4b0 : decide (x5_1 < (l1.length : Int)) = false := decide_eq_false c4
    clear c4
    obtain rfl := Option.some.inj H
    obtain ⟨hcz10_0,hcz10_1,hcz10_2,hcz10_3,hcz10_4⟩ := cO5 BK610.out
    go_wp2
    go_ret
    exact ⟨by first | rfl | (simp [*] <;> rfl),HB.out⟩
   rw [if_pos c4] at H
   have c4b0 : decide (x5_1 < (l1.length : Int)) = true := decide_eq_true c4
   clear c4
   by_cases c5 : 0 ≤ x5_1
   case neg =>
    rw [if_neg c5] at H
    exact absurd H (by simp)
   rw [if_pos c5] at H
   have c5b0 : decide (0 ≤ x5_1) = true := decide_eq_true c5
   clear c5
   replace H := obm H
   obtain ⟨t612,A60,H⟩ := H
   replace H : (if t612 = true then (q4_Counts.l0 k1 l1 (wrap64 (x5_1 + 1)) l0_0 a0_1 l0_2 a0_3 a0_4) else (some false)) = some r := H
   have A6 := am A60
   clear A60
   by_cases c7 : t612 = true
   · subst c7
     replace H : (q4_Counts.l0 k1 l1 (wrap64 (x5_1 + 1)) l0_0 a0_1 l0_2 a0_3 a0_4) = some r := by rw [if_pos rfl] at H;exact H
     replace H' := am H
     have p611 : 0 ≤ (x5_1 : Int) := of_decide_eq_true (by assumption)
     have q611 : x5_1 < (l1.length : Int) := of_decide_eq_true (by assumption)
     obtain ⟨ad611,e611,hx611_0,hx611_1⟩ := at_T54 HR1.out x5_1 p611 q611
     cases e611
     replace hx611_0 := (HB.out.cell (wbl hx611_0)).trans hx611_0
     replace hx611_1 := (HB.out.cell (wbl hx611_1)).trans hx611_1
     replace p611 := eq_true p611
     replace q611 := eq_true q611
     go_wp2_with (first | ((with_reducible refine gate_callee (f := 38) rfl ?_);refine goesL_ (some 16) rfl rfl Tryz.func38 (by kernel_rfl) rfl #[.agg #[.int .i64 ((rd_T54 l1 x5_1).f0),.int .i64 ((rd_T54 l1 x5_1).f1)]] rfl (by (try simp only [List.map_toArray,List.map_cons,List.map_nil]);first | done | rfl | (simp only [List.length_drop,List.length_take];rfl)) ?_;(refine (q4_Flow.calls ((rd_T54 l1 x5_1).f0) ((rd_T54 l1 x5_1).f1) true _ A6.out).mono ?_);rintro e w8 ⟨rfl,hb⟩;refine ⟨_,rfl,?_⟩;replace BK610 := (kmv hb BK610);replace HB := am (below_step (HB.out) hb);(try clear hb);(try clear hb2);(try clear hk);(try clear hi)))
     go_roundg k1
     case measure => have := HK1.out;omega
     case rel => exact ⟨(wrap64 (x5_1 + 1)),(by first | rfl | (simp;done) | (simp [*];done)),H',⟨by have := HK1.out;omega⟩,⟨BK610.out⟩,⟨HB.out⟩⟩
   · replace c7 := Bool.eq_false_iff.mpr c7
     subst c7
     replace H : (some false) = some r := by rw [if_neg (show ¬ (false = true) by decide)] at H;exact H
     obtain rfl := Option.some.inj H
     have p611 : 0 ≤ (x5_1 : Int) := of_decide_eq_true (by assumption)
     have q611 : x5_1 < (l1.length : Int) := of_decide_eq_true (by assumption)
     obtain ⟨ad611,e611,hx611_0,hx611_1⟩ := at_T54 HR1.out x5_1 p611 q611
     cases e611
     replace hx611_0 := (HB.out.cell (wbl hx611_0)).trans hx611_0
     replace hx611_1 := (HB.out.cell (wbl hx611_1)).trans hx611_1
     replace p611 := eq_true p611
     replace q611 := eq_true q611
     go_wp2_with (first | ((with_reducible refine gate_callee (f := 38) rfl ?_);refine goesL_ (some 16) rfl rfl Tryz.func38 (by kernel_rfl) rfl #[.agg #[.int .i64 ((rd_T54 l1 x5_1).f0),.int .i64 ((rd_T54 l1 x5_1).f1)]] rfl (by (try simp only [List.map_toArray,List.map_cons,List.map_nil]);first | done | rfl | (simp only [List.length_drop,List.length_take];rfl)) ?_;(refine (q4_Flow.calls ((rd_T54 l1 x5_1).f0) ((rd_T54 l1 x5_1).f1) false _ A6.out).mono ?_);rintro e w9 ⟨rfl,hb⟩;refine ⟨_,rfl,?_⟩;replace BK610 := (kmv hb BK610);replace HB := am (below_step (HB.out) hb);(try clear hb);(try clear hb2);(try clear hk);(try clear hi)))
     go_ret
     exact ⟨by first | rfl | (simp [*] <;> rfl),HB.out⟩
def q4_Change.f (l0_0 : List (S126)) (a0_1 : Int) (l0_2 : List (S48)) (a0_3 : Int) (a0_4 : Int) (a1_0 : Int) (a1_1 : Int) : Option (Bool) := (q4_in.f a1_0 0 (wrap64 ((l0_2.length : Int) - 1))).bind fun t615 => (if t615 = true then ((q4_Height.f a1_1).bind fun t616 => (some t616)) else (some false))
theorem q4_Change.calls (A0_0 : Option Addr) (c0_0 : Nat) (l0_0 : List (S126)) (a0_1 : Int) (A0_2 : Option Addr) (c0_2 : Nat) (l0_2 : List (S48)) (a0_3 : Int) (a0_4 : Int) (a1_0 : Int) (a1_1 : Int) (r : Bool) (w : World) (hr0_0 : Kd.C k126 w A0_0 l0_0.length l0_0) (hc0_0 : l0_0.length ≤ c0_0) (hr0_2 : Kd.C k48 w A0_2 l0_2.length l0_2) (hc0_2 : l0_2.length ≤ c0_2) (h : q4_Change.f l0_0 a0_1 l0_2 a0_3 a0_4 a1_0 a1_1 = some r) :
 Calls Tryz.prog 27 #[.agg #[.slice A0_0 l0_0.length c0_0,.int .i64 a0_1,.slice A0_2 l0_2.length c0_2,.int .i64 a0_3,.int .i64 a0_4],.agg #[.int .i64 a1_0,.int .i64 a1_1]] w fun e w' => e = .returned (.bool r) ∧ Below w.heap.size w w' := by
 have hu27 := Tryz.underlying27
 have hu44 := Tryz.underlying44
 have HR0_0 := am hr0_0
 have HC0_0 := am hc0_0
 clear hr0_0 hc0_0
 have HR0_2 := am hr0_2
 have HC0_2 := am hc0_2
 clear hr0_2 hc0_2
 have HB := am (Below.refl w.heap.size w)
 have H : ((q4_in.f a1_0 0 (wrap64 ((l0_2.length : Int) - 1))).bind fun t615 => (if t615 = true then ((q4_Height.f a1_1).bind fun t616 => (some t616)) else (some false))) = some r := h
 clear h
 replace H := obm H
 obtain ⟨t615,A30,H⟩ := H
 replace H : (if t615 = true then ((q4_Height.f a1_1).bind fun t616 => (some t616)) else (some false)) = some r := H
 have A3 := am A30
 clear A30
 by_cases c4 : t615 = true
 case neg =>
  replace c4 := Bool.eq_false_iff.mpr c4
  subst c4
  replace H : (some false) = some r := by rw [if_neg (show ¬ (false = true) by decide)] at H;exact H
  obtain rfl := Option.some.inj H
  go_enter Tryz.func27,Tryz.ntmps27
  go_wp2_with (first | ((refine gate_dst (N := 2) rfl ?_);refine box_event rfl (N := 2) rfl (cs := #[.slice A0_0 l0_0.length c0_0,.int .i64 a0_1,.slice A0_2 l0_2.length c0_2,.int .i64 a0_3,.int .i64 a0_4]) (t := 27) ?hr ?_;(case hr => go_simp;try rfl);intro gb613 hg w11 hbox hb;have BK613 := am (hbox);have GW613 := am (ge_new (HB.out) hg);have GE613 := am (ge_new (HB.out) hg);replace HB := am (below_step (HB.out) hb);clear hb hbox hg) | ((refine gate_dst (N := 3) rfl ?_);refine box_event rfl (N := 3) rfl (cs := #[.int .i64 a1_0,.int .i64 a1_1]) (t := 44) ?hr ?_;(case hr => go_simp;try rfl);intro gb614 hg w12 hbox hb;have BK614 := am (hbox);have GW614 := am (ge_new (HB.out) hg);have GE614 := am (ge_new (HB.out) hg);have NB613_614 := am (ne_new BK613.out hg);have NB614_613 := am (ne_new2 BK613.out hg);replace BK613 := (kmv hb BK613);replace HB := am (below_step (HB.out) hb);clear hb hbox hg;have hnb13 := NB614_613.out;have hnc13 := NB613_614.out;obtain ⟨hcz14_0,hcz14_1⟩ := cO2 BK614.out;obtain ⟨hcz15_0,hcz15_1,hcz15_2,hcz15_3,hcz15_4⟩ := cO5 BK613.out) | ((with_reducible refine gate_callee (f := 54) rfl ?_);refine goesL_ (some 11) rfl rfl Tryz.func54 (by kernel_rfl) rfl #[.int .i64 a1_0,.int .i64 0,.int .i64 (wrap64 ((l0_2.length : Int) - 1))] rfl (by (try simp only [List.map_toArray,List.map_cons,List.map_nil]);first | done | rfl | (simp only [List.length_drop,List.length_take];rfl)) ?_;(refine (q4_in.calls a1_0 0 (wrap64 ((l0_2.length : Int) - 1)) false _ A3.out).mono ?_);rintro e w' ⟨rfl,⟨nd,rfl⟩⟩;refine ⟨_,rfl,?_⟩))
  go_ret
  exact ⟨by first | rfl | (simp [*] <;> rfl),pw_below_drewN HB.out _⟩
 subst c4
 replace H : ((q4_Height.f a1_1).bind fun t616 => (some t616)) = some r := by rw [if_pos rfl] at H;exact H
 replace H := obm H
 obtain ⟨t616,A50,H⟩ := H
 replace H : (some t616) = some r := H
 have A5 := am A50
 clear A50
 obtain rfl := Option.some.inj H
 go_enter Tryz.func27,Tryz.ntmps27
 go_wp2_with (first | ((refine gate_dst (N := 2) rfl ?_);refine box_event rfl (N := 2) rfl (cs := #[.slice A0_0 l0_0.length c0_0,.int .i64 a0_1,.slice A0_2 l0_2.length c0_2,.int .i64 a0_3,.int .i64 a0_4]) (t := 27) ?hr ?_;(case hr => go_simp;try rfl);intro gb613 hg w6 hbox hb;have BK613 := am (hbox);have GW613 := am (ge_new (HB.out) hg);have GE613 := am (ge_new (HB.out) hg);replace HB := am (below_step (HB.out) hb);clear hb hbox hg) | ((refine gate_dst (N := 3) rfl ?_);refine box_event rfl (N := 3) rfl (cs := #[.int .i64 a1_0,.int .i64 a1_1]) (t := 44) ?hr ?_;(case hr => go_simp;try rfl);intro gb614 hg w7 hbox hb;have BK614 := am (hbox);have GW614 := am (ge_new (HB.out) hg);have GE614 := am (ge_new (HB.out) hg);have NB613_614 := am (ne_new BK613.out hg);have NB614_613 := am (ne_new2 BK613.out hg);replace BK613 := (kmv hb BK613);replace HB := am (below_step (HB.out) hb);clear hb hbox hg;have hnb8 := NB614_613.out;have hnc8 := NB613_614.out;obtain ⟨hcz9_0,hcz9_1⟩ := cO2 BK614.out;obtain ⟨hcz10_0,hcz10_1,hcz10_2,hcz10_3,hcz10_4⟩ := cO5 BK613.out) | ((with_reducible refine gate_callee (f := 54) rfl ?_);refine goesL_ (some 11) rfl rfl Tryz.func54 (by kernel_rfl) rfl #[.int .i64 a1_0,.int .i64 0,.int .i64 (wrap64 ((l0_2.length : Int) - 1))] rfl (by (try simp only [List.map_toArray,List.map_cons,List.map_nil]);first | done | rfl | (simp only [List.length_drop,List.length_take];rfl)) ?_;(refine (q4_in.calls a1_0 0 (wrap64 ((l0_2.length : Int) - 1)) true _ A3.out).mono ?_);rintro e w' ⟨rfl,⟨nd,rfl⟩⟩;refine ⟨_,rfl,?_⟩) | (go_at_call 39;(refine (q4_Height.calls a1_1 t616 _ A5.out).mono ?_);rintro e w' ⟨rfl,⟨nd,rfl⟩⟩))
 go_ret
 exact ⟨by first | rfl | (simp [*] <;> rfl),pw_below_drewN HB.out _⟩
def q4_With.f (l0_0 : List (S126)) (a0_1 : Int) (l0_2 : List (S48)) (a0_3 : Int) (a0_4 : Int) (a1_0 : Int) (a1_1 : Int) : Option ((List (S48))) := if ([] : List (S48)).length + l0_2.length < 8796093022208 then ((some (([] : List (S48)) ++ l0_2 : List (S48))).bind fun y620 => (if 0 ≤ a1_0 then (if a1_0 < (y620.length : Int) then (some (y620.set (a1_0 : Int).toNat (⟨(rd_T48 y620 a1_0).f0,a1_1⟩ : S48))) else (none)) else (none))) else (none)
theorem q4_With.calls (A0_0 : Option Addr) (c0_0 : Nat) (l0_0 : List (S126)) (a0_1 : Int) (A0_2 : Option Addr) (c0_2 : Nat) (l0_2 : List (S48)) (a0_3 : Int) (a0_4 : Int) (a1_0 : Int) (a1_1 : Int) (r : List (S48)) (w : World) (hr0_0 : Kd.C k126 w A0_0 l0_0.length l0_0) (hc0_0 : l0_0.length ≤ c0_0) (hr0_2 : Kd.C k48 w A0_2 l0_2.length l0_2) (hc0_2 : l0_2.length ≤ c0_2) (h : q4_With.f l0_0 a0_1 l0_2 a0_3 a0_4 a1_0 a1_1 = some r) :
 Calls Tryz.prog 29 #[.agg #[.slice A0_0 l0_0.length c0_0,.int .i64 a0_1,.slice A0_2 l0_2.length c0_2,.int .i64 a0_3,.int .i64 a0_4],.agg #[.int .i64 a1_0,.int .i64 a1_1]] w fun e w' => ∃ v0_ : Value,e = .returned (.agg #[.slice A0_0 l0_0.length c0_0,.int .i64 a0_1,v0_,.int .i64 a0_3,.int .i64 a0_4]) ∧ Kd.R k48 48 w' w.heap.size (fun _ => True) v0_ r ∧ Below w.heap.size w w' := by
 have hu27 := Tryz.underlying27
 have hu44 := Tryz.underlying44
 have HR0_0 := am hr0_0
 have HC0_0 := am hc0_0
 clear hr0_0 hc0_0
 have HR0_2 := am hr0_2
 have HC0_2 := am hc0_2
 clear hr0_2 hc0_2
 have HB := am (Below.refl w.heap.size w)
 have H : (if ([] : List (S48)).length + l0_2.length < 8796093022208 then ((some (([] : List (S48)) ++ l0_2 : List (S48))).bind fun y620 => (if 0 ≤ a1_0 then (if a1_0 < (y620.length : Int) then (some (y620.set (a1_0 : Int).toNat (⟨(rd_T48 y620 a1_0).f0,a1_1⟩ : S48))) else (none)) else (none))) else (none)) = some r := h
 clear h
 by_cases c3 : ([] : List (S48)).length + l0_2.length < 8796093022208
 case neg =>
  rw [if_neg c3] at H
  exact absurd H (by simp)
 rw [if_pos c3] at H
 have LMc3 := am c3
 clear c3
 obtain ⟨y620,hy620⟩ : ∃ y_ : List (S48),y_ = (([] : List (S48)) ++ l0_2) := ⟨_,rfl⟩
 replace H : (if 0 ≤ a1_0 then (if a1_0 < (y620.length : Int) then (some (y620.set (a1_0 : Int).toNat (⟨(rd_T48 y620 a1_0).f0,a1_1⟩ : S48))) else (none)) else (none)) = some r := by first | (rw [hy620];with_reducible exact H) | (have H2_ := (Option.bind_some _ _).symm.trans H;rw [hy620];with_reducible exact H2_) | (have H2_ := (Option.bind_some _ _).symm.trans H;with_reducible exact H2_) | with_reducible exact H | (rw [hy620];exact H) | exact H
 have Ny620 := am hy620
 clear hy620
 by_cases c4 : 0 ≤ a1_0
 case neg =>
  rw [if_neg c4] at H
  exact absurd H (by simp)
 rw [if_pos c4] at H
 have c4b0 : decide (0 ≤ a1_0) = true := decide_eq_true c4
 clear c4
 by_cases c5 : a1_0 < (y620.length : Int)
 case neg =>
  rw [if_neg c5] at H
  exact absurd H (by simp)
 rw [if_pos c5] at H
 have c5b0 : decide (a1_0 < (y620.length : Int)) = true := decide_eq_true c5
 clear c5
 obtain ⟨y623,hy623⟩ : ∃ y_ : List (S48),y_ = (y620.set (a1_0 : Int).toNat (⟨(rd_T48 y620 a1_0).f0,a1_1⟩ : S48)) := ⟨_,rfl⟩
 replace H : (some y623) = some r := by first | (rw [hy623];with_reducible exact H) | (have H2_ := (Option.bind_some _ _).symm.trans H;rw [hy623];with_reducible exact H2_) | (have H2_ := (Option.bind_some _ _).symm.trans H;with_reducible exact H2_) | with_reducible exact H | (rw [hy623];exact H) | exact H
 have Ny623 := am hy623
 clear hy623
 obtain rfl := Option.some.inj H
 go_enter Tryz.func29,Tryz.ntmps29
 go_wp2_with (first | ((refine gate_dst (N := 2) rfl ?_);refine box_event rfl (N := 2) rfl (cs := #[.slice A0_0 l0_0.length c0_0,.int .i64 a0_1,.slice A0_2 l0_2.length c0_2,.int .i64 a0_3,.int .i64 a0_4]) (t := 27) ?hr ?_;(case hr => go_simp;try rfl);intro gb617 hg w7 hbox hb;have BK617 := am (hbox);have GW617 := am (ge_new (HB.out) hg);have GE617 := am (ge_new (HB.out) hg);replace HB := am (below_step (HB.out) hb);clear hb hbox hg) | ((refine gate_dst (N := 3) rfl ?_);refine box_event rfl (N := 3) rfl (cs := #[.int .i64 a1_0,.int .i64 a1_1]) (t := 44) ?hr ?_;(case hr => go_simp;try rfl);intro gb618 hg w8 hbox hb;have BK618 := am (hbox);have GW618 := am (ge_new (HB.out) hg);have GE618 := am (ge_new (HB.out) hg);have NB617_618 := am (ne_new BK617.out hg);have NB618_617 := am (ne_new2 BK617.out hg);replace BK617 := (kmv hb BK617);replace HB := am (below_step (HB.out) hb);clear hb hbox hg) | ((refine gate_dst (N := 4) rfl ?_);refine box_event rfl (N := 4) rfl (cs := #[.slice none 0 0,.int .i64 0,.slice none 0 0,.int .i64 0,.int .i64 0]) (t := 27) ?hr ?_;(case hr => go_simp;try rfl);intro gb619 hg w9 hbox hb;have BK619 := am (hbox);have GW619 := am (ge_new (HB.out) hg);have GE619 := am (ge_new (HB.out) hg);have NB617_619 := am (ne_new BK617.out hg);have NB619_617 := am (ne_new2 BK617.out hg);have NB618_619 := am (ne_new BK618.out hg);have NB619_618 := am (ne_new2 BK618.out hg);replace BK617 := (kmv hb BK617);replace BK618 := (kmv hb BK618);replace HB := am (below_step (HB.out) hb);clear hb hbox hg;have hnb10 := NB617_618.out;have hnc10 := NB618_617.out;have hnb11 := NB617_619.out;have hnc11 := NB619_617.out;obtain ⟨hcz12_0,hcz12_1,hcz12_2,hcz12_3,hcz12_4⟩ := cO5 BK617.out;have hfz12_0 := blk_frozen BK617.out 0;have hfz12_1 := blk_frozen BK617.out 1;have hfz12_2 := blk_frozen BK617.out 2;have hfz12_3 := blk_frozen BK617.out 3;have hfz12_4 := blk_frozen BK617.out 4) | ((with_reducible refine gate_builtin (b := .append) (xs := #[.const (.slice none 0 0),.tmp 6]) rfl ?_);at_builtin;refine Kd.R_append_rows k48 (w0 := w) w.heap.size rfl (.const (.slice none 0 0)) (.tmp 6) 25 48 (.agg #[(.int .i64 0),(.int .i64 0)]) 16 rfl Tryz.underlying25 info48 rfl (by decide) (by omega) (.slice none 0 0) ([] : List (S48)) l0_2 _ _ _ (fun _ => True) (fun _ => False) rfl rfl ?aO ?aR (fun _ _ h => h) (fun _ h => h.elim) ?aF ?aB ?aS ?aL ?_;(case aR => repeat (first | exact (kC HR0_2.out HB.out) | (with_reducible refine Kd.C_alloc ?_ _) | (with_reducible refine Kd.C_drewN ?_ _) | (with_reducible refine Kd.C_drew ?_)));(case aB => exact (HB.out));(case aF => exact (fun _ _ => trivial));(case aO => exact ((Kd.R_nil _ _ _ _ (fun _ => True))));(case aS => exact (below_size (HB.out)));(case aL => have := LMc3.out;omega);intro v621 w13 ho hb hg hat;rw [← Ny620.out] at ho;have HO622 := am (ho);replace BK617 := am (blk_grown (g := gb617) (o := .cells #[.slice A0_0 l0_0.length c0_0,.int .i64 a0_1,.slice A0_2 l0_2.length c0_2,.int .i64 a0_3,.int .i64 a0_4] 27 (0,0)) BK617.out hg (by simp [Value.ownBlock]));replace BK618 := am (blk_grown (g := gb618) (o := .cells #[.int .i64 a1_0,.int .i64 a1_1] 44 (0,0)) BK618.out hg (by simp [Value.ownBlock]));replace BK619 := am (blk_grown (g := gb619) (o := .cells #[.slice none 0 0,.int .i64 0,.slice none 0 0,.int .i64 0,.int .i64 0] 27 (0,0)) BK619.out hg (by simp [Value.ownBlock]));replace HB := am (hb);clear ho hb hg hat;obtain ⟨Ao14,co14,eo14⟩ := Kd.R_slice HO622.out;subst eo14;obtain ⟨hcz15_0,hcz15_1,hcz15_2,hcz15_3,hcz15_4⟩ := cO5 BK617.out;have hfz15_0 := blk_frozen BK617.out 0;have hfz15_1 := blk_frozen BK617.out 1;have hfz15_2 := blk_frozen BK617.out 2;have hfz15_3 := blk_frozen BK617.out 3;have hfz15_4 := blk_frozen BK617.out 4) | ((with_reducible refine gate_store (t := 25) (p := 8) rfl ?_);refine store_event (t := 25) (p := 8) (v := ?vo_w16) (w1 := (w13.setCell ⟨gb617,2,none⟩ (.slice Ao14 y620.length co14))) ?hg ?ho ?hn ?hr ?_;(case ho => rfl);(case hg => rfl);(case hn => rfl);(case hr => go_simp;try rfl);intro w16 hw;have n0_ : Aside0 (Kd.R k48 48 w16 w.heap.size (fun _ => True) (.slice Ao14 y620.length co14) y620) := ⟨(by rw [hw];exact (Kd.R_mono (Kd.R_far (p := ⟨gb617,2,none⟩) (Kd.R_types HO622.out BK617.out (by decide)) (fun _ hk => hk.2) (.slice Ao14 y620.length co14)) (fun _ hk => trivial)))⟩;have n1_ : Aside0 (w16.heap[gb617]? = some (.cells #[.slice A0_0 l0_0.length c0_0,.int .i64 a0_1,.slice Ao14 y620.length co14,.int .i64 a0_3,.int .i64 a0_4] 27 (0,0))) := ⟨(by rw [hw];exact (blk_put (cs := #[.slice A0_0 l0_0.length c0_0,.int .i64 a0_1,.slice A0_2 l0_2.length c0_2,.int .i64 a0_3,.int .i64 a0_4]) BK617.out 2 _ rfl))⟩;have n2_ : Aside0 (w16.heap[gb618]? = some (.cells #[.int .i64 a1_0,.int .i64 a1_1] 44 (0,0))) := ⟨(by rw [hw];exact (blk_far BK618.out NB618_617.out _))⟩;have n3_ : Aside0 (w16.heap[gb619]? = some (.cells #[.slice none 0 0,.int .i64 0,.slice none 0 0,.int .i64 0,.int .i64 0] 27 (0,0))) := ⟨(by rw [hw];exact (blk_far BK619.out NB619_617.out _))⟩;have n4_ : Aside0 (Below w.heap.size w w16) := ⟨(by rw [hw];exact (by repeat (first | (with_reducible first | exact HB.out | refine below_set ?_ (Aside0.out (by assumption)) | apply below_alloc | apply pw_below_drewN) | exact HB.out)))⟩;clear hw;clear HO622;clear BK617;clear BK618;clear BK619;clear HB;have HO622 := n0_;have BK617 := n1_;have BK618 := n2_;have BK619 := n3_;have HB := n4_;clear n0_ n1_ n2_ n3_ n4_;obtain ⟨hcz17_0,hcz17_1,hcz17_2,hcz17_3,hcz17_4⟩ := cO5 BK617.out;have hfz17_0 := blk_frozen BK617.out 0;have hfz17_1 := blk_frozen BK617.out 1;have hfz17_2 := blk_frozen BK617.out 2;have hfz17_3 := blk_frozen BK617.out 3;have hfz17_4 := blk_frozen BK617.out 4;have hnb18 := NB618_619.out;have hnc18 := NB619_618.out;obtain ⟨hcz19_0,hcz19_1⟩ := cO2 BK618.out;have p6 : 0 ≤ (a1_0 : Int) := of_decide_eq_true (by assumption);have q6 : (a1_0 : Int) < ((y620.length : Int) : Int) := of_decide_eq_true (by assumption);obtain ⟨go6,co6,eo6,gb6,gl6,cl6,HG6⟩ := Kd.R_form HO622.out (by omega);(first | cases eo6 | (injection eo6 with ea_ en_ ec_;(first | subst ea_ | (injection ea_ with ea_;subst ea_));subst ec_;clear en_));have GB6 := am gb6;have GG6 := am HG6;clear gb6 gl6 HG6;obtain ⟨ce6,hcl6,hM6,hcc6,hfr6⟩ := Kd.R_elem HO622.out z48 (a1_0 : Int) p6 q6;obtain rfl := k48_openM hM6;have hx6_0 : w16.cell? ⟨go6,(a1_0 : Int).toNat * 2,none⟩ = some (.int .i64 ((rd_T48 y620 a1_0).f0)) := hcc6 0 _ rfl;have hx6_1 : w16.cell? ⟨go6,(a1_0 : Int).toNat * 2 + 1,none⟩ = some (.int .i64 ((rd_T48 y620 a1_0).f1)) := hcc6 1 _ rfl;have hf6_0 : w16.frozen? ⟨go6,(a1_0 : Int).toNat * 2,none⟩ = false := hfr6 0;have hf6_1 : w16.frozen? ⟨go6,(a1_0 : Int).toNat * 2 + 1,none⟩ = false := hfr6 1;clear hcl6 hcc6 hfr6 hM6;replace p6 := eq_true p6;replace q6 := eq_true q6;have HX20 := am (show Kd.R k48 48 w16 w.heap.size (fun _ => True) (.slice (some ⟨go6,0,none⟩) y620.length co14) y620 from HO622.out);obtain ⟨ce20,hcl20,hM20,hcc20,hfr20⟩ := Kd.R_elem HX20.out z48 (a1_0 : Int) (of_decide_eq_true (by assumption)) (by have h_ : (a1_0 : Int) < ((y620.length : Int) : Int) := of_decide_eq_true (by assumption);first | exact h_ | (have e_ := (Kd.R_reads' HO622.out).1;omega) | simpa using h_);obtain rfl := k48_openM hM20;have HP20 := Kd.R_seg HX20.out (a1_0 : Int) (of_decide_eq_true (by assumption)) (by have h_ : (a1_0 : Int) < ((y620.length : Int) : Int) := of_decide_eq_true (by assumption);first | exact h_ | (have e_ := (Kd.R_reads' HO622.out).1;omega) | simpa using h_) (seg := [.int .i64 a1_1]) (j := 1) hcl20 hcc20 (show 2 ≤ 2 from by decide) (x' := (⟨(rd_T48 y620 a1_0).f0,a1_1⟩ : S48)) (k48_mkM _ _ _ (⟨(rd_T48 y620 a1_0).f0,a1_1⟩ : S48) ) (fun _ hk => hk);have hx20_1 := hcc20 1 _ rfl;(try simp only [show (k48).sz = 2 from rfl,Nat.mul_one,Nat.add_zero] at hx20_1);have hf20_1 := hfr20 1;(try simp only [show (k48).sz = 2 from rfl,Nat.mul_one,Nat.add_zero] at hf20_1);clear hcl20 hcc20 hfr20 hM20) | ((with_reducible refine gate_store (t := 3) (p := 16) rfl ?_);refine store_event (t := 3) (p := 16) (v := ?vo_w21) (w1 := (w16.setCell ⟨go6,(a1_0 : Int).toNat * 2 + 1,none⟩ (.int .i64 a1_1))) ?hg ?ho ?hn ?hr ?_;(case ho => rfl);(case hg => rfl);(case hn => rfl);(case hr => go_simp;try rfl);intro w21 hw;have hg : w16.grownBy w21 (some go6) := (by rw [hw];exact HP20.2);have hp_ : Kd.R k48 48 w21 w.heap.size (fun _ => True) (.slice (some ⟨go6,0,none⟩) y620.length co14) y623 := (by rw [hw,Ny623.out];exact HP20.1);clear HP20;replace BK617 := am (blk_grown (g := gb617) (o := .cells #[.slice A0_0 l0_0.length c0_0,.int .i64 a0_1,.slice (some ⟨go6,0,none⟩) y620.length co14,.int .i64 a0_3,.int .i64 a0_4] 27 (0,0)) BK617.out hg (Kd.R_ne HO622.out BK617.out (by decide)));replace BK618 := am (blk_grown (g := gb618) (o := .cells #[.int .i64 a1_0,.int .i64 a1_1] 44 (0,0)) BK618.out hg (Kd.R_ne HO622.out BK618.out (by decide)));replace BK619 := am (blk_grown (g := gb619) (o := .cells #[.slice none 0 0,.int .i64 0,.slice none 0 0,.int .i64 0,.int .i64 0] 27 (0,0)) BK619.out hg (Kd.R_ne HO622.out BK619.out (by decide)));replace HO622 := am (hp_);replace HB := am ((by rw [hw];exact below_set (HB.out) GB6.out : Below w.heap.size w w21));clear hg hw hp_;obtain ⟨hcz22_0,hcz22_1,hcz22_2,hcz22_3,hcz22_4⟩ := cO5 BK617.out;have hfz22_0 := blk_frozen BK617.out 0;have hfz22_1 := blk_frozen BK617.out 1;have hfz22_2 := blk_frozen BK617.out 2;have hfz22_3 := blk_frozen BK617.out 3;have hfz22_4 := blk_frozen BK617.out 4;obtain ⟨hcz23_0,hcz23_1,hcz23_2,hcz23_3,hcz23_4⟩ := cO5 BK619.out;have hfz23_0 := blk_frozen BK619.out 0;have hfz23_1 := blk_frozen BK619.out 1;have hfz23_2 := blk_frozen BK619.out 2;have hfz23_3 := blk_frozen BK619.out 3;have hfz23_4 := blk_frozen BK619.out 4))
 refine bodyPost_ret (results_cell_row rfl _ _ gb619 27 #[.slice A0_0 l0_0.length c0_0,.int .i64 a0_1,.slice (some ⟨go6,0,none⟩) y620.length co14,.int .i64 a0_3,.int .i64 a0_4] (0,0) _ rfl (blk_put (cs := #[.slice A0_0 l0_0.length c0_0,.int .i64 a0_1,.slice (some ⟨go6,0,none⟩) y620.length co14,.int .i64 a0_3,.int .i64 0]) (blk_put (cs := #[.slice A0_0 l0_0.length c0_0,.int .i64 a0_1,.slice (some ⟨go6,0,none⟩) y620.length co14,.int .i64 0,.int .i64 0]) (blk_put (cs := #[.slice A0_0 l0_0.length c0_0,.int .i64 a0_1,.slice none 0 0,.int .i64 0,.int .i64 0]) (blk_put (cs := #[.slice A0_0 l0_0.length c0_0,.int .i64 0,.slice none 0 0,.int .i64 0,.int .i64 0]) (blk_put (cs := #[.slice none 0 0,.int .i64 0,.slice none 0 0,.int .i64 0,.int .i64 0]) BK619.out 0 _ rfl) 1 _ rfl) 2 _ rfl) 3 _ rfl) 4 _ rfl) Tryz.underlying27 rfl (by kernel_rfl)) rfl ?_
 exact ⟨_,by first | rfl | (simp [*] <;> rfl),by (with_reducible repeat (first | apply Kd.R_alloc | apply Kd.R_drewN | apply Kd.R_drew));exact Kd.R_mono (Kd.R_far (p := ⟨gb619,4,none⟩) (Kd.R_far (p := ⟨gb619,3,none⟩) (Kd.R_far (p := ⟨gb619,2,none⟩) (Kd.R_far (p := ⟨gb619,1,none⟩) (Kd.R_far (p := ⟨gb619,0,none⟩) (Kd.R_types HO622.out BK619.out (by decide)) (fun _ hk => hk.2) (.slice A0_0 l0_0.length c0_0)) (fun _ hk => hk.2) (.int .i64 a0_1)) (fun _ hk => hk.2) (.slice (some ⟨go6,0,none⟩) y620.length co14)) (fun _ hk => hk.2) (.int .i64 a0_3)) (fun _ hk => hk.2) (.int .i64 a0_4)) (fun _ hk => trivial),by repeat (first | (with_reducible first | exact HB.out | refine below_set ?_ (Aside0.out (by assumption)) | apply below_alloc | apply pw_below_drewN) | exact HB.out)⟩
end
end Go.Proofs.YtnnmnhpeblhiiaaGreatDoor.C

/- A part of the proof: the walks of the functions that it reaches. TIGHT. -/
import Derived.Test.YticlelgmmonloaaGreatDoorM11
set_option linter.unusedVariables false
set_option linter.unusedSimpArgs false
namespace Go.Proofs.YticlelgmmonloaaGreatDoor.C
open Go.RowKit Go.Proofs.YticlelgmmonloaaGreatDoorW.PrintWords Go.Proofs.YticlelgmmonloaaGreatDoorW.PrintLast Go.Proofs.YticlelgmmonloaaGreatDoorW.PrintMore
set_option linter.unusedVariables false
set_option linter.unusedSimpArgs false
set_option maxHeartbeats 16000000
set_option maxRecDepth 100000
section
attribute [local go_sem] max2_int min2_int max_two min_two
def q4_Total.l0 : Nat → List Int → Int → Int → Option (Int)
 | 0,_,_,_ => none
 | k + 1,x5,x6,x7 => if x7 < (x5.length : Int) then (if 0 ≤ x7 then (q4_Total.l0 k x5 (wrap64 (x6 + (rd x5 x7))) (wrap64 (x7 + 1))) else (none)) else (some x6)
def q4_Total.f (k : Nat) (l0_0 : List (S126)) (a0_1 : Int) (l0_2 : List (S64)) (a0_3 : Int) (a0_4 : Int) (a1 : Int) : Option (Int) := (q4_Out.f k l0_0 a0_1 l0_2 a0_3 a0_4 a1).bind fun bt488 => (q4_Total.l0 k bt488.1 bt488.2 0)
theorem q4_Total.calls (k : Nat) (A0_0 : Option Addr) (c0_0 : Nat) (l0_0 : List (S126)) (a0_1 : Int) (A0_2 : Option Addr) (c0_2 : Nat) (l0_2 : List (S64)) (a0_3 : Int) (a0_4 : Int) (a1 : Int) (r : Int) (w : World) (hr0_0 : Kd.C k126 w A0_0 l0_0.length l0_0) (hc0_0 : l0_0.length ≤ c0_0) (hr0_2 : Kd.C k64 w A0_2 l0_2.length l0_2) (hc0_2 : l0_2.length ≤ c0_2) (h : q4_Total.f k l0_0 a0_1 l0_2 a0_3 a0_4 a1 = some r) :
 Calls Tryz.prog 64 #[.agg #[.slice A0_0 l0_0.length c0_0,.int .i64 a0_1,.slice A0_2 l0_2.length c0_2,.int .i64 a0_3,.int .i64 a0_4],.int .i64 a1] w fun e w' => e = .returned (.int .i64 r) ∧ Below w.heap.size w w' := by
 have hu27 := Tryz.underlying27
 have HR0_0 := am hr0_0
 have HC0_0 := am hc0_0
 clear hr0_0 hc0_0
 have HR0_2 := am hr0_2
 have HC0_2 := am hc0_2
 clear hr0_2 hc0_2
 have HB := am (Below.refl w.heap.size w)
 have H : ((q4_Out.f k l0_0 a0_1 l0_2 a0_3 a0_4 a1).bind fun bt488 => (q4_Total.l0 k bt488.1 bt488.2 0)) = some r := h
 clear h
 replace H := obm H
 obtain ⟨⟨t488,t491⟩,A30,H⟩ := H
 replace H : (q4_Total.l0 k t488 t491 0) = some r := H
 have A3 := am A30
 clear A30
 replace H' := am H
 go_enter Tryz.func64,Tryz.ntmps64
 go_wp2_with (first | ((refine gate_dst (N := 2) rfl ?_);refine box_event rfl (N := 2) rfl (cs := #[.slice A0_0 l0_0.length c0_0,.int .i64 a0_1,.slice A0_2 l0_2.length c0_2,.int .i64 a0_3,.int .i64 a0_4]) (t := 27) ?hr ?_;(case hr => go_simp;try rfl);intro gb487 hg w4 hbox hb;have BK487 := am (hbox);have GW487 := am (ge_new (HB.out) hg);have GE487 := am (ge_new (HB.out) hg);replace HB := am (below_step (HB.out) hb);clear hb hbox hg;obtain ⟨hcz5_0,hcz5_1,hcz5_2,hcz5_3,hcz5_4⟩ := cO5 BK487.out) | ((with_reducible refine gate_callee (f := 63) rfl ?_);refine goesL_ (some 11) rfl rfl Tryz.func63 (by kernel_rfl) rfl #[.agg #[.slice A0_0 l0_0.length c0_0,.int .i64 a0_1,.slice A0_2 l0_2.length c0_2,.int .i64 a0_3,.int .i64 a0_4],.int .i64 a1] rfl (by (try simp only [List.map_toArray,List.map_cons,List.map_nil]);first | done | rfl | (simp only [List.length_drop,List.length_take];rfl)) ?_;(refine (q4_Out.calls k _ _ l0_0 a0_1 _ _ l0_2 a0_3 a0_4 a1 t488 t491 _ ?side1 ?side2 ?side3 ?side4 A3.out).mono ?_);(case side1 => exact kC HR0_0.out HB.out);(case side2 => exact HC0_0.out);(case side3 => exact kC HR0_2.out HB.out);(case side4 => exact HC0_2.out);rintro e w6 ⟨v489,rfl,ho0,hb⟩;refine ⟨_,rfl,?_⟩;have HO490 := am (Kd.R_lower ho0 (below_size (HB.out)));replace BK487 := (kmv hb BK487);replace HB := am (below_step (HB.out) hb);(try clear hb);(try clear hb2);(try clear hk);(try clear hi);(try clear ho0)))
 go_loopg [6,7] k (fun kq v6 v7 w' => ∃ (x6_1 : Int) (x7_1 : Int),v6 = .int .i64 x6_1 ∧ v7 = .int .i64 x7_1 ∧ Aside0 (q4_Total.l0 kq t488 x6_1 x7_1 = some r) ∧ Aside0 (kq ≤ k) ∧ Aside0 (Kd.R (Kd.int .i64) 3 w' w.heap.size (fun _ => True) v489 t488) ∧ Aside0 (w'.heap[gb487]? = some (.cells #[(.slice A0_0 l0_0.length c0_0),.int .i64 a0_1,(.slice A0_2 l0_2.length c0_2),.int .i64 a0_3,.int .i64 a0_4] 27 (0,0))) ∧ Aside0 (Below w.heap.size w w'))
 case atStart => exact ⟨(t491),(0),(by first | rfl | (simp;done) | (simp [*];done)),(by first | rfl | (simp;done) | (simp [*];done)),H',⟨Nat.le_refl _⟩,⟨by (with_reducible repeat (first | apply Kd.R_alloc | apply Kd.R_drewN | apply Kd.R_drew));exact HO490.out⟩,⟨BK487.out⟩,⟨HB.out⟩⟩
 case round =>
  clear H'
  obtain ⟨x6_1,x7_1,rfl,rfl,HA,HK1,HO_5,BK487,HB⟩ := hrel
  cases gk with
  | zero => exact absurd HA.out (by simp [q4_Total.l0])
  | succ k1 =>
   have H := HA.out
   clear HA
   simp only [q4_Total.l0] at H
   by_cases c7 : x7_1 < (t488.length : Int)
   case neg =>
    rw [if_neg c7] at H
    have c7b0 : decide (x7_1 < (t488.length : Int)) = false := decide_eq_false c7
    clear c7
    obtain rfl := Option.some.inj H
    obtain ⟨Ao10,co10,eo10⟩ := Kd.R_slice HO_5.out
    subst eo10
    go_wp2
    go_ret
    exact ⟨by first | rfl | (simp [*] <;> rfl),HB.out⟩
   rw [if_pos c7] at H
   have c7b0 : decide (x7_1 < (t488.length : Int)) = true := decide_eq_true c7
   clear c7
   by_cases c8 : 0 ≤ x7_1
   case neg =>
    rw [if_neg c8] at H
    exact absurd H (by simp)
   rw [if_pos c8] at H
   have c8b0 : decide (0 ≤ x7_1) = true := decide_eq_true c8
   clear c8
   replace H' := am H
   obtain ⟨Ao9,co9,eo9⟩ := Kd.R_slice HO_5.out
   subst eo9
   have p492 : 0 ≤ (x7_1 : Int) := of_decide_eq_true (by assumption)
   have q492 : x7_1 < (t488.length : Int) := of_decide_eq_true (by assumption)
   obtain ⟨ad492,e492,hx492_0⟩ := Kd.at_int (Kd.R_reads' HO_5.out).2.2 x7_1 p492 q492
   cases e492
   replace p492 := eq_true p492
   replace q492 := eq_true q492
   go_wp2
   go_roundg k1
   case measure => have := HK1.out;omega
   case rel => exact ⟨(wrap64 (x6_1 + (rd t488 x7_1))),(wrap64 (x7_1 + 1)),(by first | rfl | (simp;done) | (simp [*];done)),(by first | rfl | (simp;done) | (simp [*];done)),H',⟨by have := HK1.out;omega⟩,⟨by (with_reducible repeat (first | apply Kd.R_alloc | apply Kd.R_drewN | apply Kd.R_drew));exact HO_5.out⟩,⟨BK487.out⟩,⟨HB.out⟩⟩
def q4_Stands.l0 : Nat → Int → Int → List (S126) → Int → List (S64) → Int → Int → Option (Int)
 | 0,_,_,_,_,_,_,_ => none
 | k + 1,x1,x5,x494000,x494001,x494002,x494003,x494004 => (q4_Total.f k x494000 x494001 x494002 x494003 x494004 x5).bind fun t494 => (if t494 > x1 then (q4_Stands.l0 k x1 (wrap64 (x5 - 1)) x494000 x494001 x494002 x494003 x494004) else (some x5))
def q4_Stands.f (k : Nat) (l0_0 : List (S126)) (a0_1 : Int) (l0_2 : List (S64)) (a0_3 : Int) (a0_4 : Int) (a1 : Int) : Option (Int) := q4_Stands.l0 k a1 40 l0_0 a0_1 l0_2 a0_3 a0_4
theorem q4_Stands.calls (k : Nat) (A0_0 : Option Addr) (c0_0 : Nat) (l0_0 : List (S126)) (a0_1 : Int) (A0_2 : Option Addr) (c0_2 : Nat) (l0_2 : List (S64)) (a0_3 : Int) (a0_4 : Int) (a1 : Int) (r : Int) (w : World) (hr0_0 : Kd.C k126 w A0_0 l0_0.length l0_0) (hc0_0 : l0_0.length ≤ c0_0) (hr0_2 : Kd.C k64 w A0_2 l0_2.length l0_2) (hc0_2 : l0_2.length ≤ c0_2) (h : q4_Stands.f k l0_0 a0_1 l0_2 a0_3 a0_4 a1 = some r) :
 Calls Tryz.prog 28 #[.agg #[.slice A0_0 l0_0.length c0_0,.int .i64 a0_1,.slice A0_2 l0_2.length c0_2,.int .i64 a0_3,.int .i64 a0_4],.int .i64 a1] w fun e w' => e = .returned (.int .i64 r) ∧ Below w.heap.size w w' := by
 have hu27 := Tryz.underlying27
 have HR0_0 := am hr0_0
 have HC0_0 := am hc0_0
 clear hr0_0 hc0_0
 have HR0_2 := am hr0_2
 have HC0_2 := am hc0_2
 clear hr0_2 hc0_2
 have HB := am (Below.refl w.heap.size w)
 have H : (q4_Stands.l0 k a1 40 l0_0 a0_1 l0_2 a0_3 a0_4) = some r := h
 clear h
 replace H' := am H
 go_enter Tryz.func28,Tryz.ntmps28
 go_wp2_with (first | ((refine gate_dst (N := 2) rfl ?_);refine box_event rfl (N := 2) rfl (cs := #[.slice A0_0 l0_0.length c0_0,.int .i64 a0_1,.slice A0_2 l0_2.length c0_2,.int .i64 a0_3,.int .i64 a0_4]) (t := 27) ?hr ?_;(case hr => go_simp;try rfl);intro gb493 hg w3 hbox hb;have BK493 := am (hbox);have GW493 := am (ge_new (HB.out) hg);have GE493 := am (ge_new (HB.out) hg);replace HB := am (below_step (HB.out) hb);clear hb hbox hg))
 go_loopg [5] k (fun kq v5 w' => ∃ (x5_1 : Int),v5 = .int .i64 x5_1 ∧ Aside0 (q4_Stands.l0 kq a1 x5_1 l0_0 a0_1 l0_2 a0_3 a0_4 = some r) ∧ Aside0 (kq ≤ k) ∧ Aside0 (w'.heap[gb493]? = some (.cells #[(.slice A0_0 l0_0.length c0_0),.int .i64 a0_1,(.slice A0_2 l0_2.length c0_2),.int .i64 a0_3,.int .i64 a0_4] 27 (0,0))) ∧ Aside0 (Below w.heap.size w w'))
 case atStart => exact ⟨(40),(by first | rfl | (simp;done) | (simp [*];done)),H',⟨Nat.le_refl _⟩,⟨BK493.out⟩,⟨HB.out⟩⟩
 case round =>
  clear H'
  obtain ⟨x5_1,rfl,HA,HK1,BK493,HB⟩ := hrel
  cases gk with
  | zero => exact absurd HA.out (by simp [q4_Stands.l0])
  | succ k1 =>
   have H := HA.out
   clear HA
   simp only [q4_Stands.l0] at H
   replace H := obm H
   obtain ⟨t494,A40,H⟩ := H
   replace H : (if t494 > a1 then (q4_Stands.l0 k1 a1 (wrap64 (x5_1 - 1)) l0_0 a0_1 l0_2 a0_3 a0_4) else (some x5_1)) = some r := H
   have A4 := am A40
   clear A40
   by_cases c5 : t494 > a1
   · rw [if_pos c5] at H
     have c5b0 : decide (a1 < t494) = true := decide_eq_true c5
     clear c5
     replace H' := am H
     obtain ⟨hcz6_0,hcz6_1,hcz6_2,hcz6_3,hcz6_4⟩ := cO5 BK493.out
     go_wp2_with (first | ((with_reducible refine gate_callee (f := 64) rfl ?_);refine goesL_ (some 8) rfl rfl Tryz.func64 (by kernel_rfl) rfl #[.agg #[.slice A0_0 l0_0.length c0_0,.int .i64 a0_1,.slice A0_2 l0_2.length c0_2,.int .i64 a0_3,.int .i64 a0_4],.int .i64 x5_1] rfl (by (try simp only [List.map_toArray,List.map_cons,List.map_nil]);first | done | rfl | (simp only [List.length_drop,List.length_take];rfl)) ?_;(refine (q4_Total.calls k1 _ _ l0_0 a0_1 _ _ l0_2 a0_3 a0_4 x5_1 t494 _ ?side1 ?side2 ?side3 ?side4 A4.out).mono ?_);(case side1 => exact kC HR0_0.out HB.out);(case side2 => exact HC0_0.out);(case side3 => exact kC HR0_2.out HB.out);(case side4 => exact HC0_2.out);rintro e w7 ⟨rfl,hb⟩;refine ⟨_,rfl,?_⟩;replace BK493 := (kmv hb BK493);replace HB := am (below_step (HB.out) hb);(try clear hb);(try clear hb2);(try clear hk);(try clear hi)))
     go_roundg k1
     case measure => have := HK1.out;omega
     case rel => exact ⟨(wrap64 (x5_1 - 1)),(by first | rfl | (simp;done) | (simp [*];done)),H',⟨by have := HK1.out;omega⟩,⟨BK493.out⟩,⟨HB.out⟩⟩
   · rw [if_neg c5] at H
     have c5b0 : decide (a1 < t494) = false := decide_eq_false c5
     clear c5
     obtain rfl := Option.some.inj H
     obtain ⟨hcz8_0,hcz8_1,hcz8_2,hcz8_3,hcz8_4⟩ := cO5 BK493.out
     go_wp2_with (first | ((with_reducible refine gate_callee (f := 64) rfl ?_);refine goesL_ (some 8) rfl rfl Tryz.func64 (by kernel_rfl) rfl #[.agg #[.slice A0_0 l0_0.length c0_0,.int .i64 a0_1,.slice A0_2 l0_2.length c0_2,.int .i64 a0_3,.int .i64 a0_4],.int .i64 x5_1] rfl (by (try simp only [List.map_toArray,List.map_cons,List.map_nil]);first | done | rfl | (simp only [List.length_drop,List.length_take];rfl)) ?_;(refine (q4_Total.calls k1 _ _ l0_0 a0_1 _ _ l0_2 a0_3 a0_4 x5_1 t494 _ ?side1 ?side2 ?side3 ?side4 A4.out).mono ?_);(case side1 => exact kC HR0_0.out HB.out);(case side2 => exact HC0_0.out);(case side3 => exact kC HR0_2.out HB.out);(case side4 => exact HC0_2.out);rintro e w9 ⟨rfl,hb⟩;refine ⟨_,rfl,?_⟩;replace BK493 := (kmv hb BK493);replace HB := am (below_step (HB.out) hb);(try clear hb);(try clear hb2);(try clear hk);(try clear hi)))
     go_ret
     exact ⟨by first | rfl | (simp [*] <;> rfl),HB.out⟩
def q4_Shares.l0 : Nat → List Int → Int → Int → List Int → Int → Option (List Int × Int)
 | 0,_,_,_,_,_ => none
 | k + 1,x7,x8,x9,x10,x12 => if x12 < (x7.length : Int) then (if 0 ≤ x12 then (if x12 < (x10.length : Int) then (q4_Shares.l0 k (x7.set (x12 : Int).toNat (wrap64 ((rd x7 x12) + (mn x9 (wrap64 ((rd x10 x12) - (rd x7 x12))))))) x8 (wrap64 (x9 - (mn x9 (wrap64 ((rd x10 x12) - (rd x7 x12)))))) x10 (wrap64 (x12 + 1))) else (none)) else (none)) else (some (x7,wrap64 (x8 + x9)))
def q4_Shares.f (k : Nat) (l0_0 : List (S126)) (a0_1 : Int) (l0_2 : List (S64)) (a0_3 : Int) (a0_4 : Int) (a1 : Int) : Option (List Int × Int) := (q4_Stands.f k l0_0 a0_1 l0_2 a0_3 a0_4 a1).bind fun t496 => ((q4_Out.f k l0_0 a0_1 l0_2 a0_3 a0_4 t496).bind fun bt497 => ((q4_Total.f k l0_0 a0_1 l0_2 a0_3 a0_4 t496).bind fun t501 => (if t496 < 40 then ((q4_Out.f k l0_0 a0_1 l0_2 a0_3 a0_4 (wrap64 (t496 + 1))).bind fun bt502 => (q4_Shares.l0 k bt497.1 bt497.2 (wrap64 (a1 - t501)) bt502.1 0)) else (some (bt497.1,wrap64 (bt497.2 + (wrap64 (a1 - t501))))))))
theorem q4_Shares.calls (k : Nat) (A0_0 : Option Addr) (c0_0 : Nat) (l0_0 : List (S126)) (a0_1 : Int) (A0_2 : Option Addr) (c0_2 : Nat) (l0_2 : List (S64)) (a0_3 : Int) (a0_4 : Int) (a1 : Int) (r1 : List Int) (r2 : Int) (w : World) (hr0_0 : Kd.C k126 w A0_0 l0_0.length l0_0) (hc0_0 : l0_0.length ≤ c0_0) (hr0_2 : Kd.C k64 w A0_2 l0_2.length l0_2) (hc0_2 : l0_2.length ≤ c0_2) (h : q4_Shares.f k l0_0 a0_1 l0_2 a0_3 a0_4 a1 = some (r1,r2)) :
 Calls Tryz.prog 19 #[.agg #[.slice A0_0 l0_0.length c0_0,.int .i64 a0_1,.slice A0_2 l0_2.length c0_2,.int .i64 a0_3,.int .i64 a0_4],.int .i64 a1] w fun e w' => ∃ v0_ : Value,e = .returned (.tuple #[v0_,.int .i64 r2]) ∧ Kd.R (Kd.int .i64) 3 w' w.heap.size (fun _ => True) v0_ r1 ∧ Below w.heap.size w w' := by
 have hu27 := Tryz.underlying27
 have HR0_0 := am hr0_0
 have HC0_0 := am hc0_0
 clear hr0_0 hc0_0
 have HR0_2 := am hr0_2
 have HC0_2 := am hc0_2
 clear hr0_2 hc0_2
 have HB := am (Below.refl w.heap.size w)
 have H : ((q4_Stands.f k l0_0 a0_1 l0_2 a0_3 a0_4 a1).bind fun t496 => ((q4_Out.f k l0_0 a0_1 l0_2 a0_3 a0_4 t496).bind fun bt497 => ((q4_Total.f k l0_0 a0_1 l0_2 a0_3 a0_4 t496).bind fun t501 => (if t496 < 40 then ((q4_Out.f k l0_0 a0_1 l0_2 a0_3 a0_4 (wrap64 (t496 + 1))).bind fun bt502 => (q4_Shares.l0 k bt497.1 bt497.2 (wrap64 (a1 - t501)) bt502.1 0)) else (some (bt497.1,wrap64 (bt497.2 + (wrap64 (a1 - t501))))))))) = some (r1,r2) := h
 clear h
 replace H := obm H
 obtain ⟨t496,A30,H⟩ := H
 replace H : ((q4_Out.f k l0_0 a0_1 l0_2 a0_3 a0_4 t496).bind fun bt497 => ((q4_Total.f k l0_0 a0_1 l0_2 a0_3 a0_4 t496).bind fun t501 => (if t496 < 40 then ((q4_Out.f k l0_0 a0_1 l0_2 a0_3 a0_4 (wrap64 (t496 + 1))).bind fun bt502 => (q4_Shares.l0 k bt497.1 bt497.2 (wrap64 (a1 - t501)) bt502.1 0)) else (some (bt497.1,wrap64 (bt497.2 + (wrap64 (a1 - t501)))))))) = some (r1,r2) := H
 have A3 := am A30
 clear A30
 replace H := obm H
 obtain ⟨⟨t497,t500⟩,A40,H⟩ := H
 replace H : ((q4_Total.f k l0_0 a0_1 l0_2 a0_3 a0_4 t496).bind fun t501 => (if t496 < 40 then ((q4_Out.f k l0_0 a0_1 l0_2 a0_3 a0_4 (wrap64 (t496 + 1))).bind fun bt502 => (q4_Shares.l0 k t497 t500 (wrap64 (a1 - t501)) bt502.1 0)) else (some (t497,wrap64 (t500 + (wrap64 (a1 - t501))))))) = some (r1,r2) := H
 have A4 := am A40
 clear A40
 replace H := obm H
 obtain ⟨t501,A50,H⟩ := H
 replace H : (if t496 < 40 then ((q4_Out.f k l0_0 a0_1 l0_2 a0_3 a0_4 (wrap64 (t496 + 1))).bind fun bt502 => (q4_Shares.l0 k t497 t500 (wrap64 (a1 - t501)) bt502.1 0)) else (some (t497,wrap64 (t500 + (wrap64 (a1 - t501)))))) = some (r1,r2) := H
 have A5 := am A50
 clear A50
 by_cases c6 : t496 < 40
 case neg =>
  rw [if_neg c6] at H
  have c6b0 : decide (t496 < 40) = false := decide_eq_false c6
  clear c6
  simp only [Option.some.injEq,Prod.mk.injEq] at H
  obtain ⟨rfl,rfl⟩ := H
  go_enter Tryz.func19,Tryz.ntmps19
  go_wp2_with (first | ((refine gate_dst (N := 2) rfl ?_);refine box_event rfl (N := 2) rfl (cs := #[.slice A0_0 l0_0.length c0_0,.int .i64 a0_1,.slice A0_2 l0_2.length c0_2,.int .i64 a0_3,.int .i64 a0_4]) (t := 27) ?hr ?_;(case hr => go_simp;try rfl);intro gb495 hg w27 hbox hb;have BK495 := am (hbox);have GW495 := am (ge_new (HB.out) hg);have GE495 := am (ge_new (HB.out) hg);replace HB := am (below_step (HB.out) hb);clear hb hbox hg;obtain ⟨hcz28_0,hcz28_1,hcz28_2,hcz28_3,hcz28_4⟩ := cO5 BK495.out) | (go_at_call 28;(with_reducible refine (q4_Stands.calls k _ _ l0_0 a0_1 _ _ l0_2 a0_3 a0_4 a1 t496 _ ?side1 ?side2 ?side3 ?side4 A3.out).mono ?_);(case side1 => exact kC HR0_0.out HB.out);(case side2 => exact HC0_0.out);(case side3 => exact kC HR0_2.out HB.out);(case side4 => exact HC0_2.out);rintro e w29 ⟨rfl,hb⟩;replace BK495 := (kmv hb BK495);replace HB := am (below_step (HB.out) hb);(try clear hb);(try clear hb2);(try clear hk);(try clear hi);obtain ⟨hcz30_0,hcz30_1,hcz30_2,hcz30_3,hcz30_4⟩ := cO5 BK495.out) | (go_at_call 63;(with_reducible refine (q4_Out.calls k _ _ l0_0 a0_1 _ _ l0_2 a0_3 a0_4 t496 t497 t500 _ ?side1 ?side2 ?side3 ?side4 A4.out).mono ?_);(case side1 => exact kC HR0_0.out HB.out);(case side2 => exact HC0_0.out);(case side3 => exact kC HR0_2.out HB.out);(case side4 => exact HC0_2.out);rintro e w31 ⟨v498,rfl,ho0,hb⟩;have HO499 := am (Kd.R_lower ho0 (below_size (HB.out)));replace BK495 := (kmv hb BK495);replace HB := am (below_step (HB.out) hb);(try clear hb);(try clear hb2);(try clear hk);(try clear hi);(try clear ho0);obtain ⟨hcz32_0,hcz32_1,hcz32_2,hcz32_3,hcz32_4⟩ := cO5 BK495.out) | (go_at_call 64;(with_reducible refine (q4_Total.calls k _ _ l0_0 a0_1 _ _ l0_2 a0_3 a0_4 t496 t501 _ ?side1 ?side2 ?side3 ?side4 A5.out).mono ?_);(case side1 => exact kC HR0_0.out HB.out);(case side2 => exact HC0_0.out);(case side3 => exact kC HR0_2.out HB.out);(case side4 => exact HC0_2.out);rintro e w33 ⟨rfl,hb⟩;replace HO499 := am (Kd.R_below HO499.out hb);replace BK495 := (kmv hb BK495);replace HB := am (below_step (HB.out) hb);(try clear hb);(try clear hb2);(try clear hk);(try clear hi)))
  repeat (go_quiet (first | ((refine gate_dst (N := 2) rfl ?_);refine box_event rfl (N := 2) rfl (cs := #[.slice A0_0 l0_0.length c0_0,.int .i64 a0_1,.slice A0_2 l0_2.length c0_2,.int .i64 a0_3,.int .i64 a0_4]) (t := 27) ?hr ?_;(case hr => go_simp;try rfl);intro gb495 hg w27 hbox hb;have BK495 := am (hbox);have GW495 := am (ge_new (by repeat (first | (with_reducible first | exact HB.out | apply below_alloc | apply pw_below_drewN) | exact HB.out)) hg);have GE495 := am (ge_new (by repeat (first | (with_reducible first | exact HB.out | apply below_alloc | apply pw_below_drewN) | exact HB.out)) hg);replace HB := am (below_step (by repeat (first | (with_reducible first | exact HB.out | apply below_alloc | apply pw_below_drewN) | exact HB.out)) hb);clear hb hbox hg;obtain ⟨hcz28_0,hcz28_1,hcz28_2,hcz28_3,hcz28_4⟩ := cO5 BK495.out) | (go_at_call 28;(with_reducible refine (q4_Stands.calls k _ _ l0_0 a0_1 _ _ l0_2 a0_3 a0_4 a1 t496 _ ?side1 ?side2 ?side3 ?side4 A3.out).mono ?_);(case side1 => repeat (first | exact (kC HR0_0.out HB.out) | (with_reducible refine Kd.C_alloc ?_ _) | (with_reducible refine Kd.C_drewN ?_ _) | (with_reducible refine Kd.C_drew ?_)));(case side2 => exact HC0_0.out);(case side3 => repeat (first | exact (kC HR0_2.out HB.out) | (with_reducible refine Kd.C_alloc ?_ _) | (with_reducible refine Kd.C_drewN ?_ _) | (with_reducible refine Kd.C_drew ?_)));(case side4 => exact HC0_2.out);rintro e w29 ⟨rfl,hb⟩;replace BK495 := (kmv hb BK495);replace HB := am (below_step (by repeat (first | (with_reducible first | exact HB.out | refine below_set ?_ GE495.out | apply below_alloc | apply pw_below_drewN) | exact HB.out)) hb);(try clear hb);(try clear hb2);(try clear hk);(try clear hi);obtain ⟨hcz30_0,hcz30_1,hcz30_2,hcz30_3,hcz30_4⟩ := cO5 BK495.out) | (go_at_call 63;(with_reducible refine (q4_Out.calls k _ _ l0_0 a0_1 _ _ l0_2 a0_3 a0_4 t496 t497 t500 _ ?side1 ?side2 ?side3 ?side4 A4.out).mono ?_);(case side1 => repeat (first | exact (kC HR0_0.out HB.out) | (with_reducible refine Kd.C_alloc ?_ _) | (with_reducible refine Kd.C_drewN ?_ _) | (with_reducible refine Kd.C_drew ?_)));(case side2 => exact HC0_0.out);(case side3 => repeat (first | exact (kC HR0_2.out HB.out) | (with_reducible refine Kd.C_alloc ?_ _) | (with_reducible refine Kd.C_drewN ?_ _) | (with_reducible refine Kd.C_drew ?_)));(case side4 => exact HC0_2.out);rintro e w31 ⟨v498,rfl,ho0,hb⟩;have HO499 := am (Kd.R_lower ho0 (below_size (by repeat (first | (with_reducible first | exact HB.out | refine below_set ?_ GE495.out | apply below_alloc | apply pw_below_drewN) | exact HB.out))));replace BK495 := (kmv hb BK495);replace HB := am (below_step (by repeat (first | (with_reducible first | exact HB.out | refine below_set ?_ GE495.out | apply below_alloc | apply pw_below_drewN) | exact HB.out)) hb);(try clear hb);(try clear hb2);(try clear hk);(try clear hi);(try clear ho0);obtain ⟨hcz32_0,hcz32_1,hcz32_2,hcz32_3,hcz32_4⟩ := cO5 BK495.out) | (go_at_call 64;(with_reducible refine (q4_Total.calls k _ _ l0_0 a0_1 _ _ l0_2 a0_3 a0_4 t496 t501 _ ?side1 ?side2 ?side3 ?side4 A5.out).mono ?_);(case side1 => repeat (first | exact (kC HR0_0.out HB.out) | (with_reducible refine Kd.C_alloc ?_ _) | (with_reducible refine Kd.C_drewN ?_ _) | (with_reducible refine Kd.C_drew ?_)));(case side2 => exact HC0_0.out);(case side3 => repeat (first | exact (kC HR0_2.out HB.out) | (with_reducible refine Kd.C_alloc ?_ _) | (with_reducible refine Kd.C_drewN ?_ _) | (with_reducible refine Kd.C_drew ?_)));(case side4 => exact HC0_2.out);rintro e w33 ⟨rfl,hb⟩;replace HO499 := am (Kd.R_below HO499.out hb);replace BK495 := (kmv hb BK495);replace HB := am (below_step (by repeat (first | (with_reducible first | exact HB.out | refine below_set ?_ GE495.out | apply below_alloc | apply pw_below_drewN) | exact HB.out)) hb);(try clear hb);(try clear hb2);(try clear hk);(try clear hi)));try go_wp2_with (first | ((refine gate_dst (N := 2) rfl ?_);refine box_event rfl (N := 2) rfl (cs := #[.slice A0_0 l0_0.length c0_0,.int .i64 a0_1,.slice A0_2 l0_2.length c0_2,.int .i64 a0_3,.int .i64 a0_4]) (t := 27) ?hr ?_;(case hr => go_simp;try rfl);intro gb495 hg w27 hbox hb;have BK495 := am (hbox);have GW495 := am (ge_new (by repeat (first | (with_reducible first | exact HB.out | apply below_alloc | apply pw_below_drewN) | exact HB.out)) hg);have GE495 := am (ge_new (by repeat (first | (with_reducible first | exact HB.out | apply below_alloc | apply pw_below_drewN) | exact HB.out)) hg);replace HB := am (below_step (by repeat (first | (with_reducible first | exact HB.out | apply below_alloc | apply pw_below_drewN) | exact HB.out)) hb);clear hb hbox hg;obtain ⟨hcz28_0,hcz28_1,hcz28_2,hcz28_3,hcz28_4⟩ := cO5 BK495.out) | (go_at_call 28;(with_reducible refine (q4_Stands.calls k _ _ l0_0 a0_1 _ _ l0_2 a0_3 a0_4 a1 t496 _ ?side1 ?side2 ?side3 ?side4 A3.out).mono ?_);(case side1 => repeat (first | exact (kC HR0_0.out HB.out) | (with_reducible refine Kd.C_alloc ?_ _) | (with_reducible refine Kd.C_drewN ?_ _) | (with_reducible refine Kd.C_drew ?_)));(case side2 => exact HC0_0.out);(case side3 => repeat (first | exact (kC HR0_2.out HB.out) | (with_reducible refine Kd.C_alloc ?_ _) | (with_reducible refine Kd.C_drewN ?_ _) | (with_reducible refine Kd.C_drew ?_)));(case side4 => exact HC0_2.out);rintro e w29 ⟨rfl,hb⟩;replace BK495 := (kmv hb BK495);replace HB := am (below_step (by repeat (first | (with_reducible first | exact HB.out | refine below_set ?_ GE495.out | apply below_alloc | apply pw_below_drewN) | exact HB.out)) hb);(try clear hb);(try clear hb2);(try clear hk);(try clear hi);obtain ⟨hcz30_0,hcz30_1,hcz30_2,hcz30_3,hcz30_4⟩ := cO5 BK495.out) | (go_at_call 63;(with_reducible refine (q4_Out.calls k _ _ l0_0 a0_1 _ _ l0_2 a0_3 a0_4 t496 t497 t500 _ ?side1 ?side2 ?side3 ?side4 A4.out).mono ?_);(case side1 => repeat (first | exact (kC HR0_0.out HB.out) | (with_reducible refine Kd.C_alloc ?_ _) | (with_reducible refine Kd.C_drewN ?_ _) | (with_reducible refine Kd.C_drew ?_)));(case side2 => exact HC0_0.out);(case side3 => repeat (first | exact (kC HR0_2.out HB.out) | (with_reducible refine Kd.C_alloc ?_ _) | (with_reducible refine Kd.C_drewN ?_ _) | (with_reducible refine Kd.C_drew ?_)));(case side4 => exact HC0_2.out);rintro e w31 ⟨v498,rfl,ho0,hb⟩;have HO499 := am (Kd.R_lower ho0 (below_size (by repeat (first | (with_reducible first | exact HB.out | refine below_set ?_ GE495.out | apply below_alloc | apply pw_below_drewN) | exact HB.out))));replace BK495 := (kmv hb BK495);replace HB := am (below_step (by repeat (first | (with_reducible first | exact HB.out | refine below_set ?_ GE495.out | apply below_alloc | apply pw_below_drewN) | exact HB.out)) hb);(try clear hb);(try clear hb2);(try clear hk);(try clear hi);(try clear ho0);obtain ⟨hcz32_0,hcz32_1,hcz32_2,hcz32_3,hcz32_4⟩ := cO5 BK495.out) | (go_at_call 64;(with_reducible refine (q4_Total.calls k _ _ l0_0 a0_1 _ _ l0_2 a0_3 a0_4 t496 t501 _ ?side1 ?side2 ?side3 ?side4 A5.out).mono ?_);(case side1 => repeat (first | exact (kC HR0_0.out HB.out) | (with_reducible refine Kd.C_alloc ?_ _) | (with_reducible refine Kd.C_drewN ?_ _) | (with_reducible refine Kd.C_drew ?_)));(case side2 => exact HC0_0.out);(case side3 => repeat (first | exact (kC HR0_2.out HB.out) | (with_reducible refine Kd.C_alloc ?_ _) | (with_reducible refine Kd.C_drewN ?_ _) | (with_reducible refine Kd.C_drew ?_)));(case side4 => exact HC0_2.out);rintro e w33 ⟨rfl,hb⟩;replace HO499 := am (Kd.R_below HO499.out hb);replace BK495 := (kmv hb BK495);replace HB := am (below_step (by repeat (first | (with_reducible first | exact HB.out | refine below_set ?_ GE495.out | apply below_alloc | apply pw_below_drewN) | exact HB.out)) hb);(try clear hb);(try clear hb2);(try clear hk);(try clear hi))))
  go_ret2
  exact ⟨_,by first | rfl | (simp [*] <;> rfl),by (with_reducible repeat (first | apply Kd.R_alloc | apply Kd.R_drewN | apply Kd.R_drew));exact HO499.out,HB.out⟩
 rw [if_pos c6] at H
 have c6b0 : decide (t496 < 40) = true := decide_eq_true c6
 clear c6
 replace H := obm H
 obtain ⟨⟨t502,t505⟩,A70,H⟩ := H
 replace H : (q4_Shares.l0 k t497 t500 (wrap64 (a1 - t501)) t502 0) = some (r1,r2) := H
 have A7 := am A70
 clear A70
 replace H' := am H
 go_enter Tryz.func19,Tryz.ntmps19
 go_wp2_with (first | ((refine gate_dst (N := 2) rfl ?_);refine box_event rfl (N := 2) rfl (cs := #[.slice A0_0 l0_0.length c0_0,.int .i64 a0_1,.slice A0_2 l0_2.length c0_2,.int .i64 a0_3,.int .i64 a0_4]) (t := 27) ?hr ?_;(case hr => go_simp;try rfl);intro gb495 hg w8 hbox hb;have BK495 := am (hbox);have GW495 := am (ge_new (HB.out) hg);have GE495 := am (ge_new (HB.out) hg);replace HB := am (below_step (HB.out) hb);clear hb hbox hg;obtain ⟨hcz9_0,hcz9_1,hcz9_2,hcz9_3,hcz9_4⟩ := cO5 BK495.out) | (go_at_call 28;(with_reducible refine (q4_Stands.calls k _ _ l0_0 a0_1 _ _ l0_2 a0_3 a0_4 a1 t496 _ ?side1 ?side2 ?side3 ?side4 A3.out).mono ?_);(case side1 => exact kC HR0_0.out HB.out);(case side2 => exact HC0_0.out);(case side3 => exact kC HR0_2.out HB.out);(case side4 => exact HC0_2.out);rintro e w10 ⟨rfl,hb⟩;replace BK495 := (kmv hb BK495);replace HB := am (below_step (HB.out) hb);(try clear hb);(try clear hb2);(try clear hk);(try clear hi);obtain ⟨hcz11_0,hcz11_1,hcz11_2,hcz11_3,hcz11_4⟩ := cO5 BK495.out) | (go_at_call 63;(with_reducible refine (q4_Out.calls k _ _ l0_0 a0_1 _ _ l0_2 a0_3 a0_4 t496 t497 t500 _ ?side1 ?side2 ?side3 ?side4 A4.out).mono ?_);(case side1 => exact kC HR0_0.out HB.out);(case side2 => exact HC0_0.out);(case side3 => exact kC HR0_2.out HB.out);(case side4 => exact HC0_2.out);rintro e w12 ⟨v498,rfl,ho0,hb⟩;have HO499 := am (Kd.R_lower ho0 (below_size (HB.out)));replace BK495 := (kmv hb BK495);replace HB := am (below_step (HB.out) hb);(try clear hb);(try clear hb2);(try clear hk);(try clear hi);(try clear ho0);obtain ⟨hcz13_0,hcz13_1,hcz13_2,hcz13_3,hcz13_4⟩ := cO5 BK495.out) | (go_at_call 64;(with_reducible refine (q4_Total.calls k _ _ l0_0 a0_1 _ _ l0_2 a0_3 a0_4 t496 t501 _ ?side1 ?side2 ?side3 ?side4 A5.out).mono ?_);(case side1 => exact kC HR0_0.out HB.out);(case side2 => exact HC0_0.out);(case side3 => exact kC HR0_2.out HB.out);(case side4 => exact HC0_2.out);rintro e w14 ⟨rfl,hb⟩;replace HO499 := am (Kd.R_below HO499.out hb);replace BK495 := (kmv hb BK495);replace HB := am (below_step (HB.out) hb);(try clear hb);(try clear hb2);(try clear hk);(try clear hi);obtain ⟨hcz15_0,hcz15_1,hcz15_2,hcz15_3,hcz15_4⟩ := cO5 BK495.out) | (go_at_call 63;(with_reducible refine (q4_Out.calls k _ _ l0_0 a0_1 _ _ l0_2 a0_3 a0_4 (wrap64 (t496 + 1)) t502 t505 _ ?side1 ?side2 ?side3 ?side4 A7.out).mono ?_);(case side1 => exact kC HR0_0.out HB.out);(case side2 => exact HC0_0.out);(case side3 => exact kC HR0_2.out HB.out);(case side4 => exact HC0_2.out);rintro e w16 ⟨v503,rfl,ho0,hb⟩;have HO504 := am (Kd.R_lower (Kd.R_new' ho0 (Kd.R_lt HO499.out)) (below_size (HB.out)));replace HO499 := am (Kd.R_elder' HO499.out (Kd.R_base ho0) hb);replace BK495 := (kmv hb BK495);replace HB := am (below_step (HB.out) hb);(try clear hb);(try clear hb2);(try clear hk);(try clear hi);(try clear ho0)))
 repeat (go_quiet (first | ((refine gate_dst (N := 2) rfl ?_);refine box_event rfl (N := 2) rfl (cs := #[.slice A0_0 l0_0.length c0_0,.int .i64 a0_1,.slice A0_2 l0_2.length c0_2,.int .i64 a0_3,.int .i64 a0_4]) (t := 27) ?hr ?_;(case hr => go_simp;try rfl);intro gb495 hg w8 hbox hb;have BK495 := am (hbox);have GW495 := am (ge_new (by repeat (first | (with_reducible first | exact HB.out | apply below_alloc | apply pw_below_drewN) | exact HB.out)) hg);have GE495 := am (ge_new (by repeat (first | (with_reducible first | exact HB.out | apply below_alloc | apply pw_below_drewN) | exact HB.out)) hg);replace HB := am (below_step (by repeat (first | (with_reducible first | exact HB.out | apply below_alloc | apply pw_below_drewN) | exact HB.out)) hb);clear hb hbox hg;obtain ⟨hcz9_0,hcz9_1,hcz9_2,hcz9_3,hcz9_4⟩ := cO5 BK495.out) | (go_at_call 28;(with_reducible refine (q4_Stands.calls k _ _ l0_0 a0_1 _ _ l0_2 a0_3 a0_4 a1 t496 _ ?side1 ?side2 ?side3 ?side4 A3.out).mono ?_);(case side1 => repeat (first | exact (kC HR0_0.out HB.out) | (with_reducible refine Kd.C_alloc ?_ _) | (with_reducible refine Kd.C_drewN ?_ _) | (with_reducible refine Kd.C_drew ?_)));(case side2 => exact HC0_0.out);(case side3 => repeat (first | exact (kC HR0_2.out HB.out) | (with_reducible refine Kd.C_alloc ?_ _) | (with_reducible refine Kd.C_drewN ?_ _) | (with_reducible refine Kd.C_drew ?_)));(case side4 => exact HC0_2.out);rintro e w10 ⟨rfl,hb⟩;replace BK495 := (kmv hb BK495);replace HB := am (below_step (by repeat (first | (with_reducible first | exact HB.out | refine below_set ?_ GE495.out | apply below_alloc | apply pw_below_drewN) | exact HB.out)) hb);(try clear hb);(try clear hb2);(try clear hk);(try clear hi);obtain ⟨hcz11_0,hcz11_1,hcz11_2,hcz11_3,hcz11_4⟩ := cO5 BK495.out) | (go_at_call 63;(with_reducible refine (q4_Out.calls k _ _ l0_0 a0_1 _ _ l0_2 a0_3 a0_4 t496 t497 t500 _ ?side1 ?side2 ?side3 ?side4 A4.out).mono ?_);(case side1 => repeat (first | exact (kC HR0_0.out HB.out) | (with_reducible refine Kd.C_alloc ?_ _) | (with_reducible refine Kd.C_drewN ?_ _) | (with_reducible refine Kd.C_drew ?_)));(case side2 => exact HC0_0.out);(case side3 => repeat (first | exact (kC HR0_2.out HB.out) | (with_reducible refine Kd.C_alloc ?_ _) | (with_reducible refine Kd.C_drewN ?_ _) | (with_reducible refine Kd.C_drew ?_)));(case side4 => exact HC0_2.out);rintro e w12 ⟨v498,rfl,ho0,hb⟩;have HO499 := am (Kd.R_lower ho0 (below_size (by repeat (first | (with_reducible first | exact HB.out | refine below_set ?_ GE495.out | apply below_alloc | apply pw_below_drewN) | exact HB.out))));replace BK495 := (kmv hb BK495);replace HB := am (below_step (by repeat (first | (with_reducible first | exact HB.out | refine below_set ?_ GE495.out | apply below_alloc | apply pw_below_drewN) | exact HB.out)) hb);(try clear hb);(try clear hb2);(try clear hk);(try clear hi);(try clear ho0);obtain ⟨hcz13_0,hcz13_1,hcz13_2,hcz13_3,hcz13_4⟩ := cO5 BK495.out) | (go_at_call 64;(with_reducible refine (q4_Total.calls k _ _ l0_0 a0_1 _ _ l0_2 a0_3 a0_4 t496 t501 _ ?side1 ?side2 ?side3 ?side4 A5.out).mono ?_);(case side1 => repeat (first | exact (kC HR0_0.out HB.out) | (with_reducible refine Kd.C_alloc ?_ _) | (with_reducible refine Kd.C_drewN ?_ _) | (with_reducible refine Kd.C_drew ?_)));(case side2 => exact HC0_0.out);(case side3 => repeat (first | exact (kC HR0_2.out HB.out) | (with_reducible refine Kd.C_alloc ?_ _) | (with_reducible refine Kd.C_drewN ?_ _) | (with_reducible refine Kd.C_drew ?_)));(case side4 => exact HC0_2.out);rintro e w14 ⟨rfl,hb⟩;replace HO499 := am (Kd.R_below HO499.out hb);replace BK495 := (kmv hb BK495);replace HB := am (below_step (by repeat (first | (with_reducible first | exact HB.out | refine below_set ?_ GE495.out | apply below_alloc | apply pw_below_drewN) | exact HB.out)) hb);(try clear hb);(try clear hb2);(try clear hk);(try clear hi);obtain ⟨hcz15_0,hcz15_1,hcz15_2,hcz15_3,hcz15_4⟩ := cO5 BK495.out) | (go_at_call 63;(with_reducible refine (q4_Out.calls k _ _ l0_0 a0_1 _ _ l0_2 a0_3 a0_4 (wrap64 (t496 + 1)) t502 t505 _ ?side1 ?side2 ?side3 ?side4 A7.out).mono ?_);(case side1 => repeat (first | exact (kC HR0_0.out HB.out) | (with_reducible refine Kd.C_alloc ?_ _) | (with_reducible refine Kd.C_drewN ?_ _) | (with_reducible refine Kd.C_drew ?_)));(case side2 => exact HC0_0.out);(case side3 => repeat (first | exact (kC HR0_2.out HB.out) | (with_reducible refine Kd.C_alloc ?_ _) | (with_reducible refine Kd.C_drewN ?_ _) | (with_reducible refine Kd.C_drew ?_)));(case side4 => exact HC0_2.out);rintro e w16 ⟨v503,rfl,ho0,hb⟩;have HO504 := am (Kd.R_lower (Kd.R_new' ho0 (Kd.R_lt HO499.out)) (below_size (by repeat (first | (with_reducible first | exact HB.out | refine below_set ?_ GE495.out | apply below_alloc | apply pw_below_drewN) | exact HB.out))));replace HO499 := am (Kd.R_elder' HO499.out (Kd.R_base ho0) hb);replace BK495 := (kmv hb BK495);replace HB := am (below_step (by repeat (first | (with_reducible first | exact HB.out | refine below_set ?_ GE495.out | apply below_alloc | apply pw_below_drewN) | exact HB.out)) hb);(try clear hb);(try clear hb2);(try clear hk);(try clear hi);(try clear ho0)));try go_wp2_with (first | ((refine gate_dst (N := 2) rfl ?_);refine box_event rfl (N := 2) rfl (cs := #[.slice A0_0 l0_0.length c0_0,.int .i64 a0_1,.slice A0_2 l0_2.length c0_2,.int .i64 a0_3,.int .i64 a0_4]) (t := 27) ?hr ?_;(case hr => go_simp;try rfl);intro gb495 hg w8 hbox hb;have BK495 := am (hbox);have GW495 := am (ge_new (by repeat (first | (with_reducible first | exact HB.out | apply below_alloc | apply pw_below_drewN) | exact HB.out)) hg);have GE495 := am (ge_new (by repeat (first | (with_reducible first | exact HB.out | apply below_alloc | apply pw_below_drewN) | exact HB.out)) hg);replace HB := am (below_step (by repeat (first | (with_reducible first | exact HB.out | apply below_alloc | apply pw_below_drewN) | exact HB.out)) hb);clear hb hbox hg;obtain ⟨hcz9_0,hcz9_1,hcz9_2,hcz9_3,hcz9_4⟩ := cO5 BK495.out) | (go_at_call 28;(with_reducible refine (q4_Stands.calls k _ _ l0_0 a0_1 _ _ l0_2 a0_3 a0_4 a1 t496 _ ?side1 ?side2 ?side3 ?side4 A3.out).mono ?_);(case side1 => repeat (first | exact (kC HR0_0.out HB.out) | (with_reducible refine Kd.C_alloc ?_ _) | (with_reducible refine Kd.C_drewN ?_ _) | (with_reducible refine Kd.C_drew ?_)));(case side2 => exact HC0_0.out);(case side3 => repeat (first | exact (kC HR0_2.out HB.out) | (with_reducible refine Kd.C_alloc ?_ _) | (with_reducible refine Kd.C_drewN ?_ _) | (with_reducible refine Kd.C_drew ?_)));(case side4 => exact HC0_2.out);rintro e w10 ⟨rfl,hb⟩;replace BK495 := (kmv hb BK495);replace HB := am (below_step (by repeat (first | (with_reducible first | exact HB.out | refine below_set ?_ GE495.out | apply below_alloc | apply pw_below_drewN) | exact HB.out)) hb);(try clear hb);(try clear hb2);(try clear hk);(try clear hi);obtain ⟨hcz11_0,hcz11_1,hcz11_2,hcz11_3,hcz11_4⟩ := cO5 BK495.out) | (go_at_call 63;(with_reducible refine (q4_Out.calls k _ _ l0_0 a0_1 _ _ l0_2 a0_3 a0_4 t496 t497 t500 _ ?side1 ?side2 ?side3 ?side4 A4.out).mono ?_);(case side1 => repeat (first | exact (kC HR0_0.out HB.out) | (with_reducible refine Kd.C_alloc ?_ _) | (with_reducible refine Kd.C_drewN ?_ _) | (with_reducible refine Kd.C_drew ?_)));(case side2 => exact HC0_0.out);(case side3 => repeat (first | exact (kC HR0_2.out HB.out) | (with_reducible refine Kd.C_alloc ?_ _) | (with_reducible refine Kd.C_drewN ?_ _) | (with_reducible refine Kd.C_drew ?_)));(case side4 => exact HC0_2.out);rintro e w12 ⟨v498,rfl,ho0,hb⟩;have HO499 := am (Kd.R_lower ho0 (below_size (by repeat (first | (with_reducible first | exact HB.out | refine below_set ?_ GE495.out | apply below_alloc | apply pw_below_drewN) | exact HB.out))));replace BK495 := (kmv hb BK495);replace HB := am (below_step (by repeat (first | (with_reducible first | exact HB.out | refine below_set ?_ GE495.out | apply below_alloc | apply pw_below_drewN) | exact HB.out)) hb);(try clear hb);(try clear hb2);(try clear hk);(try clear hi);(try clear ho0);obtain ⟨hcz13_0,hcz13_1,hcz13_2,hcz13_3,hcz13_4⟩ := cO5 BK495.out) | (go_at_call 64;(with_reducible refine (q4_Total.calls k _ _ l0_0 a0_1 _ _ l0_2 a0_3 a0_4 t496 t501 _ ?side1 ?side2 ?side3 ?side4 A5.out).mono ?_);(case side1 => repeat (first | exact (kC HR0_0.out HB.out) | (with_reducible refine Kd.C_alloc ?_ _) | (with_reducible refine Kd.C_drewN ?_ _) | (with_reducible refine Kd.C_drew ?_)));(case side2 => exact HC0_0.out);(case side3 => repeat (first | exact (kC HR0_2.out HB.out) | (with_reducible refine Kd.C_alloc ?_ _) | (with_reducible refine Kd.C_drewN ?_ _) | (with_reducible refine Kd.C_drew ?_)));(case side4 => exact HC0_2.out);rintro e w14 ⟨rfl,hb⟩;replace HO499 := am (Kd.R_below HO499.out hb);replace BK495 := (kmv hb BK495);replace HB := am (below_step (by repeat (first | (with_reducible first | exact HB.out | refine below_set ?_ GE495.out | apply below_alloc | apply pw_below_drewN) | exact HB.out)) hb);(try clear hb);(try clear hb2);(try clear hk);(try clear hi);obtain ⟨hcz15_0,hcz15_1,hcz15_2,hcz15_3,hcz15_4⟩ := cO5 BK495.out) | (go_at_call 63;(with_reducible refine (q4_Out.calls k _ _ l0_0 a0_1 _ _ l0_2 a0_3 a0_4 (wrap64 (t496 + 1)) t502 t505 _ ?side1 ?side2 ?side3 ?side4 A7.out).mono ?_);(case side1 => repeat (first | exact (kC HR0_0.out HB.out) | (with_reducible refine Kd.C_alloc ?_ _) | (with_reducible refine Kd.C_drewN ?_ _) | (with_reducible refine Kd.C_drew ?_)));(case side2 => exact HC0_0.out);(case side3 => repeat (first | exact (kC HR0_2.out HB.out) | (with_reducible refine Kd.C_alloc ?_ _) | (with_reducible refine Kd.C_drewN ?_ _) | (with_reducible refine Kd.C_drew ?_)));(case side4 => exact HC0_2.out);rintro e w16 ⟨v503,rfl,ho0,hb⟩;have HO504 := am (Kd.R_lower (Kd.R_new' ho0 (Kd.R_lt HO499.out)) (below_size (by repeat (first | (with_reducible first | exact HB.out | refine below_set ?_ GE495.out | apply below_alloc | apply pw_below_drewN) | exact HB.out))));replace HO499 := am (Kd.R_elder' HO499.out (Kd.R_base ho0) hb);replace BK495 := (kmv hb BK495);replace HB := am (below_step (by repeat (first | (with_reducible first | exact HB.out | refine below_set ?_ GE495.out | apply below_alloc | apply pw_below_drewN) | exact HB.out)) hb);(try clear hb);(try clear hb2);(try clear hk);(try clear hi);(try clear ho0))))
 go_loopg [9,12] k (fun kq v9 v12 w' => ∃ (x7_1 : List Int) (x9_1 : Int) (x12_1 : Int),v9 = .int .i64 x9_1 ∧ v12 = .int .i64 x12_1 ∧ Aside0 (q4_Shares.l0 kq x7_1 t500 x9_1 t502 x12_1 = some (r1,r2)) ∧ Aside0 (kq ≤ k) ∧ Aside0 (Kd.R (Kd.int .i64) 3 w' w.heap.size (fun k_ => some k_ ≠ (v503 : Value).ownBlock) v498 x7_1) ∧ Aside0 (Kd.R (Kd.int .i64) 3 w' w.heap.size (fun k_ => some k_ ≠ (v498 : Value).ownBlock) v503 t502) ∧ Aside0 (w'.heap[gb495]? = some (.cells #[(.slice A0_0 l0_0.length c0_0),.int .i64 a0_1,(.slice A0_2 l0_2.length c0_2),.int .i64 a0_3,.int .i64 a0_4] 27 (0,0))) ∧ Aside0 (Below w.heap.size w w'))
 case atStart => exact ⟨(t497),(wrap64 (a1 - t501)),(0),(by first | rfl | (simp;done) | (simp [*];done)),(by first | rfl | (simp;done) | (simp [*];done)),H',⟨Nat.le_refl _⟩,⟨by (with_reducible repeat (first | apply Kd.R_alloc | apply Kd.R_drewN | apply Kd.R_drew));exact Kd.R_mono HO499.out (fun _ hk => hk.2)⟩,⟨by (with_reducible repeat (first | apply Kd.R_alloc | apply Kd.R_drewN | apply Kd.R_drew));exact Kd.R_mono HO504.out (fun _ hk => hk.2)⟩,⟨BK495.out⟩,⟨HB.out⟩⟩
 case round =>
  clear H'
  obtain ⟨x7_1,x9_1,x12_1,rfl,rfl,HA,HK1,HO_7,HO_10,BK495,HB⟩ := hrel
  cases gk with
  | zero => exact absurd HA.out (by simp [q4_Shares.l0])
  | succ k1 =>
   have H := HA.out
   clear HA
   simp only [q4_Shares.l0] at H
   by_cases c17 : x12_1 < (x7_1.length : Int)
   case neg =>
    rw [if_neg c17] at H
    have c17b0 : decide (x12_1 < (x7_1.length : Int)) = false := decide_eq_false c17
    clear c17
    simp only [Option.some.injEq,Prod.mk.injEq] at H
    obtain ⟨rfl,rfl⟩ := H
    obtain ⟨Ao26,co26,eo26⟩ := Kd.R_slice HO_7.out
    subst eo26
    go_wp2
    repeat (go_quiet (fail);try go_wp2)
    go_ret2
    exact ⟨_,by first | rfl | (simp [*] <;> rfl),by (with_reducible repeat (first | apply Kd.R_alloc | apply Kd.R_drewN | apply Kd.R_drew));exact Kd.R_mono HO_7.out (fun _ hk => trivial),HB.out⟩
   rw [if_pos c17] at H
   have c17b0 : decide (x12_1 < (x7_1.length : Int)) = true := decide_eq_true c17
   clear c17
   by_cases c18 : 0 ≤ x12_1
   case neg =>
    rw [if_neg c18] at H
    exact absurd H (by simp)
   rw [if_pos c18] at H
   have c18b0 : decide (0 ≤ x12_1) = true := decide_eq_true c18
   clear c18
   by_cases c19 : x12_1 < (t502.length : Int)
   case neg =>
    rw [if_neg c19] at H
    exact absurd H (by simp)
   rw [if_pos c19] at H
   have c19b0 : decide (x12_1 < (t502.length : Int)) = true := decide_eq_true c19
   clear c19
   obtain ⟨ji20,hji20⟩ : ∃ j_ : Int,(mn x9_1 (wrap64 ((rd t502 x12_1) - (rd x7_1 x12_1)))) = j_ := ⟨_,rfl⟩
   replace H : (q4_Shares.l0 k1 (x7_1.set (x12_1 : Int).toNat (wrap64 ((rd x7_1 x12_1) + (ji20)))) t500 (wrap64 (x9_1 - (ji20))) t502 (wrap64 (x12_1 + 1))) = some (r1,r2) := by first | (rw [hji20] at H;exact H) | (simp only [hji20] at H ⊢;exact H)
   have hji20_ : (if (wrap64 ((rd t502 x12_1) - (rd x7_1 x12_1))) < x9_1 then (wrap64 ((rd t502 x12_1) - (rd x7_1 x12_1))) else x9_1) = ji20 := hji20
   obtain ⟨y509,hy509⟩ : ∃ y_ : List Int,y_ = (x7_1.set (x12_1 : Int).toNat (wrap64 ((rd x7_1 x12_1) + (ji20)))) := ⟨_,rfl⟩
   replace H : (q4_Shares.l0 k1 y509 t500 (wrap64 (x9_1 - (ji20))) t502 (wrap64 (x12_1 + 1))) = some (r1,r2) := by first | (rw [hy509];with_reducible exact H) | (have H2_ := (Option.bind_some _ _).symm.trans H;rw [hy509];with_reducible exact H2_) | (have H2_ := (Option.bind_some _ _).symm.trans H;with_reducible exact H2_) | with_reducible exact H | (rw [hy509];exact H) | exact H
   have Ny509 := am hy509
   clear hy509
   replace H' := am H
   obtain ⟨Ao22,co22,eo22⟩ := Kd.R_slice HO_7.out
   subst eo22
   obtain ⟨Ao23,co23,eo23⟩ := Kd.R_slice HO_10.out
   subst eo23
   have p506 : 0 ≤ (x12_1 : Int) := of_decide_eq_true (by assumption)
   have q506 : x12_1 < (t502.length : Int) := of_decide_eq_true (by assumption)
   obtain ⟨ad506,e506,hx506_0⟩ := Kd.at_int (Kd.R_reads' HO_10.out).2.2 x12_1 p506 q506
   cases e506
   replace p506 := eq_true p506
   replace q506 := eq_true q506
   have p507 : 0 ≤ (x12_1 : Int) := of_decide_eq_true (by assumption)
   have q507 : x12_1 < (x7_1.length : Int) := of_decide_eq_true (by assumption)
   obtain ⟨ad507,e507,hx507_0⟩ := Kd.at_int (Kd.R_reads' HO_7.out).2.2 x12_1 p507 q507
   cases e507
   replace p507 := eq_true p507
   replace q507 := eq_true q507
   have p508 : 0 ≤ (x12_1 : Int) := of_decide_eq_true (by assumption)
   have q508 : x12_1 < (x7_1.length : Int) := of_decide_eq_true (by assumption)
   obtain ⟨ad508,e508,hx508_0⟩ := Kd.at_int (Kd.R_reads' HO_7.out).2.2 x12_1 p508 q508
   obtain rfl : ad507 = ad508 := (by injection e508)
   replace p508 := eq_true p508
   replace q508 := eq_true q508
   have p21 : 0 ≤ (x12_1 : Int) := of_decide_eq_true (by assumption)
   have q21 : (x12_1 : Int) < ((x7_1.length : Int) : Int) := of_decide_eq_true (by assumption)
   obtain ⟨go21,co21,eo21,gb21,gl21,cl21,HG21⟩ := Kd.R_form HO_7.out (by omega)
   (first | cases eo21 | (injection eo21 with ea_ en_ ec_;(first | subst ea_ | (injection ea_ with ea_;subst ea_));subst ec_;clear en_))
   have GB21 := am gb21
   have GG21 := am HG21
   clear gb21 gl21 HG21
   (first | simp only [add_plain] at hx507_0 | skip)
   (first | simp only [add_plain] at hx508_0 | skip)
   obtain ⟨hx21_0,hf21_0⟩ := Kd.R_celln 0 HO_7.out (x12_1 : Int) p21 q21
   replace p21 := eq_true p21
   replace q21 := eq_true q21
   have HP24 := Kd.R_putg HO_7.out (x12_1 : Int) (wrap64 ((rd x7_1 x12_1) + (ji20)))
   go_wp2_with (first | ((with_reducible refine gate_store (t := 3) (p := 65) rfl ?_);(try (rw [drewN_self wr];generalize hq_ : World.drewN wr _ = wr;have n0_ := am (Kd.R_at hq_ HO_7.out);have n1_ := am (Kd.R_at hq_ HO_10.out);have n2_ := am (blk_at hq_ BK495.out);have n3_ := am (below_at hq_ HB.out);clear hq_ HO_7 HO_10 BK495 HB;have HO_7 := n0_;have HO_10 := n1_;have BK495 := n2_;have HB := n3_;clear n0_ n1_ n2_ n3_;(try (have HP24 := Kd.R_putg HO_7.out (x12_1 : Int) (wrap64 ((rd x7_1 x12_1) + (ji20)))))));refine store_event (t := 3) (p := 65) (v := ?vo_w25) (w1 := (wr.setCell ⟨go21,(x12_1 : Int).toNat,none⟩ (.int .i64 (wrap64 ((rd x7_1 x12_1) + (ji20)))))) ?hg ?ho ?hn ?hr ?_;(case ho => rfl);(case hg => rfl);(case hn => rfl);(case hr => go_simp;try rfl);intro w25 hw;have hg : wr.grownBy w25 (some go21) := (by rw [hw];exact HP24.2);have hp_ : Kd.R (Kd.int .i64) 3 w25 w.heap.size (fun k_ => some k_ ≠ (.slice (some ad506) t502.length co23 : Value).ownBlock) (.slice (some ⟨go21,0,none⟩) x7_1.length co22) y509 := (by rw [hw,Ny509.out];exact HP24.1);clear HP24;have n0_ := am (hp_);have n1_ := am (Kd.R_after (v := (.slice (some ⟨go21,0,none⟩) x7_1.length co22)) (v1 := (.slice (some ⟨go21,0,none⟩) x7_1.length co22)) (ok := (fun _ => True)) (Kd.R_mono HO_10.out (fun _ hk => ⟨trivial,hk⟩)) hg (.inl rfl));have n2_ := am (blk_grown (g := gb495) (o := .cells #[.slice A0_0 l0_0.length c0_0,.int .i64 a0_1,.slice A0_2 l0_2.length c0_2,.int .i64 a0_3,.int .i64 a0_4] 27 (0,0)) BK495.out hg (Kd.R_ne HO_7.out BK495.out (by decide)));have n3_ := am ((by rw [hw];exact below_set (HB.out) GB21.out : Below w.heap.size w w25));clear HO_7;clear HO_10;clear BK495;clear HB;have HO_7 := n0_;have HO_10 := n1_;have BK495 := n2_;have HB := n3_;clear n0_ n1_ n2_ n3_;clear hg hw hp_))
   repeat (go_quiet (first | ((with_reducible refine gate_store (t := 3) (p := 65) rfl ?_);(try (rw [drewN_self wr];generalize hq_ : World.drewN wr _ = wr;have n0_ := am (Kd.R_at hq_ HO_7.out);have n1_ := am (Kd.R_at hq_ HO_10.out);have n2_ := am (blk_at hq_ BK495.out);have n3_ := am (below_at hq_ HB.out);clear hq_ HO_7 HO_10 BK495 HB;have HO_7 := n0_;have HO_10 := n1_;have BK495 := n2_;have HB := n3_;clear n0_ n1_ n2_ n3_;(try (have HP24 := Kd.R_putg HO_7.out (x12_1 : Int) (wrap64 ((rd x7_1 x12_1) + (ji20)))))));refine store_event (t := 3) (p := 65) (v := ?vo_w25) (w1 := (wr.setCell ⟨go21,(x12_1 : Int).toNat,none⟩ (.int .i64 (wrap64 ((rd x7_1 x12_1) + (ji20)))))) ?hg ?ho ?hn ?hr ?_;(case ho => rfl);(case hg => rfl);(case hn => rfl);(case hr => go_simp;try rfl);intro w25 hw;have hg : wr.grownBy w25 (some go21) := (by rw [hw];exact HP24.2);have hp_ : Kd.R (Kd.int .i64) 3 w25 w.heap.size (fun k_ => some k_ ≠ (.slice (some ad506) t502.length co23 : Value).ownBlock) (.slice (some ⟨go21,0,none⟩) x7_1.length co22) y509 := (by rw [hw,Ny509.out];exact HP24.1);clear HP24;have n0_ := am (hp_);have n1_ := am (Kd.R_after (v := (.slice (some ⟨go21,0,none⟩) x7_1.length co22)) (v1 := (.slice (some ⟨go21,0,none⟩) x7_1.length co22)) (ok := (fun _ => True)) (Kd.R_mono HO_10.out (fun _ hk => ⟨trivial,hk⟩)) hg (.inl rfl));have n2_ := am (blk_grown (g := gb495) (o := .cells #[.slice A0_0 l0_0.length c0_0,.int .i64 a0_1,.slice A0_2 l0_2.length c0_2,.int .i64 a0_3,.int .i64 a0_4] 27 (0,0)) BK495.out hg (Kd.R_ne HO_7.out BK495.out (by decide)));have n3_ := am ((by rw [hw];exact below_set (HB.out) GB21.out : Below w.heap.size w w25));clear HO_7;clear HO_10;clear BK495;clear HB;have HO_7 := n0_;have HO_10 := n1_;have BK495 := n2_;have HB := n3_;clear n0_ n1_ n2_ n3_;clear hg hw hp_));try go_wp2_with (first | ((with_reducible refine gate_store (t := 3) (p := 65) rfl ?_);(try (rw [drewN_self wr];generalize hq_ : World.drewN wr _ = wr;have n0_ := am (Kd.R_at hq_ HO_7.out);have n1_ := am (Kd.R_at hq_ HO_10.out);have n2_ := am (blk_at hq_ BK495.out);have n3_ := am (below_at hq_ HB.out);clear hq_ HO_7 HO_10 BK495 HB;have HO_7 := n0_;have HO_10 := n1_;have BK495 := n2_;have HB := n3_;clear n0_ n1_ n2_ n3_;(try (have HP24 := Kd.R_putg HO_7.out (x12_1 : Int) (wrap64 ((rd x7_1 x12_1) + (ji20)))))));refine store_event (t := 3) (p := 65) (v := ?vo_w25) (w1 := (wr.setCell ⟨go21,(x12_1 : Int).toNat,none⟩ (.int .i64 (wrap64 ((rd x7_1 x12_1) + (ji20)))))) ?hg ?ho ?hn ?hr ?_;(case ho => rfl);(case hg => rfl);(case hn => rfl);(case hr => go_simp;try rfl);intro w25 hw;have hg : wr.grownBy w25 (some go21) := (by rw [hw];exact HP24.2);have hp_ : Kd.R (Kd.int .i64) 3 w25 w.heap.size (fun k_ => some k_ ≠ (.slice (some ad506) t502.length co23 : Value).ownBlock) (.slice (some ⟨go21,0,none⟩) x7_1.length co22) y509 := (by rw [hw,Ny509.out];exact HP24.1);clear HP24;have n0_ := am (hp_);have n1_ := am (Kd.R_after (v := (.slice (some ⟨go21,0,none⟩) x7_1.length co22)) (v1 := (.slice (some ⟨go21,0,none⟩) x7_1.length co22)) (ok := (fun _ => True)) (Kd.R_mono HO_10.out (fun _ hk => ⟨trivial,hk⟩)) hg (.inl rfl));have n2_ := am (blk_grown (g := gb495) (o := .cells #[.slice A0_0 l0_0.length c0_0,.int .i64 a0_1,.slice A0_2 l0_2.length c0_2,.int .i64 a0_3,.int .i64 a0_4] 27 (0,0)) BK495.out hg (Kd.R_ne HO_7.out BK495.out (by decide)));have n3_ := am ((by rw [hw];exact below_set (HB.out) GB21.out : Below w.heap.size w w25));clear HO_7;clear HO_10;clear BK495;clear HB;have HO_7 := n0_;have HO_10 := n1_;have BK495 := n2_;have HB := n3_;clear n0_ n1_ n2_ n3_;clear hg hw hp_)))
   go_roundg k1
   case measure => have := HK1.out;omega
   case rel =>
    generalize hq_ : World.drewN wr _ = wq_
    have n0_ := am (Kd.R_at hq_ HO_7.out);have n1_ := am (Kd.R_at hq_ HO_10.out);have n2_ := am (blk_at hq_ BK495.out);have n3_ := am (below_at hq_ HB.out)
    clear HO_7 HO_10 BK495 HB
    have HO_7 := n0_;have HO_10 := n1_;have BK495 := n2_;have HB := n3_
    have HQ_ := Kd.R_putg HO_7.out (x12_1 : Int) (wrap64 ((rd x7_1 x12_1) + (ji20)))
    have hg := HQ_.2
    exact ⟨(y509),(wrap64 (x9_1 - (ji20))),(wrap64 (x12_1 + 1)),(by first | rfl | (simp;done) | (simp only [← hji20] <;> (first | rfl | simp)) | (simp [*];done)),(by first | rfl | (simp;done) | (simp [*];done)),H',⟨by have := HK1.out;omega⟩,⟨by rw [Ny509.out];exact HQ_.1⟩,⟨Kd.R_mono (Kd.R_after (v := (.slice (some ⟨go21,0,none⟩) x7_1.length co22)) (v1 := (.slice (some ⟨go21,0,none⟩) x7_1.length co22)) (ok := (fun _ => True)) (Kd.R_mono HO_10.out (fun _ hk => ⟨trivial,hk⟩)) hg (.inl rfl)) (fun _ hk => hk.2)⟩,⟨blk_grown (g := gb495) (o := .cells #[.slice A0_0 l0_0.length c0_0,.int .i64 a0_1,.slice A0_2 l0_2.length c0_2,.int .i64 a0_3,.int .i64 a0_4] 27 (0,0)) BK495.out hg (Kd.R_ne HO_7.out BK495.out (by decide))⟩,⟨below_set HB.out GB21.out⟩⟩
end
end Go.Proofs.YticlelgmmonloaaGreatDoor.C

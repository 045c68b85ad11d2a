/- A part of the proof: the walks of the functions that it reaches. TIGHT. -/
import Derived.Test.YtnnmnhpeblhiiaaGreatDoorMC10
set_option linter.unusedVariables false
set_option linter.unusedSimpArgs false
namespace Go.Proofs.YtnnmnhpeblhiiaaGreatDoor.C
open Go.RowKit Go.Proofs.YtnnmnhpeblhiiaaGreatDoorW.PrintWords Go.Proofs.YtnnmnhpeblhiiaaGreatDoorW.PrintLast Go.Proofs.YtnnmnhpeblhiiaaGreatDoorW.PrintMore
set_option linter.unusedVariables false
set_option linter.unusedSimpArgs false
set_option maxHeartbeats 16000000
set_option maxRecDepth 100000
section
attribute [local go_sem] max2_int min2_int max_two min_two
mutual
def l4_brief.l0 : Nat → Int → List (S27) → List (S66) → Option (Bool)
 | 0,_,_,_ => none
 | k + 1,x3,x661000,x661001 => if x3 < (x661000.length : Int) then (l4_brief.j1 k x3 (decide (x3 < 6)) x661000 x661001) else (l4_brief.j1 k x3 false x661000 x661001)
def l4_brief.j1 : Nat → Int → Bool → List (S27) → List (S66) → Option (Bool)
 | 0,_,_,_,_ => none
 | k + 1,x3,x12,x661000,x661001 => if x12 = true then (if 0 ≤ x3 then (if x3 < (x661000.length : Int) then ((l4_short.f ((rd_T27 x661000 x3).f0.f0) ((rd_T27 x661000 x3).f0.f1) ((rd_T27 x661000 x3).f1) ((rd_T27 x661000 x3).f2) ((rd_T27 x661000 x3).f3)).bind fun t662 => (if t662 = true then (l4_brief.l0 k (wrap64 (x3 + 1)) x661000 x661001) else (some false))) else (none)) else (none)) else (if (x661000.length : Int) ≤ 6 then (some (decide ((x661001.length : Int) ≤ 6))) else (some false))
end
def l4_brief.f (k : Nat) (l0_0 : List (S27)) (l0_1 : List (S66)) : Option (Bool) := l4_brief.l0 k 0 l0_0 l0_1
theorem l4_brief.calls (k : Nat) (A0_0 : Option Addr) (c0_0 : Nat) (l0_0 : List (S27)) (A0_1 : Option Addr) (c0_1 : Nat) (l0_1 : List (S66)) (r : Bool) (w : World) (hr0_0 : Kd.C k27 w A0_0 l0_0.length l0_0) (hc0_0 : l0_0.length ≤ c0_0) (hr0_1 : Kd.C k66 w A0_1 l0_1.length l0_1) (hc0_1 : l0_1.length ≤ c0_1) (h : l4_brief.f k l0_0 l0_1 = some r) :
 Calls Tryz.prog 30 #[.agg #[.slice A0_0 l0_0.length c0_0,.slice A0_1 l0_1.length c0_1]] w fun e w' => e = .returned (.bool r) ∧ Below w.heap.size w w' := by
 have hu59 := Tryz.underlying59
 have hu27 := Tryz.underlying27
 have HR0_0 := am hr0_0
 have HC0_0 := am hc0_0
 clear hr0_0 hc0_0
 have HR0_1 := am hr0_1
 have HC0_1 := am hc0_1
 clear hr0_1 hc0_1
 have HB := am (Below.refl w.heap.size w)
 have H : (l4_brief.l0 k 0 l0_0 l0_1) = some r := h
 clear h
 replace H' := am H
 go_enter Tryz.func30,Tryz.ntmps30
 go_wp2_with (first | ((refine gate_dst (N := 1) rfl ?_);(try (refine gate_guard (by rfl) ?_;dsimp only));refine box_event rfl (N := 1) rfl (cs := #[.slice A0_0 l0_0.length c0_0,.slice A0_1 l0_1.length c0_1]) (t := 59) ?hr ?_;(case hr => go_simp;try rfl);intro gb660 hg w2 hbox hb;have BK660 := am (hbox);have GW660 := am (ge_new (HB.out) hg);have GE660 := am (ge_new (HB.out) hg);replace HB := am (below_step (HB.out) hb);clear hb hbox hg))
 go_loopg [3] k (fun kq v3 w' => ∃ (x3_1 : Int),v3 = .int .i64 x3_1 ∧ Aside0 (l4_brief.l0 kq x3_1 l0_0 l0_1 = some r) ∧ Aside0 (kq ≤ k) ∧ Aside0 (w'.heap[gb660]? = some (.cells #[(.slice A0_0 l0_0.length c0_0),(.slice A0_1 l0_1.length c0_1)] 59 (0,0))) ∧ Aside0 (Below w.heap.size w w'))
 case atStart => exact ⟨(0),(by first | rfl | (simp;done) | (simp [*];done)),H',⟨Nat.le_refl _⟩,⟨BK660.out⟩,⟨HB.out⟩⟩
 case round =>
  clear H'
  obtain ⟨x3_1,rfl,HA,HK1,BK660,HB⟩ := hrel
  cases gk with
  | zero => exact absurd HA.out (by simp [l4_brief.l0])
  | succ k1 =>
   have H := HA.out
   clear HA
   simp only [l4_brief.l0] at H
   have HC3 := am H
   clear H
   go_upto_region 2 with (fail)
   go_cut [12] (fun v12 wc => ∃ (kq : Nat) (x12_2 : Bool),v12 = .bool x12_2 ∧ Aside0 (l4_brief.j1 kq x3_1 x12_2 l0_0 l0_1 = some r) ∧ Aside0 (kq ≤ k1) ∧ Aside0 (wc.heap[gb660]? = some (.cells #[(.slice A0_0 l0_0.length c0_0),(.slice A0_1 l0_1.length c0_1)] 59 (0,0))) ∧ Aside0 (Below w.heap.size w wc))
   case first =>
    have H := HC3.out
    clear HC3
    by_cases c4 : x3_1 < (l0_0.length : Int)
    · rw [if_pos c4] at H
      have c4b0 : decide (x3_1 < (l0_0.length : Int)) = true := decide_eq_true c4
      clear c4
      (first | rw [c4b0] | (simp only [i64_w,i32_w];rw [c4b0]) | skip)
      replace H' := am H
      obtain ⟨hcz5_0,hcz5_1⟩ := cO2 BK660.out
      go_wp2
      go_meet
      case rel => exact ⟨_,(decide (x3_1 < 6)),(by first | rfl | (simp;done) | (simp [*];done)),H',⟨by have := HK1.out;first | omega | exact Nat.le_refl _⟩,⟨BK660.out⟩,⟨HB.out⟩⟩
    · rw [if_neg c4] at H
      have c4b0 : decide (x3_1 < (l0_0.length : Int)) = false := decide_eq_false c4
      clear c4
      (first | rw [c4b0] | (simp only [i64_w,i32_w];rw [c4b0]) | skip)
      replace H' := am H
      obtain ⟨hcz6_0,hcz6_1⟩ := cO2 BK660.out
      go_wp2
      go_meet
      case rel => exact ⟨_,(false),(by first | rfl | (simp;done) | (simp [*];done)),H',⟨by have := HK1.out;first | omega | exact Nat.le_refl _⟩,⟨BK660.out⟩,⟨HB.out⟩⟩
   case rest =>
    clear HC3
    obtain ⟨kq,x12_2,rfl,HA,HJ2,BK660,HB⟩ := hcut
    cases kq with
    | zero => exact absurd HA.out (by simp [l4_brief.j1])
    | succ kj2 =>
     have H := HA.out
     clear HA
     simp only [l4_brief.j1] at H
     by_cases c7 : x12_2 = true
     case neg =>
      replace c7 := Bool.eq_false_iff.mpr c7
      subst c7
      replace H : (if (l0_0.length : Int) ≤ 6 then (some (decide ((l0_1.length : Int) ≤ 6))) else (some false)) = some r := by rw [if_neg (show ¬ (false = true) by decide)] at H;exact H
      by_cases c16 : (l0_0.length : Int) ≤ 6
      · rw [if_pos c16] at H
        have c16b0 : decide ((l0_0.length : Int) ≤ 6) = true := decide_eq_true c16
        have c16b1 : decide (l0_0.length ≤ 6) = true := decide_eq_true (by omega)
        clear c16
        obtain rfl := Option.some.inj H
        obtain ⟨hcz17_0,hcz17_1⟩ := cO2 BK660.out
        go_wp2
        go_ret
        exact ⟨by first | rfl | (simp [*] <;> rfl),HB.out⟩
      · rw [if_neg c16] at H
        have c16b0 : decide ((l0_0.length : Int) ≤ 6) = false := decide_eq_false c16
        have c16b1 : decide (l0_0.length ≤ 6) = false := decide_eq_false (by omega)
        clear c16
        obtain rfl := Option.some.inj H
        obtain ⟨hcz18_0,hcz18_1⟩ := cO2 BK660.out
        go_wp2
        go_ret
        exact ⟨by first | rfl | (simp [*] <;> rfl),HB.out⟩
     subst c7
     replace H : (if 0 ≤ x3_1 then (if x3_1 < (l0_0.length : Int) then ((l4_short.f ((rd_T27 l0_0 x3_1).f0.f0) ((rd_T27 l0_0 x3_1).f0.f1) ((rd_T27 l0_0 x3_1).f1) ((rd_T27 l0_0 x3_1).f2) ((rd_T27 l0_0 x3_1).f3)).bind fun t662 => (if t662 = true then (l4_brief.l0 kj2 (wrap64 (x3_1 + 1)) l0_0 l0_1) else (some false))) else (none)) else (none)) = some r := by rw [if_pos rfl] at H;exact H
     by_cases c8 : 0 ≤ x3_1
     case neg =>
      rw [if_neg c8] at H
      exact absurd H (by simp)
     rw [if_pos c8] at H
     have c8b0 : decide (0 ≤ x3_1) = true := decide_eq_true c8
     clear c8
     by_cases c9 : x3_1 < (l0_0.length : Int)
     case neg =>
      rw [if_neg c9] at H
      exact absurd H (by simp)
     rw [if_pos c9] at H
     have c9b0 : decide (x3_1 < (l0_0.length : Int)) = true := decide_eq_true c9
     clear c9
     replace H := obm H
     obtain ⟨t662,A100,H⟩ := H
     replace H : (if t662 = true then (l4_brief.l0 kj2 (wrap64 (x3_1 + 1)) l0_0 l0_1) else (some false)) = some r := H
     have A10 := am A100
     clear A100
     by_cases c11 : t662 = true
     · subst c11
       replace H : (l4_brief.l0 kj2 (wrap64 (x3_1 + 1)) l0_0 l0_1) = some r := by rw [if_pos rfl] at H;exact H
       replace H' := am H
       obtain ⟨hcz12_0,hcz12_1⟩ := cO2 BK660.out
       have p661 : 0 ≤ (x3_1 : Int) := of_decide_eq_true (by assumption)
       have q661 : x3_1 < (l0_0.length : Int) := of_decide_eq_true (by assumption)
       obtain ⟨ad661,A661_0,c661_0,A661_2,c661_2,e661,hx661_0,hx661_1,hx661_2,hx661_3,hx661_4,hl661_0,hi661_0,hl661_2,hi661_2⟩ := at_T27 HR0_0.out x3_1 p661 q661
       cases e661
       replace hx661_0 := (HB.out.cell (wbl hx661_0)).trans hx661_0
       replace hx661_1 := (HB.out.cell (wbl hx661_1)).trans hx661_1
       replace hx661_2 := (HB.out.cell (wbl hx661_2)).trans hx661_2
       replace hx661_3 := (HB.out.cell (wbl hx661_3)).trans hx661_3
       replace hx661_4 := (HB.out.cell (wbl hx661_4)).trans hx661_4
       have HR661_0 := am hi661_0
       have HC661_0 := am hl661_0
       clear hi661_0 hl661_0
       have HR661_2 := am hi661_2
       have HC661_2 := am hl661_2
       clear hi661_2 hl661_2
       replace p661 := eq_true p661
       replace q661 := eq_true q661
       go_wp2_with (first | ((with_reducible refine gate_callee (f := 14) rfl ?_);refine goesL_ (some 20) rfl rfl Tryz.func14 (by kernel_rfl) rfl #[.agg #[.slice A661_0 ((rd_T27 l0_0 x3_1).f0.f0).length c661_0,.int .i64 ((rd_T27 l0_0 x3_1).f0.f1),.slice A661_2 ((rd_T27 l0_0 x3_1).f1).length c661_2,.int .i64 ((rd_T27 l0_0 x3_1).f2),.int .i64 ((rd_T27 l0_0 x3_1).f3)]] rfl (by (try simp only [List.map_toArray,List.map_cons,List.map_nil]);first | done | rfl | (simp only [List.length_drop,List.length_take];rfl)) ?_;(with_reducible refine (l4_short.calls _ _ ((rd_T27 l0_0 x3_1).f0.f0) ((rd_T27 l0_0 x3_1).f0.f1) _ _ ((rd_T27 l0_0 x3_1).f1) ((rd_T27 l0_0 x3_1).f2) ((rd_T27 l0_0 x3_1).f3) true _ ?side1 ?side2 ?side3 ?side4 A10.out).mono ?_);(case side1 => exact kC HR661_0.out HB.out);(case side2 => exact HC661_0.out);(case side3 => exact kC HR661_2.out HB.out);(case side4 => exact HC661_2.out);rintro e w13 ⟨rfl,hb⟩;refine ⟨_,rfl,?_⟩;replace BK660 := (kmv hb BK660);replace HB := am (below_step (HB.out) hb);(try clear hb);(try clear hb2);(try clear hk);(try clear hi)))
       go_roundg kj2
       case measure => have := HK1.out;have := HJ2.out;omega
       case rel => exact ⟨(wrap64 (x3_1 + 1)),(by first | rfl | (simp;done) | (simp [*];done)),H',⟨by have := HK1.out;have := HJ2.out;omega⟩,⟨BK660.out⟩,⟨HB.out⟩⟩
     · replace c11 := Bool.eq_false_iff.mpr c11
       subst c11
       replace H : (some false) = some r := by rw [if_neg (show ¬ (false = true) by decide)] at H;exact H
       obtain rfl := Option.some.inj H
       obtain ⟨hcz14_0,hcz14_1⟩ := cO2 BK660.out
       have p661 : 0 ≤ (x3_1 : Int) := of_decide_eq_true (by assumption)
       have q661 : x3_1 < (l0_0.length : Int) := of_decide_eq_true (by assumption)
       obtain ⟨ad661,A661_0,c661_0,A661_2,c661_2,e661,hx661_0,hx661_1,hx661_2,hx661_3,hx661_4,hl661_0,hi661_0,hl661_2,hi661_2⟩ := at_T27 HR0_0.out x3_1 p661 q661
       cases e661
       replace hx661_0 := (HB.out.cell (wbl hx661_0)).trans hx661_0
       replace hx661_1 := (HB.out.cell (wbl hx661_1)).trans hx661_1
       replace hx661_2 := (HB.out.cell (wbl hx661_2)).trans hx661_2
       replace hx661_3 := (HB.out.cell (wbl hx661_3)).trans hx661_3
       replace hx661_4 := (HB.out.cell (wbl hx661_4)).trans hx661_4
       have HR661_0 := am hi661_0
       have HC661_0 := am hl661_0
       clear hi661_0 hl661_0
       have HR661_2 := am hi661_2
       have HC661_2 := am hl661_2
       clear hi661_2 hl661_2
       replace p661 := eq_true p661
       replace q661 := eq_true q661
       go_wp2_with (first | ((with_reducible refine gate_callee (f := 14) rfl ?_);refine goesL_ (some 20) rfl rfl Tryz.func14 (by kernel_rfl) rfl #[.agg #[.slice A661_0 ((rd_T27 l0_0 x3_1).f0.f0).length c661_0,.int .i64 ((rd_T27 l0_0 x3_1).f0.f1),.slice A661_2 ((rd_T27 l0_0 x3_1).f1).length c661_2,.int .i64 ((rd_T27 l0_0 x3_1).f2),.int .i64 ((rd_T27 l0_0 x3_1).f3)]] rfl (by (try simp only [List.map_toArray,List.map_cons,List.map_nil]);first | done | rfl | (simp only [List.length_drop,List.length_take];rfl)) ?_;(with_reducible refine (l4_short.calls _ _ ((rd_T27 l0_0 x3_1).f0.f0) ((rd_T27 l0_0 x3_1).f0.f1) _ _ ((rd_T27 l0_0 x3_1).f1) ((rd_T27 l0_0 x3_1).f2) ((rd_T27 l0_0 x3_1).f3) false _ ?side1 ?side2 ?side3 ?side4 A10.out).mono ?_);(case side1 => exact kC HR661_0.out HB.out);(case side2 => exact HC661_0.out);(case side3 => exact kC HR661_2.out HB.out);(case side4 => exact HC661_2.out);rintro e w15 ⟨rfl,hb⟩;refine ⟨_,rfl,?_⟩;replace BK660 := (kmv hb BK660);replace HB := am (below_step (HB.out) hb);(try clear hb);(try clear hb2);(try clear hk);(try clear hi)))
       go_ret
       exact ⟨by first | rfl | (simp [*] <;> rfl),HB.out⟩
theorem eqA66 (d : Nat) (w : World) (x0 y0 : Int) (x1 y1 : Int) :
 (Op.equalIn (d + 2) 66 (.agg #[.int .i64 x0,.int .i64 x1]) (.agg #[.int .i64 y0,.int .i64 y1])).run Tryz.prog w = .ok (x0 == y0 && (x1 == y1)) w := by
 refine eqA_of Tryz.underlying66 (by kernel_rfl) ?_
 refine eqf_cons (by rfl) (by go_simp;rfl) (by go_simp;rfl) (by go_simp) ?_
 exact eqf_last (by rfl) (by go_simp;rfl) (by go_simp;rfl) (by go_simp)
def q4_Height.f (a0 : Int) : Option (Bool) := (q4_in.f a0 0 40).bind fun t102 => (some t102)
theorem q4_Height.calls (a0 : Int) (r : Bool) (w : World) (h : q4_Height.f a0 = some r) :
 Calls Tryz.prog 39 #[.int .i64 a0] w fun e w' => e = .returned (.bool r) ∧ Drawn0 w w' := by
 have H : ((q4_in.f a0 0 40).bind fun t102 => (some t102)) = some r := h
 clear h
 replace H := obm H
 obtain ⟨t102,A20,H⟩ := H
 replace H : (some t102) = some r := H
 have A2 := am A20
 clear A20
 obtain rfl := Option.some.inj H
 go_enter Tryz.func39,Tryz.ntmps39
 go_wp2_with (first | ((with_reducible refine gate_callee (f := 54) rfl ?_);refine goesL_ (some 4) rfl rfl Tryz.func54 (by kernel_rfl) rfl #[.int .i64 a0,.int .i64 0,.int .i64 40] rfl (by (try simp only [List.map_toArray,List.map_cons,List.map_nil]);first | done | rfl | (simp only [List.length_drop,List.length_take];rfl)) ?_;(with_reducible refine (q4_in.calls a0 0 40 t102 _ A2.out).mono ?_);rintro e w' ⟨rfl,⟨nd,rfl⟩⟩;refine ⟨_,rfl,?_⟩))
 go_ret
 exact ⟨by first | rfl | (simp;done) | (simp [*];done),by repeat (first | exact Drawn0.refl _ | apply Drawn0.step)⟩
def q3_in.f (a0 : Int) (a1 : Int) (a2 : Int) : Option (Bool) := if a0 ≥ a1 then (some (decide (a0 ≤ a2))) else (some false)
theorem q3_in.calls (a0 : Int) (a1 : Int) (a2 : Int) (r : Bool) (w : World) (h : q3_in.f a0 a1 a2 = some r) :
 Calls Tryz.prog 98 #[.int .i64 a0,.int .i64 a1,.int .i64 a2] w fun e w' => e = .returned (.bool r) ∧ Drawn0 w w' := by
 have H : (if a0 ≥ a1 then (some (decide (a0 ≤ a2))) else (some false)) = some r := h
 clear h
 by_cases c4 : a0 ≥ a1
 · rw [if_pos c4] at H
   have c4b0 : decide (a1 ≤ a0) = true := decide_eq_true c4
   clear c4
   obtain rfl := Option.some.inj H
   go_enter Tryz.func98,Tryz.ntmps98
   go_wp2
   go_ret
   exact ⟨by first | rfl | (simp;done) | (simp [*];done),by repeat (first | exact Drawn0.refl _ | apply Drawn0.step)⟩
 · rw [if_neg c4] at H
   have c4b0 : decide (a1 ≤ a0) = false := decide_eq_false c4
   clear c4
   obtain rfl := Option.some.inj H
   go_enter Tryz.func98,Tryz.ntmps98
   go_wp2
   go_ret
   exact ⟨by first | rfl | (simp;done) | (simp [*];done),by repeat (first | exact Drawn0.refl _ | apply Drawn0.step)⟩
def q3_Table.l0 : Nat → Int → List (S126) → Int → Option (Bool)
 | 0,_,_,_ => none
 | k + 1,x3,x104000,x104001 => if x3 < (x104000.length : Int) then (if 0 ≤ x3 then ((q3_in.f ((rd_T126 x104000 x3).f0) 1 60).bind fun t108 => (if t108 = true then ((q3_in.f ((rd_T126 x104000 x3).f1) 1 60).bind fun t109 => (if t109 = true then ((q3_in.f ((rd_T126 x104000 x3).f2) 1 1000).bind fun t110 => (if t110 = true then (q3_Table.l0 k (wrap64 (x3 + 1)) x104000 x104001) else (some false))) else (some false))) else (some false))) else (none)) else ((q3_in.f (x104000.length : Int) 1 12).bind fun t104 => (if t104 = true then ((q3_in.f x104001 0 100).bind fun t105 => (some t105)) else (some false)))
def q3_Table.f (k : Nat) (l0_0 : List (S126)) (a0_1 : Int) : Option (Bool) := q3_Table.l0 k 0 l0_0 a0_1
theorem q3_Table.calls (k : Nat) (A0_0 : Option Addr) (c0_0 : Nat) (l0_0 : List (S126)) (a0_1 : Int) (r : Bool) (w : World) (hr0_0 : Kd.C k126 w A0_0 l0_0.length l0_0) (hc0_0 : l0_0.length ≤ c0_0) (h : q3_Table.f k l0_0 a0_1 = some r) :
 Calls Tryz.prog 55 #[.agg #[.slice A0_0 l0_0.length c0_0,.int .i64 a0_1]] w fun e w' => e = .returned (.bool r) ∧ Below w.heap.size w w' := by
 have hu24 := Tryz.underlying24
 have hu126 := Tryz.underlying126
 have HR0_0 := am hr0_0
 have HC0_0 := am hc0_0
 clear hr0_0 hc0_0
 have HB := am (Below.refl w.heap.size w)
 have H : (q3_Table.l0 k 0 l0_0 a0_1) = some r := h
 clear h
 replace H' := am H
 go_enter Tryz.func55,Tryz.ntmps55
 go_wp2_with (first | ((refine gate_dst (N := 1) rfl ?_);refine box_event rfl (N := 1) rfl (cs := #[.slice A0_0 l0_0.length c0_0,.int .i64 a0_1]) (t := 24) ?hr ?_;(case hr => go_simp;try rfl);intro gb103 hg w2 hbox hb;have BK103 := am (hbox);have GW103 := am (ge_new (HB.out) hg);have GE103 := am (ge_new (HB.out) hg);replace HB := am (below_step (HB.out) hb);clear hb hbox hg))
 go_loopg [3] k (fun kq v3 w' => ∃ (x3_1 : Int),v3 = .int .i64 x3_1 ∧ Aside0 (q3_Table.l0 kq x3_1 l0_0 a0_1 = some r) ∧ Aside0 (kq ≤ k) ∧ Aside0 (w'.heap[gb103]? = some (.cells #[(.slice A0_0 l0_0.length c0_0),.int .i64 a0_1] 24 (0,0))) ∧ Aside0 (Below w.heap.size w w'))
 case atStart => exact ⟨(0),(by first | rfl | (simp;done) | (simp [*];done)),H',⟨Nat.le_refl _⟩,⟨by (with_reducible repeat (first | refine blk_drewN ?_ _ | refine blk_drew ?_ | refine blk_alloc ?_ _));exact BK103.out⟩,⟨HB.out⟩⟩
 case round =>
  clear H'
  obtain ⟨x3_1,rfl,HA,HK1,BK103,HB⟩ := hrel
  cases gk with
  | zero => exact absurd HA.out (by simp [q3_Table.l0])
  | succ k1 =>
   have H := HA.out
   clear HA
   simp only [q3_Table.l0] at H
   by_cases c3 : x3_1 < (l0_0.length : Int)
   case neg =>
    rw [if_neg c3] at H
    have c3b0 : decide (x3_1 < (l0_0.length : Int)) = false := decide_eq_false c3
    clear c3
    replace H := obm H
    obtain ⟨t104,A270,H⟩ := H
    replace H : (if t104 = true then ((q3_in.f a0_1 0 100).bind fun t105 => (some t105)) else (some false)) = some r := H
    have A27 := am A270
    clear A270
    by_cases c28 : t104 = true
    case neg =>
     replace c28 := Bool.eq_false_iff.mpr c28
     subst c28
     replace H : (some false) = some r := by rw [if_neg (show ¬ (false = true) by decide)] at H;exact H
     obtain rfl := Option.some.inj H
     obtain ⟨hcz31_0,hcz31_1⟩ := cO2 BK103.out
     have hfz31_0 := blk_frozen BK103.out 0
     have hfz31_1 := blk_frozen BK103.out 1
     go_wp2_with (first | ((with_reducible refine gate_callee (f := 98) rfl ?_);refine goesL_ (some 36) rfl rfl Tryz.func98 (by kernel_rfl) rfl #[.int .i64 (l0_0.length : Int),.int .i64 1,.int .i64 12] rfl (by (try simp only [List.map_toArray,List.map_cons,List.map_nil]);first | done | rfl | (simp only [List.length_drop,List.length_take];rfl)) ?_;(with_reducible refine (q3_in.calls (l0_0.length : Int) 1 12 false _ A27.out).mono ?_);rintro e w' ⟨rfl,⟨nd,rfl⟩⟩;refine ⟨_,rfl,?_⟩))
     go_ret
     exact ⟨by first | rfl | (simp [*] <;> rfl),pw_below_drewN HB.out _⟩
    subst c28
    replace H : ((q3_in.f a0_1 0 100).bind fun t105 => (some t105)) = some r := by rw [if_pos rfl] at H;exact H
    replace H := obm H
    obtain ⟨t105,A290,H⟩ := H
    replace H : (some t105) = some r := H
    have A29 := am A290
    clear A290
    obtain rfl := Option.some.inj H
    obtain ⟨hcz30_0,hcz30_1⟩ := cO2 BK103.out
    have hfz30_0 := blk_frozen BK103.out 0
    have hfz30_1 := blk_frozen BK103.out 1
    go_wp2_with (first | ((with_reducible refine gate_callee (f := 98) rfl ?_);refine goesL_ (some 36) rfl rfl Tryz.func98 (by kernel_rfl) rfl #[.int .i64 (l0_0.length : Int),.int .i64 1,.int .i64 12] rfl (by (try simp only [List.map_toArray,List.map_cons,List.map_nil]);first | done | rfl | (simp only [List.length_drop,List.length_take];rfl)) ?_;(with_reducible refine (q3_in.calls (l0_0.length : Int) 1 12 true _ A27.out).mono ?_);rintro e w' ⟨rfl,⟨nd,rfl⟩⟩;refine ⟨_,rfl,?_⟩) | (go_at_call 98;(with_reducible refine (q3_in.calls a0_1 0 100 t105 _ A29.out).mono ?_);rintro e w' ⟨rfl,⟨nd,rfl⟩⟩))
    go_ret
    exact ⟨by first | rfl | (simp [*] <;> rfl),pw_below_drewN HB.out _⟩
   rw [if_pos c3] at H
   have c3b0 : decide (x3_1 < (l0_0.length : Int)) = true := decide_eq_true c3
   clear c3
   by_cases c4 : 0 ≤ x3_1
   case neg =>
    rw [if_neg c4] at H
    exact absurd H (by simp)
   rw [if_pos c4] at H
   have c4b0 : decide (0 ≤ x3_1) = true := decide_eq_true c4
   clear c4
   replace H := obm H
   obtain ⟨t108,A50,H⟩ := H
   replace H : (if t108 = true then ((q3_in.f ((rd_T126 l0_0 x3_1).f1) 1 60).bind fun t109 => (if t109 = true then ((q3_in.f ((rd_T126 l0_0 x3_1).f2) 1 1000).bind fun t110 => (if t110 = true then (q3_Table.l0 k1 (wrap64 (x3_1 + 1)) l0_0 a0_1) else (some false))) else (some false))) else (some false)) = some r := H
   have A5 := am A50
   clear A50
   by_cases c6 : t108 = true
   case neg =>
    replace c6 := Bool.eq_false_iff.mpr c6
    subst c6
    replace H : (some false) = some r := by rw [if_neg (show ¬ (false = true) by decide)] at H;exact H
    obtain rfl := Option.some.inj H
    obtain ⟨hcz23_0,hcz23_1⟩ := cO2 BK103.out
    have hfz23_0 := blk_frozen BK103.out 0
    have hfz23_1 := blk_frozen BK103.out 1
    have p106 : 0 ≤ (x3_1 : Int) := of_decide_eq_true (by assumption)
    have q106 : x3_1 < (l0_0.length : Int) := of_decide_eq_true (by assumption)
    obtain ⟨ad106,e106,hx106_0,hx106_1,hx106_2⟩ := at_T126 HR0_0.out x3_1 p106 q106
    cases e106
    replace hx106_0 := (HB.out.cell (wbl hx106_0)).trans hx106_0
    replace hx106_1 := (HB.out.cell (wbl hx106_1)).trans hx106_1
    replace hx106_2 := (HB.out.cell (wbl hx106_2)).trans hx106_2
    replace p106 := eq_true p106
    replace q106 := eq_true q106
    go_wp2_with (first | ((refine gate_dst (N := 4) rfl ?_);refine box_event rfl (N := 4) rfl (cs := #[.int .i64 0,.int .i64 0,.int .i64 0]) (t := 126) ?hr ?_;(case hr => go_simp;try rfl);intro gb107 hg w24 hbox hb;have BK107 := am (hbox);have GW107 := am (ge_new (HB.out) hg);have GE107 := am (ge_new (HB.out) hg);have NB103_107 := am ((by rw [hg];exact Nat.ne_of_lt (blk_lt (g := gb103) (o := .cells #[.slice (some ad106) l0_0.length c0_0,.int .i64 a0_1] 24 (0,0)) (by (with_reducible repeat (first | refine blk_drewN ?_ _ | refine blk_drew ?_ | refine blk_alloc ?_ _));exact BK103.out)) : gb103 ≠ gb107));have NB107_103 := am ((by rw [hg];exact Nat.ne_of_gt (blk_lt (g := gb103) (o := .cells #[.slice (some ad106) l0_0.length c0_0,.int .i64 a0_1] 24 (0,0)) (by (with_reducible repeat (first | refine blk_drewN ?_ _ | refine blk_drew ?_ | refine blk_alloc ?_ _));exact BK103.out)) : gb107 ≠ gb103));replace BK103 := am (blk_below (g := gb103) (o := .cells #[.slice (some ad106) l0_0.length c0_0,.int .i64 a0_1] 24 (0,0)) (by (with_reducible repeat (first | refine blk_drewN ?_ _ | refine blk_drew ?_ | refine blk_alloc ?_ _));exact BK103.out) hb);replace HB := am (below_step (HB.out) hb);clear hb hbox hg;have hnb25 := NB107_103.out;have hnc25 := NB103_107.out;obtain ⟨hcz26_0,hcz26_1,hcz26_2⟩ := cO3 BK107.out;have hfz26_0 := blk_frozen BK107.out 0;have hfz26_1 := blk_frozen BK107.out 1;have hfz26_2 := blk_frozen BK107.out 2) | ((with_reducible refine gate_callee (f := 98) rfl ?_);refine goesL_ (some 19) rfl rfl Tryz.func98 (by kernel_rfl) rfl #[.int .i64 ((rd_T126 l0_0 x3_1).f0),.int .i64 1,.int .i64 60] rfl (by (try simp only [List.map_toArray,List.map_cons,List.map_nil]);first | done | rfl | (simp only [List.length_drop,List.length_take];rfl)) ?_;(with_reducible refine (q3_in.calls ((rd_T126 l0_0 x3_1).f0) 1 60 false _ A5.out).mono ?_);rintro e w' ⟨rfl,⟨nd,rfl⟩⟩;refine ⟨_,rfl,?_⟩))
    go_ret
    exact ⟨by first | rfl | (simp [*] <;> rfl),by repeat (first | (with_reducible first | exact HB.out | refine below_set ?_ (Aside0.out (by assumption)) | apply below_alloc | apply pw_below_drewN) | exact HB.out)⟩
   subst c6
   replace H : ((q3_in.f ((rd_T126 l0_0 x3_1).f1) 1 60).bind fun t109 => (if t109 = true then ((q3_in.f ((rd_T126 l0_0 x3_1).f2) 1 1000).bind fun t110 => (if t110 = true then (q3_Table.l0 k1 (wrap64 (x3_1 + 1)) l0_0 a0_1) else (some false))) else (some false))) = some r := by rw [if_pos rfl] at H;exact H
   replace H := obm H
   obtain ⟨t109,A70,H⟩ := H
   replace H : (if t109 = true then ((q3_in.f ((rd_T126 l0_0 x3_1).f2) 1 1000).bind fun t110 => (if t110 = true then (q3_Table.l0 k1 (wrap64 (x3_1 + 1)) l0_0 a0_1) else (some false))) else (some false)) = some r := H
   have A7 := am A70
   clear A70
   by_cases c8 : t109 = true
   case neg =>
    replace c8 := Bool.eq_false_iff.mpr c8
    subst c8
    replace H : (some false) = some r := by rw [if_neg (show ¬ (false = true) by decide)] at H;exact H
    obtain rfl := Option.some.inj H
    obtain ⟨hcz19_0,hcz19_1⟩ := cO2 BK103.out
    have hfz19_0 := blk_frozen BK103.out 0
    have hfz19_1 := blk_frozen BK103.out 1
    have p106 : 0 ≤ (x3_1 : Int) := of_decide_eq_true (by assumption)
    have q106 : x3_1 < (l0_0.length : Int) := of_decide_eq_true (by assumption)
    obtain ⟨ad106,e106,hx106_0,hx106_1,hx106_2⟩ := at_T126 HR0_0.out x3_1 p106 q106
    cases e106
    replace hx106_0 := (HB.out.cell (wbl hx106_0)).trans hx106_0
    replace hx106_1 := (HB.out.cell (wbl hx106_1)).trans hx106_1
    replace hx106_2 := (HB.out.cell (wbl hx106_2)).trans hx106_2
    replace p106 := eq_true p106
    replace q106 := eq_true q106
    go_wp2_with (first | ((refine gate_dst (N := 4) rfl ?_);refine box_event rfl (N := 4) rfl (cs := #[.int .i64 0,.int .i64 0,.int .i64 0]) (t := 126) ?hr ?_;(case hr => go_simp;try rfl);intro gb107 hg w20 hbox hb;have BK107 := am (hbox);have GW107 := am (ge_new (HB.out) hg);have GE107 := am (ge_new (HB.out) hg);have NB103_107 := am ((by rw [hg];exact Nat.ne_of_lt (blk_lt (g := gb103) (o := .cells #[.slice (some ad106) l0_0.length c0_0,.int .i64 a0_1] 24 (0,0)) (by (with_reducible repeat (first | refine blk_drewN ?_ _ | refine blk_drew ?_ | refine blk_alloc ?_ _));exact BK103.out)) : gb103 ≠ gb107));have NB107_103 := am ((by rw [hg];exact Nat.ne_of_gt (blk_lt (g := gb103) (o := .cells #[.slice (some ad106) l0_0.length c0_0,.int .i64 a0_1] 24 (0,0)) (by (with_reducible repeat (first | refine blk_drewN ?_ _ | refine blk_drew ?_ | refine blk_alloc ?_ _));exact BK103.out)) : gb107 ≠ gb103));replace BK103 := am (blk_below (g := gb103) (o := .cells #[.slice (some ad106) l0_0.length c0_0,.int .i64 a0_1] 24 (0,0)) (by (with_reducible repeat (first | refine blk_drewN ?_ _ | refine blk_drew ?_ | refine blk_alloc ?_ _));exact BK103.out) hb);replace HB := am (below_step (HB.out) hb);clear hb hbox hg;have hnb21 := NB107_103.out;have hnc21 := NB103_107.out;obtain ⟨hcz22_0,hcz22_1,hcz22_2⟩ := cO3 BK107.out;have hfz22_0 := blk_frozen BK107.out 0;have hfz22_1 := blk_frozen BK107.out 1;have hfz22_2 := blk_frozen BK107.out 2) | ((with_reducible refine gate_callee (f := 98) rfl ?_);refine goesL_ (some 19) rfl rfl Tryz.func98 (by kernel_rfl) rfl #[.int .i64 ((rd_T126 l0_0 x3_1).f0),.int .i64 1,.int .i64 60] rfl (by (try simp only [List.map_toArray,List.map_cons,List.map_nil]);first | done | rfl | (simp only [List.length_drop,List.length_take];rfl)) ?_;(with_reducible refine (q3_in.calls ((rd_T126 l0_0 x3_1).f0) 1 60 true _ A5.out).mono ?_);rintro e w' ⟨rfl,⟨nd,rfl⟩⟩;refine ⟨_,rfl,?_⟩) | (go_at_call 98;(with_reducible refine (q3_in.calls ((rd_T126 l0_0 x3_1).f1) 1 60 false _ A7.out).mono ?_);rintro e w' ⟨rfl,⟨nd,rfl⟩⟩))
    go_ret
    exact ⟨by first | rfl | (simp [*] <;> rfl),by repeat (first | (with_reducible first | exact HB.out | refine below_set ?_ (Aside0.out (by assumption)) | apply below_alloc | apply pw_below_drewN) | exact HB.out)⟩
   subst c8
   replace H : ((q3_in.f ((rd_T126 l0_0 x3_1).f2) 1 1000).bind fun t110 => (if t110 = true then (q3_Table.l0 k1 (wrap64 (x3_1 + 1)) l0_0 a0_1) else (some false))) = some r := by rw [if_pos rfl] at H;exact H
   replace H := obm H
   obtain ⟨t110,A90,H⟩ := H
   replace H : (if t110 = true then (q3_Table.l0 k1 (wrap64 (x3_1 + 1)) l0_0 a0_1) else (some false)) = some r := H
   have A9 := am A90
   clear A90
   by_cases c10 : t110 = true
   · subst c10
     replace H : (q3_Table.l0 k1 (wrap64 (x3_1 + 1)) l0_0 a0_1) = some r := by rw [if_pos rfl] at H;exact H
     replace H' := am H
     obtain ⟨hcz11_0,hcz11_1⟩ := cO2 BK103.out
     have hfz11_0 := blk_frozen BK103.out 0
     have hfz11_1 := blk_frozen BK103.out 1
     have p106 : 0 ≤ (x3_1 : Int) := of_decide_eq_true (by assumption)
     have q106 : x3_1 < (l0_0.length : Int) := of_decide_eq_true (by assumption)
     obtain ⟨ad106,e106,hx106_0,hx106_1,hx106_2⟩ := at_T126 HR0_0.out x3_1 p106 q106
     cases e106
     replace hx106_0 := (HB.out.cell (wbl hx106_0)).trans hx106_0
     replace hx106_1 := (HB.out.cell (wbl hx106_1)).trans hx106_1
     replace hx106_2 := (HB.out.cell (wbl hx106_2)).trans hx106_2
     replace p106 := eq_true p106
     replace q106 := eq_true q106
     go_wp2_with (first | ((refine gate_dst (N := 4) rfl ?_);refine box_event rfl (N := 4) rfl (cs := #[.int .i64 0,.int .i64 0,.int .i64 0]) (t := 126) ?hr ?_;(case hr => go_simp;try rfl);intro gb107 hg w12 hbox hb;have BK107 := am (hbox);have GW107 := am (ge_new (HB.out) hg);have GE107 := am (ge_new (HB.out) hg);have NB103_107 := am ((by rw [hg];exact Nat.ne_of_lt (blk_lt (g := gb103) (o := .cells #[.slice (some ad106) l0_0.length c0_0,.int .i64 a0_1] 24 (0,0)) (by (with_reducible repeat (first | refine blk_drewN ?_ _ | refine blk_drew ?_ | refine blk_alloc ?_ _));exact BK103.out)) : gb103 ≠ gb107));have NB107_103 := am ((by rw [hg];exact Nat.ne_of_gt (blk_lt (g := gb103) (o := .cells #[.slice (some ad106) l0_0.length c0_0,.int .i64 a0_1] 24 (0,0)) (by (with_reducible repeat (first | refine blk_drewN ?_ _ | refine blk_drew ?_ | refine blk_alloc ?_ _));exact BK103.out)) : gb107 ≠ gb103));replace BK103 := am (blk_below (g := gb103) (o := .cells #[.slice (some ad106) l0_0.length c0_0,.int .i64 a0_1] 24 (0,0)) (by (with_reducible repeat (first | refine blk_drewN ?_ _ | refine blk_drew ?_ | refine blk_alloc ?_ _));exact BK103.out) hb);replace HB := am (below_step (HB.out) hb);clear hb hbox hg;have hnb13 := NB107_103.out;have hnc13 := NB103_107.out;obtain ⟨hcz14_0,hcz14_1,hcz14_2⟩ := cO3 BK107.out;have hfz14_0 := blk_frozen BK107.out 0;have hfz14_1 := blk_frozen BK107.out 1;have hfz14_2 := blk_frozen BK107.out 2) | ((with_reducible refine gate_callee (f := 98) rfl ?_);refine goesL_ (some 19) rfl rfl Tryz.func98 (by kernel_rfl) rfl #[.int .i64 ((rd_T126 l0_0 x3_1).f0),.int .i64 1,.int .i64 60] rfl (by (try simp only [List.map_toArray,List.map_cons,List.map_nil]);first | done | rfl | (simp only [List.length_drop,List.length_take];rfl)) ?_;(with_reducible refine (q3_in.calls ((rd_T126 l0_0 x3_1).f0) 1 60 true _ A5.out).mono ?_);rintro e w' ⟨rfl,⟨nd,rfl⟩⟩;refine ⟨_,rfl,?_⟩) | (go_at_call 98;(with_reducible refine (q3_in.calls ((rd_T126 l0_0 x3_1).f1) 1 60 true _ A7.out).mono ?_);rintro e w' ⟨rfl,⟨nd,rfl⟩⟩) | (go_at_call 98;(with_reducible refine (q3_in.calls ((rd_T126 l0_0 x3_1).f2) 1 1000 true _ A9.out).mono ?_);rintro e w' ⟨rfl,⟨nd,rfl⟩⟩))
     go_roundg k1
     case measure => have := HK1.out;omega
     case rel => exact ⟨(wrap64 (x3_1 + 1)),(by first | rfl | (simp;done) | (simp [*];done)),H',⟨by have := HK1.out;omega⟩,⟨by (with_reducible repeat (first | refine blk_drewN ?_ _ | refine blk_drew ?_ | refine blk_alloc ?_ _));refine blk_far ?_ NB103_107.out _;(with_reducible repeat (first | refine blk_drewN ?_ _ | refine blk_drew ?_ | refine blk_alloc ?_ _));refine blk_far ?_ NB103_107.out _;(with_reducible repeat (first | refine blk_drewN ?_ _ | refine blk_drew ?_ | refine blk_alloc ?_ _));refine blk_far ?_ NB103_107.out _;(with_reducible repeat (first | refine blk_drewN ?_ _ | refine blk_drew ?_ | refine blk_alloc ?_ _));exact BK103.out⟩,⟨by repeat (first | (with_reducible first | exact HB.out | refine below_set ?_ (Aside0.out (by assumption)) | apply below_alloc | apply pw_below_drewN) | exact HB.out)⟩⟩
   · replace c10 := Bool.eq_false_iff.mpr c10
     subst c10
     replace H : (some false) = some r := by rw [if_neg (show ¬ (false = true) by decide)] at H;exact H
     obtain rfl := Option.some.inj H
     obtain ⟨hcz15_0,hcz15_1⟩ := cO2 BK103.out
     have hfz15_0 := blk_frozen BK103.out 0
     have hfz15_1 := blk_frozen BK103.out 1
     have p106 : 0 ≤ (x3_1 : Int) := of_decide_eq_true (by assumption)
     have q106 : x3_1 < (l0_0.length : Int) := of_decide_eq_true (by assumption)
     obtain ⟨ad106,e106,hx106_0,hx106_1,hx106_2⟩ := at_T126 HR0_0.out x3_1 p106 q106
     cases e106
     replace hx106_0 := (HB.out.cell (wbl hx106_0)).trans hx106_0
     replace hx106_1 := (HB.out.cell (wbl hx106_1)).trans hx106_1
     replace hx106_2 := (HB.out.cell (wbl hx106_2)).trans hx106_2
     replace p106 := eq_true p106
     replace q106 := eq_true q106
     go_wp2_with (first | ((refine gate_dst (N := 4) rfl ?_);refine box_event rfl (N := 4) rfl (cs := #[.int .i64 0,.int .i64 0,.int .i64 0]) (t := 126) ?hr ?_;(case hr => go_simp;try rfl);intro gb107 hg w16 hbox hb;have BK107 := am (hbox);have GW107 := am (ge_new (HB.out) hg);have GE107 := am (ge_new (HB.out) hg);have NB103_107 := am ((by rw [hg];exact Nat.ne_of_lt (blk_lt (g := gb103) (o := .cells #[.slice (some ad106) l0_0.length c0_0,.int .i64 a0_1] 24 (0,0)) (by (with_reducible repeat (first | refine blk_drewN ?_ _ | refine blk_drew ?_ | refine blk_alloc ?_ _));exact BK103.out)) : gb103 ≠ gb107));have NB107_103 := am ((by rw [hg];exact Nat.ne_of_gt (blk_lt (g := gb103) (o := .cells #[.slice (some ad106) l0_0.length c0_0,.int .i64 a0_1] 24 (0,0)) (by (with_reducible repeat (first | refine blk_drewN ?_ _ | refine blk_drew ?_ | refine blk_alloc ?_ _));exact BK103.out)) : gb107 ≠ gb103));replace BK103 := am (blk_below (g := gb103) (o := .cells #[.slice (some ad106) l0_0.length c0_0,.int .i64 a0_1] 24 (0,0)) (by (with_reducible repeat (first | refine blk_drewN ?_ _ | refine blk_drew ?_ | refine blk_alloc ?_ _));exact BK103.out) hb);replace HB := am (below_step (HB.out) hb);clear hb hbox hg;have hnb17 := NB107_103.out;have hnc17 := NB103_107.out;obtain ⟨hcz18_0,hcz18_1,hcz18_2⟩ := cO3 BK107.out;have hfz18_0 := blk_frozen BK107.out 0;have hfz18_1 := blk_frozen BK107.out 1;have hfz18_2 := blk_frozen BK107.out 2) | ((with_reducible refine gate_callee (f := 98) rfl ?_);refine goesL_ (some 19) rfl rfl Tryz.func98 (by kernel_rfl) rfl #[.int .i64 ((rd_T126 l0_0 x3_1).f0),.int .i64 1,.int .i64 60] rfl (by (try simp only [List.map_toArray,List.map_cons,List.map_nil]);first | done | rfl | (simp only [List.length_drop,List.length_take];rfl)) ?_;(with_reducible refine (q3_in.calls ((rd_T126 l0_0 x3_1).f0) 1 60 true _ A5.out).mono ?_);rintro e w' ⟨rfl,⟨nd,rfl⟩⟩;refine ⟨_,rfl,?_⟩) | (go_at_call 98;(with_reducible refine (q3_in.calls ((rd_T126 l0_0 x3_1).f1) 1 60 true _ A7.out).mono ?_);rintro e w' ⟨rfl,⟨nd,rfl⟩⟩) | (go_at_call 98;(with_reducible refine (q3_in.calls ((rd_T126 l0_0 x3_1).f2) 1 1000 false _ A9.out).mono ?_);rintro e w' ⟨rfl,⟨nd,rfl⟩⟩))
     go_ret
     exact ⟨by first | rfl | (simp [*] <;> rfl),by repeat (first | (with_reducible first | exact HB.out | refine below_set ?_ (Aside0.out (by assumption)) | apply below_alloc | apply pw_below_drewN) | exact HB.out)⟩
end
end Go.Proofs.YtnnmnhpeblhiiaaGreatDoor.C

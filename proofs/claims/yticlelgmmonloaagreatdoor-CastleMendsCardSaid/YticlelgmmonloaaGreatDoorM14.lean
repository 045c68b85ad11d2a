/- A part of the proof: the walks of the functions that it reaches. TIGHT. -/
import Derived.Test.YticlelgmmonloaaGreatDoorM13
set_option linter.unusedVariables false
set_option linter.unusedSimpArgs false
namespace Go.Proofs.YticlelgmmonloaaGreatDoor.C
open Go.RowKit Go.Proofs.YticlelgmmonloaaGreatDoorW.PrintWords Go.Proofs.YticlelgmmonloaaGreatDoorW.PrintLast Go.Proofs.YticlelgmmonloaaGreatDoorW.PrintMore
set_option linter.unusedVariables false
set_option linter.unusedSimpArgs false
set_option maxHeartbeats 16000000
set_option maxRecDepth 100000
section
attribute [local go_sem] max2_int min2_int max_two min_two
mutual
def q4_all.l0 : Nat → Int → Int → List (List Int) → Int → List (S126) → Int → List (S64) → Int → Int → Option ((List (List Int)))
 | 0,_,_,_,_,_,_,_,_,_ => none
 | k + 1,x1,x2,x7,x8,x845000,x845001,x845002,x845003,x845004 => if x8 ≤ 2 then (if 0 ≤ x1 then (if x1 < (x845002.length : Int) then ((q4_Height.f (wrap64 (((rd_T64 x845002 x1).f1) + x8))).bind fun t849 => (if t849 = true then ((q4_far.f x8 0).bind fun t850 => (q4_all.j1 k x1 x2 x7 x8 (wrap64 (((rd_T64 x845002 x1).f1) + x8)) (decide (t850 > x2)) x845000 x845001 x845002 x845003 x845004)) else (q4_all.j1 k x1 x2 x7 x8 (wrap64 (((rd_T64 x845002 x1).f1) + x8)) true x845000 x845001 x845002 x845003 x845004))) else (none)) else (none)) else (some x7)
def q4_all.j1 : Nat → Int → Int → List (List Int) → Int → Int → Bool → List (S126) → Int → List (S64) → Int → Int → Option ((List (List Int)))
 | 0,_,_,_,_,_,_,_,_,_,_,_ => none
 | k + 1,x1,x2,x7,x8,x9,x40,x845000,x845001,x845002,x845003,x845004 => if x40 = true then (q4_all.l0 k x1 x2 x7 (wrap64 (x8 + 1)) x845000 x845001 x845002 x845003 x845004) else ((q4_far.f x8 0).bind fun t851 => ((q4_all.f k x845000 x845001 x845002 x845003 x845004 (wrap64 (x1 + 1)) (wrap64 (x2 - t851))).bind fun t852 => (q4_all.l1 k x1 x2 x7 x8 x9 t852 0 x845000 x845001 x845002 x845003 x845004)))
def q4_all.l1 : Nat → Int → Int → List (List Int) → Int → Int → List (List Int) → Int → List (S126) → Int → List (S64) → Int → Int → Option ((List (List Int)))
 | 0,_,_,_,_,_,_,_,_,_,_,_,_ => none
 | k + 1,x1,x2,x7,x8,x9,x10,x11,x845000,x845001,x845002,x845003,x845004 => if x11 < (x10.length : Int) then ((some (([x9] : List Int) : List Int)).bind fun y855 => (if 0 ≤ x11 then (if y855.length + (rd_L3 x10 x11).length < 17592186044416 then (if x7.length < 5864062014805 then (q4_all.l1 k x1 x2 (x7 ++ [(y855 ++ (rd_L3 x10 x11))]) x8 x9 x10 (wrap64 (x11 + 1)) x845000 x845001 x845002 x845003 x845004) else (none)) else (none)) else (none))) else (q4_all.l0 k x1 x2 x7 (wrap64 (x8 + 1)) x845000 x845001 x845002 x845003 x845004)
def q4_all.f : Nat → List (S126) → Int → List (S64) → Int → Int → Int → Int → Option ((List (List Int)))
 | 0,_,_,_,_,_,_,_ => none
 | k + 1,l0_0,a0_1,l0_2,a0_3,a0_4,a1,a2 => if a1 = (l0_2.length : Int) then (if a2 = 0 then (some (([[]] : List (List Int)))) else (some ([] : List (List Int)))) else (q4_all.l0 k a1 a2 ([] : List (List Int)) (-2) l0_0 a0_1 l0_2 a0_3 a0_4)
end
def q4_all.T11 : Bool × List (List Nat × List Nat) := (true,[([],[]),([],[]),([1],[1]),([],[]),([],[]),([4],[4]),([3,5],[3,5]),([0,2,6,5],[0,2,6]),([7,7,0,1,2,3,4,5,6,7],[7])])
def q4_all.B11 : List Nat := [0,0,2,0,0,16,56,127,255]
theorem q4_all.tab11 : rtab .any (opsOf Tryz.f81 11) = q4_all.T11 := by kernel_rfl
theorem q4_all.bits11 : waitsOk q4_all.T11.2 q4_all.B11 = true := by kernel_rfl
theorem q4_all.calls (k : Nat) : ∀ (A0_0 : Option Addr) (c0_0 : Nat) (l0_0 : List (S126)) (a0_1 : Int) (A0_2 : Option Addr) (c0_2 : Nat) (l0_2 : List (S64)) (a0_3 : Int) (a0_4 : Int) (a1 : Int) (a2 : Int) (r : List (List Int)) (w : World) (hr0_0 : Kd.C k126 w A0_0 l0_0.length l0_0) (hc0_0 : l0_0.length ≤ c0_0) (hr0_2 : Kd.C k64 w A0_2 l0_2.length l0_2) (hc0_2 : l0_2.length ≤ c0_2) (h : q4_all.f k l0_0 a0_1 l0_2 a0_3 a0_4 a1 a2 = some r),
 Calls Tryz.prog 81 #[.agg #[.slice A0_0 l0_0.length c0_0,.int .i64 a0_1,.slice A0_2 l0_2.length c0_2,.int .i64 a0_3,.int .i64 a0_4],.int .i64 a1,.int .i64 a2] w fun e w' => ∃ v0_ : Value,e = .returned (v0_) ∧ Kd.S (Kd.slice 3 (Kd.int .i64)) 30 w' w.heap.size (fun _ => True) v0_ r ∧ Below w.heap.size w w' := by
 induction k using Nat.strongRecOn with
 | _ k ih =>
 intro A0_0 c0_0 l0_0 a0_1 A0_2 c0_2 l0_2 a0_3 a0_4 a1 a2 r w hr0_0 hc0_0 hr0_2 hc0_2 h
 cases k with
 | zero => exact absurd h (by simp [q4_all.f])
 | succ k =>
 simp only [q4_all.f] at h
 have hu27 := Tryz.underlying27
 have HR0_0 := am hr0_0
 have HC0_0 := am hc0_0
 clear hr0_0 hc0_0
 have HR0_2 := am hr0_2
 have HC0_2 := am hc0_2
 clear hr0_2 hc0_2
 have HB := am (Below.refl w.heap.size w)
 have H : (if a1 = (l0_2.length : Int) then (if a2 = 0 then (some (([[]] : List (List Int)))) else (some ([] : List (List Int)))) else (q4_all.l0 k a1 a2 ([] : List (List Int)) (-2) l0_0 a0_1 l0_2 a0_3 a0_4)) = some r := h
 clear h
 by_cases c4 : a1 = (l0_2.length : Int)
 · rw [if_pos c4] at H
   have c4b0 : (a1 == (l0_2.length : Int)) = true := beq_iff_eq.mpr c4
   have c4b1 : (a1 != (l0_2.length : Int)) = false := bne_eq_false_iff_eq.mpr c4
   clear c4
   by_cases c5 : a2 = 0
   case neg =>
    rw [if_neg c5] at H
    have c5b0 : (a2 == 0) = false := beq_eq_false_iff_ne.mpr c5
    have c5b1 : (a2 != 0) = true := bne_iff_ne.mpr c5
    obtain rfl := Option.some.inj H
    go_enter Tryz.func81,Tryz.ntmps81
    go_wp2_with (first | ((refine gate_dst (N := 3) rfl ?_);refine box_event rfl (N := 3) rfl (cs := #[.slice A0_0 l0_0.length c0_0,.int .i64 a0_1,.slice A0_2 l0_2.length c0_2,.int .i64 a0_3,.int .i64 a0_4]) (t := 27) ?hr ?_;(case hr => go_simp;try rfl);intro gb844 hg w10 hbox hb;have BK844 := am (hbox);have GW844 := am (ge_new (HB.out) hg);have GE844 := am (ge_new (HB.out) hg);replace HB := am (below_step (HB.out) hb);clear hb hbox hg;obtain ⟨hcz11_0,hcz11_1,hcz11_2,hcz11_3,hcz11_4⟩ := cO5 BK844.out))
    go_ret
    exact ⟨_,by first | rfl | (simp [*] <;> rfl),by first | exact Kd.S_nil _ _ _ _ _ | exact Kd.N_nil _ _ _ _ _ | exact Kd.V_nil _ _ _ _ _ | exact Kd.Q_nil _ _ _ _ _ | exact Kd.R_nil _ _ _ _ _,HB.out⟩
   rw [if_pos c5] at H
   have c5b0 : (a2 == 0) = true := beq_iff_eq.mpr c5
   have c5b1 : (a2 != 0) = false := bne_eq_false_iff_eq.mpr c5
   clear c5
   obtain ⟨y845,hy845⟩ : ∃ y_ : List (List Int),y_ = (([[]] : List (List Int))) := ⟨_,rfl⟩
   replace H : (some y845) = some r := by first | (rw [hy845];with_reducible exact H) | (have H2_ := (Option.bind_some _ _).symm.trans H;rw [hy845];with_reducible exact H2_) | (have H2_ := (Option.bind_some _ _).symm.trans H;with_reducible exact H2_) | with_reducible exact H | (rw [hy845];exact H) | exact H
   have Ny845 := am hy845
   clear hy845
   obtain rfl := Option.some.inj H
   go_enter Tryz.func81,Tryz.ntmps81
   go_wp2_with (first | ((refine gate_dst (N := 3) rfl ?_);refine box_event rfl (N := 3) rfl (cs := #[.slice A0_0 l0_0.length c0_0,.int .i64 a0_1,.slice A0_2 l0_2.length c0_2,.int .i64 a0_3,.int .i64 a0_4]) (t := 27) ?hr ?_;(case hr => go_simp;try rfl);intro gb844 hg w6 hbox hb;have BK844 := am (hbox);have GW844 := am (ge_new (HB.out) hg);have GE844 := am (ge_new (HB.out) hg);replace HB := am (below_step (HB.out) hb);clear hb hbox hg;obtain ⟨hcz7_0,hcz7_1,hcz7_2,hcz7_3,hcz7_4⟩ := cO5 BK844.out) | ((refine gate_dst (N := 19) rfl ?_);refine Kd.S_lit (Kd.slice 3 (Kd.int .i64)) _ 30 ?hg (N := 19) ?hd (xs := ([[]] : List (List Int))) (inner := [.slice none 0 0]) (ok := fun _ => True) (okp := fun _ => True) ?hr ?hp (fun _ hk => hk) trivial (Below.refl _ _) (Nat.le_refl _) (by simp) ?_;(case hd => rfl);(case hg => rfl);(case hr => go_simp;try rfl);(case hp => exact (Reps.one (show Kd.M (Kd.slice 3 (Kd.int .i64)) _ _ _ [] [.slice none 0 0] from ⟨_,rfl,Kd.R_nil _ _ _ _ _⟩) (Reps.none _ _)));intro v846 w8 ho9 hb hg_ hnew_;clear hg_ hnew_;(first | rw [← Ny845.out] at ho9 | (simp only [Int.reduceToNat] at ho9;rw [← Ny845.out] at ho9));have HO847 := am (Kd.S_lower ho9 (below_size (HB.out)));replace BK844 := am (blk_below (g := gb844) (o := .cells #[.slice A0_0 l0_0.length c0_0,.int .i64 a0_1,.slice A0_2 l0_2.length c0_2,.int .i64 a0_3,.int .i64 a0_4] 27 (0,0)) (by (with_reducible repeat (first | refine blk_drewN ?_ _ | refine blk_drew ?_ | refine blk_alloc ?_ _));exact BK844.out) hb);replace HB := am (below_step (HB.out) hb);clear hb ho9))
   go_ret
   exact ⟨_,by first | rfl | (simp [*] <;> rfl),by (with_reducible repeat (first | apply Kd.S_alloc | apply Kd.S_drewN | apply Kd.S_drew));exact HO847.out,HB.out⟩
 · rw [if_neg c4] at H
   have c4b0 : (a1 == (l0_2.length : Int)) = false := beq_eq_false_iff_ne.mpr c4
   have c4b1 : (a1 != (l0_2.length : Int)) = true := bne_iff_ne.mpr c4
   replace H' := am H
   go_enter Tryz.func81,Tryz.ntmps81
   go_wp2_with (first | ((refine gate_dst (N := 3) rfl ?_);refine box_event rfl (N := 3) rfl (cs := #[.slice A0_0 l0_0.length c0_0,.int .i64 a0_1,.slice A0_2 l0_2.length c0_2,.int .i64 a0_3,.int .i64 a0_4]) (t := 27) ?hr ?_;(case hr => go_simp;try rfl);intro gb844 hg w12 hbox hb;have BK844 := am (hbox);have GW844 := am (ge_new (HB.out) hg);have GE844 := am (ge_new (HB.out) hg);replace HB := am (below_step (HB.out) hb);clear hb hbox hg;obtain ⟨hcz13_0,hcz13_1,hcz13_2,hcz13_3,hcz13_4⟩ := cO5 BK844.out))
   go_loopg [7,8] k (fun kq v7 v8 w' => ∃ (x7_1 : List (List Int)) (x8_1 : Int),v8 = .int .i64 x8_1 ∧ Aside0 (q4_all.l0 kq a1 a2 x7_1 x8_1 l0_0 a0_1 l0_2 a0_3 a0_4 = some r) ∧ Aside0 (kq ≤ k) ∧ Aside0 (Kd.S (Kd.slice 3 (Kd.int .i64)) 30 w' w.heap.size (fun _ => True) v7 x7_1) ∧ Aside0 (w'.heap[gb844]? = some (.cells #[(.slice A0_0 l0_0.length c0_0),.int .i64 a0_1,(.slice A0_2 l0_2.length c0_2),.int .i64 a0_3,.int .i64 a0_4] 27 (0,0))) ∧ Aside0 (Below w.heap.size w w'))
   case atStart => exact ⟨(([] : List (List Int))),((-2)),(by first | rfl | (simp;done) | (simp [*];done)),H',⟨Nat.le_refl _⟩,⟨by first | exact Kd.S_nil _ _ _ _ _ | exact Kd.N_nil _ _ _ _ _ | exact Kd.V_nil _ _ _ _ _ | exact Kd.Q_nil _ _ _ _ _ | exact Kd.R_nil _ _ _ _ _⟩,⟨BK844.out⟩,⟨HB.out⟩⟩
   case round =>
    clear H'
    obtain ⟨x7_1,x8_1,rfl,HA,HK1,HO_7,BK844,HB⟩ := hrel
    cases gk with
    | zero => exact absurd HA.out (by simp [q4_all.l0])
    | succ k1 =>
     have H := HA.out
     clear HA
     simp only [q4_all.l0] at H
     by_cases c14 : x8_1 ≤ 2
     case neg =>
      rw [if_neg c14] at H
      have c14b0 : decide (x8_1 ≤ 2) = false := decide_eq_false c14
      clear c14
      obtain rfl := Option.some.inj H
      go_wp2
      go_ret
      exact ⟨_,by first | rfl | (simp [*] <;> rfl),by (with_reducible repeat (first | apply Kd.S_alloc | apply Kd.S_drewN | apply Kd.S_drew));exact HO_7.out,HB.out⟩
     rw [if_pos c14] at H
     have c14b0 : decide (x8_1 ≤ 2) = true := decide_eq_true c14
     clear c14
     by_cases c15 : 0 ≤ a1
     case neg =>
      rw [if_neg c15] at H
      exact absurd H (by simp)
     rw [if_pos c15] at H
     have c15b0 : decide (0 ≤ a1) = true := decide_eq_true c15
     clear c15
     by_cases c16 : a1 < (l0_2.length : Int)
     case neg =>
      rw [if_neg c16] at H
      exact absurd H (by simp)
     rw [if_pos c16] at H
     have c16b0 : decide (a1 < (l0_2.length : Int)) = true := decide_eq_true c16
     clear c16
     have HC17 := am H
     clear H
     obtain ⟨hcz18_0,hcz18_1,hcz18_2,hcz18_3,hcz18_4⟩ := cO5 BK844.out
     have p848 : 0 ≤ (a1 : Int) := of_decide_eq_true (by assumption)
     have q848 : a1 < (l0_2.length : Int) := of_decide_eq_true (by assumption)
     obtain ⟨ad848,e848,hx848_0,hx848_1⟩ := at_T64 HR0_2.out a1 p848 q848
     cases e848
     replace hx848_0 := (HB.out.cell (wbl hx848_0)).trans hx848_0
     replace hx848_1 := (HB.out.cell (wbl hx848_1)).trans hx848_1
     replace p848 := eq_true p848
     replace q848 := eq_true q848
     go_upto_region 10 with (fail)
     go_cut [40] (fun v40 wc => ∃ (kq : Nat) (x40_16 : Bool),v40 = .bool x40_16 ∧ Aside0 (q4_all.j1 kq a1 a2 x7_1 x8_1 (wrap64 (((rd_T64 l0_2 a1).f1) + x8_1)) x40_16 l0_0 a0_1 l0_2 a0_3 a0_4 = some r) ∧ Aside0 (kq ≤ k1) ∧ Aside0 (Kd.S (Kd.slice 3 (Kd.int .i64)) 30 wc w.heap.size (fun _ => True) u7 x7_1) ∧ Aside0 (wc.heap[gb844]? = some (.cells #[(.slice A0_0 l0_0.length c0_0),.int .i64 a0_1,(.slice (some ad848) l0_2.length c0_2),.int .i64 a0_3,.int .i64 a0_4] 27 (0,0))) ∧ Aside0 (Below w.heap.size w wc))
     case first =>
      have H := HC17.out
      clear HC17
      replace H := obm H
      obtain ⟨t849,A190,H⟩ := H
      replace H : (if t849 = true then ((q4_far.f x8_1 0).bind fun t850 => (q4_all.j1 k1 a1 a2 x7_1 x8_1 (wrap64 (((rd_T64 l0_2 a1).f1) + x8_1)) (decide (t850 > a2)) l0_0 a0_1 l0_2 a0_3 a0_4)) else (q4_all.j1 k1 a1 a2 x7_1 x8_1 (wrap64 (((rd_T64 l0_2 a1).f1) + x8_1)) true l0_0 a0_1 l0_2 a0_3 a0_4)) = some r := H
      have A19 := am A190
      clear A190
      by_cases c20 : t849 = true
      case neg =>
       replace c20 := Bool.eq_false_iff.mpr c20
       subst c20
       replace H : (q4_all.j1 k1 a1 a2 x7_1 x8_1 (wrap64 (((rd_T64 l0_2 a1).f1) + x8_1)) true l0_0 a0_1 l0_2 a0_3 a0_4) = some r := by rw [if_neg (show ¬ (false = true) by decide)] at H;exact H
       replace H' := am H
       go_wp2_with (first | ((with_reducible refine gate_callee (f := 21) rfl ?_);refine goesL_ (some 33) rfl rfl Tryz.func21 (by kernel_rfl) rfl #[.int .i64 (wrap64 (((rd_T64 l0_2 a1).f1) + x8_1))] rfl (by (try simp only [List.map_toArray,List.map_cons,List.map_nil]);first | done | rfl | (simp only [List.length_drop,List.length_take];rfl)) ?_;(with_reducible refine (q4_Height.calls (wrap64 (((rd_T64 l0_2 a1).f1) + x8_1)) false _ A19.out).mono ?_);rintro e w' ⟨rfl,⟨nd,rfl⟩⟩;refine ⟨_,rfl,?_⟩))
       go_meet
       case rel => exact ⟨_,(true),(by first | rfl | (simp;done) | (simp [*];done)),H',⟨by have := HK1.out;first | omega | exact Nat.le_refl _⟩,⟨by (with_reducible repeat (first | apply Kd.S_alloc | apply Kd.S_drewN | apply Kd.S_drew));exact HO_7.out⟩,⟨BK844.out⟩,⟨pw_below_drewN HB.out _⟩⟩
      subst c20
      replace H : ((q4_far.f x8_1 0).bind fun t850 => (q4_all.j1 k1 a1 a2 x7_1 x8_1 (wrap64 (((rd_T64 l0_2 a1).f1) + x8_1)) (decide (t850 > a2)) l0_0 a0_1 l0_2 a0_3 a0_4)) = some r := by rw [if_pos rfl] at H;exact H
      replace H := obm H
      obtain ⟨t850,A210,H⟩ := H
      replace H : (q4_all.j1 k1 a1 a2 x7_1 x8_1 (wrap64 (((rd_T64 l0_2 a1).f1) + x8_1)) (decide (t850 > a2)) l0_0 a0_1 l0_2 a0_3 a0_4) = some r := H
      have A21 := am A210
      clear A210
      replace H' := am H
      go_wp2_with (first | ((with_reducible refine gate_callee (f := 21) rfl ?_);refine goesL_ (some 33) rfl rfl Tryz.func21 (by kernel_rfl) rfl #[.int .i64 (wrap64 (((rd_T64 l0_2 a1).f1) + x8_1))] rfl (by (try simp only [List.map_toArray,List.map_cons,List.map_nil]);first | done | rfl | (simp only [List.length_drop,List.length_take];rfl)) ?_;(with_reducible refine (q4_Height.calls (wrap64 (((rd_T64 l0_2 a1).f1) + x8_1)) true _ A19.out).mono ?_);rintro e w' ⟨rfl,⟨nd,rfl⟩⟩;refine ⟨_,rfl,?_⟩) | (go_at_call 82;(with_reducible refine (q4_far.calls x8_1 0 t850 _ A21.out).mono ?_);rintro e w22 ⟨rfl,hb⟩;replace HO_7 := am (Kd.S_below (by (with_reducible repeat (first | apply Kd.S_alloc | apply Kd.S_drewN | apply Kd.S_drew));exact HO_7.out) hb);replace BK844 := am (blk_below (g := gb844) (o := .cells #[.slice A0_0 l0_0.length c0_0,.int .i64 a0_1,.slice (some ad848) l0_2.length c0_2,.int .i64 a0_3,.int .i64 a0_4] 27 (0,0)) (by (with_reducible repeat (first | refine blk_drewN ?_ _ | refine blk_drew ?_ | refine blk_alloc ?_ _));exact BK844.out) hb);replace HB := am (below_step (pw_below_drewN HB.out _) hb);(try clear hb);(try clear hb2);(try clear hk);(try clear hi)))
      go_meet
      case rel => exact ⟨_,(decide (t850 > a2)),(by first | rfl | (simp;done) | (simp [*];done)),H',⟨by have := HK1.out;first | omega | exact Nat.le_refl _⟩,⟨by (with_reducible repeat (first | apply Kd.S_alloc | apply Kd.S_drewN | apply Kd.S_drew));exact HO_7.out⟩,⟨BK844.out⟩,⟨HB.out⟩⟩
     case rest =>
      clear HC17
      obtain ⟨kq,x40_16,rfl,HA,HJ16,HO_7,BK844,HB⟩ := hcut
      cases kq with
      | zero => exact absurd HA.out (by simp [q4_all.j1])
      | succ kj16 =>
       have H := HA.out
       clear HA
       simp only [q4_all.j1] at H
       by_cases c23 : x40_16 = true
       · subst c23
         replace H : (q4_all.l0 kj16 a1 a2 x7_1 (wrap64 (x8_1 + 1)) l0_0 a0_1 l0_2 a0_3 a0_4) = some r := by rw [if_pos rfl] at H;exact H
         replace H' := am H
         go_wp2
         go_roundg kj16
         case measure => have := HK1.out;have := HJ16.out;omega
         case rel => exact ⟨(x7_1),(wrap64 (x8_1 + 1)),(by first | rfl | (simp;done) | (simp [*];done)),H',⟨by have := HK1.out;have := HJ16.out;omega⟩,⟨by (with_reducible repeat (first | apply Kd.S_alloc | apply Kd.S_drewN | apply Kd.S_drew));exact HO_7.out⟩,⟨BK844.out⟩,⟨HB.out⟩⟩
       · replace c23 := Bool.eq_false_iff.mpr c23
         subst c23
         replace H : ((q4_far.f x8_1 0).bind fun t851 => ((q4_all.f kj16 l0_0 a0_1 l0_2 a0_3 a0_4 (wrap64 (a1 + 1)) (wrap64 (a2 - t851))).bind fun t852 => (q4_all.l1 kj16 a1 a2 x7_1 x8_1 (wrap64 (((rd_T64 l0_2 a1).f1) + x8_1)) t852 0 l0_0 a0_1 l0_2 a0_3 a0_4))) = some r := by rw [if_neg (show ¬ (false = true) by decide)] at H;exact H
         replace H := obm H
         obtain ⟨t851,A240,H⟩ := H
         replace H : ((q4_all.f kj16 l0_0 a0_1 l0_2 a0_3 a0_4 (wrap64 (a1 + 1)) (wrap64 (a2 - t851))).bind fun t852 => (q4_all.l1 kj16 a1 a2 x7_1 x8_1 (wrap64 (((rd_T64 l0_2 a1).f1) + x8_1)) t852 0 l0_0 a0_1 l0_2 a0_3 a0_4)) = some r := H
         have A24 := am A240
         clear A240
         replace H := obm H
         obtain ⟨t852,A250,H⟩ := H
         replace H : (q4_all.l1 kj16 a1 a2 x7_1 x8_1 (wrap64 (((rd_T64 l0_2 a1).f1) + x8_1)) t852 0 l0_0 a0_1 l0_2 a0_3 a0_4) = some r := H
         have A25 := am A250
         clear A250
         replace H' := am H
         try go_wp2
         replace HO_7 := am (Kd.S_drew HO_7.out)
         replace BK844 := am (blk_drew BK844.out)
         replace HB := am (below_drew1 HB.out)
         refine start_ (n := 9) (S := fun w' => w'.cell? ⟨gb844,0,none⟩ = some (.slice A0_0 l0_0.length c0_0) ∧ w'.cell? ⟨gb844,1,none⟩ = some (.int .i64 a0_1) ∧ w'.cell? ⟨gb844,2,none⟩ = some (.slice (some ad848) l0_2.length c0_2) ∧ w'.cell? ⟨gb844,3,none⟩ = some (.int .i64 a0_3) ∧ w'.cell? ⟨gb844,4,none⟩ = some (.int .i64 a0_4)) (ds := []) (ba 9 0) (by kernel_rfl) rfl rfl ⟨(blk_cell BK844.out 0).trans rfl,(blk_cell BK844.out 1).trans rfl,(blk_cell BK844.out 2).trans rfl,(blk_cell BK844.out 3).trans rfl,(blk_cell BK844.out 4).trans rfl⟩ (fun hHeld => ?_);refine with_tabW q4_all.tab11 q4_all.bits11 (fun HT_ HW_ => ?_)
         generalize wc.drew = w26 at HO_7 BK844 HB hHeld ⊢
         refine pure_ (i := 1) (N := some 42) (v := ?_) (a' := ?_) (ba 9 2) rfl rfl (any_of HT_.out (by kernel_rfl)) (fun _ _ _ h => h) (Or.inl ⟨by rfl,?_⟩) ?_ ?_
         rotate_left
         · intro w'
           go_simp
           with_reducible rfl
         rotate_left
         · simp only [Act.put,NRM]
           rfl
         refine pure_ (i := 2) (N := some 43) (v := ?_) (a' := ?_) (ba 9 6) rfl rfl (any_of HT_.out (by kernel_rfl)) (fun _ _ _ h => h) (Or.inl ⟨by rfl,?_⟩) ?_ ?_
         rotate_left
         · intro w'
           go_simp
           with_reducible rfl
         rotate_left
         · simp only [Act.put,NRM]
           rfl
         refine pure_ (i := 3) (N := some 44) (v := ?_) (a' := ?_) (ba 9 14) rfl rfl (any_of HT_.out (by kernel_rfl)) (fun _ _ _ h => h) (Or.inl ⟨by rfl,?_⟩) ?_ ?_
         rotate_left
         · intro w'
           go_simp
           with_reducible rfl
         rotate_left
         · simp only [Act.put,NRM]
           rfl
         refine pure_ (i := 4) (N := some 45) (v := ?_) (a' := ?_) (ba 9 30) rfl rfl (any_of HT_.out (by kernel_rfl)) (fun _ _ _ h => h) (Or.inl ⟨by rfl,?_⟩) ?_ ?_
         rotate_left
         · intro w'
           go_simp
           with_reducible rfl
         rotate_left
         · simp only [Act.put,NRM]
           rfl
         refine take_ (i := 0) (N := some 41) (v := ?_) (a' := ?_) (ba 9 31) rfl rfl (take_ofW HT_.out HW_.out (by kernel_rfl)) (fun _ _ _ h => h) (Or.inl ⟨by rfl,?_⟩) hHeld ?_ ?_
         rotate_left
         · rintro w' ⟨s0,s1,s2,s3,s4⟩
           go_simp
           with_reducible rfl
         rotate_left
         · simp only [Act.put,NRM]
           rfl
         refine one_ (i := 5) (N := some 46) (ba 9 63) rfl rfl (one_of HT_.out (by kernel_rfl)) (by decide) (fun K hK => ?_)
         refine goes_ Tryz.func82 (by kernel_rfl) rfl #[.int .i64 x8_1,.int .i64 0] (by rfl) rfl rfl (by (try simp only [List.map_toArray,List.map_cons,List.map_nil]);first | done | rfl | (simp only [List.length_drop,List.length_take];rfl)) ?_
         with_reducible refine (q4_far.calls x8_1 0 t851 _ A24.out).mono ?_
         rintro e w27 ⟨rfl,hb⟩
         refine ⟨_,rfl,?_⟩
         replace HO_7 := am (Kd.S_below (by (with_reducible repeat (first | apply Kd.S_alloc | apply Kd.S_drewN | apply Kd.S_drew));exact HO_7.out) hb)
         replace BK844 := am (blk_below (g := gb844) (o := .cells #[.slice A0_0 l0_0.length c0_0,.int .i64 a0_1,.slice (some ad848) l0_2.length c0_2,.int .i64 a0_3,.int .i64 a0_4] 27 (0,0)) (by (with_reducible repeat (first | refine blk_drewN ?_ _ | refine blk_drew ?_ | refine blk_alloc ?_ _));exact BK844.out) hb)
         replace HB := am (below_step (HB.out) hb)
         (try clear hb)
         (try clear hb2)
         (try clear hk)
         (try clear hi)
         refine hK.out _ _ ⟨(blk_cell BK844.out 0).trans rfl,(blk_cell BK844.out 1).trans rfl,(blk_cell BK844.out 2).trans rfl,(blk_cell BK844.out 3).trans rfl,(blk_cell BK844.out 4).trans rfl⟩ (fun hHeld => ?_)
         clear hK K
         refine norm_ (a' := ?_) ?_ ?_
         rotate_left
         · show Act.put _ (some 46) _ = _
           simp only [Act.put,NRM]
           rfl
         refine pure_ (i := 6) (N := some 47) (v := ?_) (a' := ?_) (ba 9 127) rfl rfl (any_of HT_.out (by kernel_rfl)) (fun _ _ _ h => h) (Or.inl ⟨by rfl,?_⟩) ?_ ?_
         rotate_left
         · intro w'
           go_simp
           with_reducible rfl
         rotate_left
         · simp only [Act.put,NRM]
           rfl
         refine one_ (i := 7) (N := some 48) (ba 9 255) rfl rfl (one_of HT_.out (by kernel_rfl)) (by decide) (fun K hK => ?_)
         refine goes_ Tryz.func81 (by kernel_rfl) rfl #[.agg #[.slice A0_0 l0_0.length c0_0,.int .i64 a0_1,.slice (some ad848) l0_2.length c0_2,.int .i64 a0_3,.int .i64 a0_4],.int .i64 (wrap64 (a1 + 1)),.int .i64 (wrap64 (a2 - t851))] (by rfl) rfl rfl (by (try simp only [List.map_toArray,List.map_cons,List.map_nil]);first | done | rfl | (simp only [List.length_drop,List.length_take];rfl)) ?_
         with_reducible refine (ih kj16 (by have := HK1.out;have := HJ16.out;omega) _ _ l0_0 a0_1 _ _ l0_2 a0_3 a0_4 (wrap64 (a1 + 1)) (wrap64 (a2 - t851)) t852 _ ?side1 ?side2 ?side3 ?side4 A25.out).mono ?_
         (case side1 => exact kC HR0_0.out HB.out)
         (case side2 => exact HC0_0.out)
         (case side3 => exact kC HR0_2.out HB.out)
         (case side4 => exact HC0_2.out)
         rintro e w28 ⟨v853,rfl,ho0,hb⟩
         refine ⟨_,rfl,?_⟩
         have HO854 := am (Kd.S_lower (Kd.S_new' ho0 (Kd.S_lt (by (with_reducible repeat (first | apply Kd.S_alloc | apply Kd.S_drewN | apply Kd.S_drew));exact HO_7.out))) (below_size (HB.out)))
         replace HO_7 := am (Kd.S_elder' (by (with_reducible repeat (first | apply Kd.S_alloc | apply Kd.S_drewN | apply Kd.S_drew));exact HO_7.out) (Kd.S_base ho0) hb)
         replace BK844 := am (blk_below (g := gb844) (o := .cells #[.slice A0_0 l0_0.length c0_0,.int .i64 a0_1,.slice (some ad848) l0_2.length c0_2,.int .i64 a0_3,.int .i64 a0_4] 27 (0,0)) (by (with_reducible repeat (first | refine blk_drewN ?_ _ | refine blk_drew ?_ | refine blk_alloc ?_ _));exact BK844.out) hb)
         replace HB := am (below_step (HB.out) hb)
         (try clear hb)
         (try clear hb2)
         (try clear hk)
         (try clear hi)
         (try clear ho0)
         refine hK.out _ _ ⟨(blk_cell BK844.out 0).trans rfl,(blk_cell BK844.out 1).trans rfl,(blk_cell BK844.out 2).trans rfl,(blk_cell BK844.out 3).trans rfl,(blk_cell BK844.out 4).trans rfl⟩ (fun hHeld => ?_)
         clear hK K
         refine norm_ (a' := ?_) ?_ ?_
         rotate_left
         · show Act.put _ (some 48) _ = _
           simp only [Act.put,NRM]
           rfl
         refine pure_ (i := 8) (N := some 10) (v := ?_) (a' := ?_) (ba 9 511) rfl rfl (any_of HT_.out (by kernel_rfl)) (fun _ _ _ h => h) (Or.inl ⟨by rfl,?_⟩) ?_ ?_
         rotate_left
         · intro w'
           go_simp
           with_reducible rfl
         rotate_left
         · simp only [Act.put,NRM]
           rfl
         refine done_ (done_of HT_.out (by kernel_rfl)) ?_
         try go_wp2
         go_loopg [7,11] kj16 (fun kq v7 v11 w' => ∃ (x7_3 : List (List Int)) (x11_3 : Int),v11 = .int .i64 x11_3 ∧ Aside0 (q4_all.l1 kq a1 a2 x7_3 x8_1 (wrap64 (((rd_T64 l0_2 a1).f1) + x8_1)) t852 x11_3 l0_0 a0_1 l0_2 a0_3 a0_4 = some r) ∧ Aside0 (kq ≤ kj16) ∧ Aside0 (Kd.S (Kd.slice 3 (Kd.int .i64)) 30 w' w.heap.size (fun k_ => some k_ ≠ (v853 : Value).ownBlock) v7 x7_3) ∧ Aside0 (Kd.S (Kd.slice 3 (Kd.int .i64)) 30 w' w.heap.size (fun k_ => some k_ ≠ (v7 : Value).ownBlock) v853 t852) ∧ Aside0 (w'.heap[gb844]? = some (.cells #[(.slice A0_0 l0_0.length c0_0),.int .i64 a0_1,(.slice (some ad848) l0_2.length c0_2),.int .i64 a0_3,.int .i64 a0_4] 27 (0,0))) ∧ Aside0 (Below w.heap.size w w'))
         case atStart => exact ⟨(x7_1),(0),(by first | rfl | (simp;done) | (simp [*];done)),H',⟨Nat.le_refl _⟩,⟨by (with_reducible repeat (first | apply Kd.S_alloc | apply Kd.S_drewN | apply Kd.S_drew));exact Kd.S_mono HO_7.out (fun _ hk => hk.2)⟩,⟨by (with_reducible repeat (first | apply Kd.S_alloc | apply Kd.S_drewN | apply Kd.S_drew));exact Kd.S_mono HO854.out (fun _ hk => hk.2)⟩,⟨BK844.out⟩,⟨HB.out⟩⟩
         case round =>
          clear H'
          obtain ⟨x7_3,x11_3,rfl,HA,HK3,HO_7,HO_10,BK844,HB⟩ := hrel
          cases gk with
          | zero => exact absurd HA.out (by simp [q4_all.l1])
          | succ k3 =>
           have H := HA.out
           clear HA
           simp only [q4_all.l1] at H
           by_cases c29 : x11_3 < (t852.length : Int)
           case neg =>
            rw [if_neg c29] at H
            have c29b0 : decide (x11_3 < (t852.length : Int)) = false := decide_eq_false c29
            clear c29
            replace H' := am H
            obtain ⟨Ao39,co39,eo39⟩ := Kd.S_slice HO_10.out
            subst eo39
            go_wp2
            go_roundg k3
            case measure => have := HK1.out;have := HJ16.out;have := HK3.out;omega
            case rel => exact ⟨(x7_3),(wrap64 (x8_1 + 1)),(by first | rfl | (simp;done) | (simp [*];done)),H',⟨by have := HK1.out;have := HJ16.out;have := HK3.out;omega⟩,⟨by (with_reducible repeat (first | apply Kd.S_alloc | apply Kd.S_drewN | apply Kd.S_drew));exact Kd.S_mono HO_7.out (fun _ hk => trivial)⟩,⟨BK844.out⟩,⟨HB.out⟩⟩
           rw [if_pos c29] at H
           have c29b0 : decide (x11_3 < (t852.length : Int)) = true := decide_eq_true c29
           clear c29
           obtain ⟨y855,hy855⟩ : ∃ y_ : List Int,y_ = (([(wrap64 (((rd_T64 l0_2 a1).f1) + x8_1))] : List Int)) := ⟨_,rfl⟩
           replace H : (if 0 ≤ x11_3 then (if y855.length + (rd_L3 t852 x11_3).length < 17592186044416 then (if x7_3.length < 5864062014805 then (q4_all.l1 k3 a1 a2 (x7_3 ++ [(y855 ++ (rd_L3 t852 x11_3))]) x8_1 (wrap64 (((rd_T64 l0_2 a1).f1) + x8_1)) t852 (wrap64 (x11_3 + 1)) l0_0 a0_1 l0_2 a0_3 a0_4) else (none)) else (none)) else (none)) = some r := by first | (rw [hy855];with_reducible exact H) | (have H2_ := (Option.bind_some _ _).symm.trans H;rw [hy855];with_reducible exact H2_) | (have H2_ := (Option.bind_some _ _).symm.trans H;with_reducible exact H2_) | with_reducible exact H | (rw [hy855];exact H) | exact H
           have Ny855 := am hy855
           clear hy855
           by_cases c30 : 0 ≤ x11_3
           case neg =>
            rw [if_neg c30] at H
            exact absurd H (by simp)
           rw [if_pos c30] at H
           have c30b0 : decide (0 ≤ x11_3) = true := decide_eq_true c30
           clear c30
           by_cases c31 : y855.length + (rd_L3 t852 x11_3).length < 17592186044416
           case neg =>
            rw [if_neg c31] at H
            exact absurd H (by simp)
           rw [if_pos c31] at H
           have LMc31 := am c31
           clear c31
           obtain ⟨y859,hy859⟩ : ∃ y_ : List Int,y_ = (y855 ++ (rd_L3 t852 x11_3)) := ⟨_,rfl⟩
           replace H : (if x7_3.length < 5864062014805 then (q4_all.l1 k3 a1 a2 (x7_3 ++ [y859]) x8_1 (wrap64 (((rd_T64 l0_2 a1).f1) + x8_1)) t852 (wrap64 (x11_3 + 1)) l0_0 a0_1 l0_2 a0_3 a0_4) else (none)) = some r := by first | (rw [hy859];with_reducible exact H) | (have H2_ := (Option.bind_some _ _).symm.trans H;rw [hy859];with_reducible exact H2_) | (have H2_ := (Option.bind_some _ _).symm.trans H;with_reducible exact H2_) | with_reducible exact H | (rw [hy859];exact H) | exact H
           have Ny859 := am hy859
           clear hy859
           by_cases c32 : x7_3.length < 5864062014805
           case neg =>
            rw [if_neg c32] at H
            exact absurd H (by simp)
           rw [if_pos c32] at H
           have LMc32 := am c32
           clear c32
           obtain ⟨y862,hy862⟩ : ∃ y_ : List (List Int),y_ = (x7_3 ++ [y859]) := ⟨_,rfl⟩
           replace H : (q4_all.l1 k3 a1 a2 y862 x8_1 (wrap64 (((rd_T64 l0_2 a1).f1) + x8_1)) t852 (wrap64 (x11_3 + 1)) l0_0 a0_1 l0_2 a0_3 a0_4) = some r := by first | (rw [hy862];with_reducible exact H) | (have H2_ := (Option.bind_some _ _).symm.trans H;rw [hy862];with_reducible exact H2_) | (have H2_ := (Option.bind_some _ _).symm.trans H;with_reducible exact H2_) | with_reducible exact H | (rw [hy862];exact H) | exact H
           have Ny862 := am hy862
           clear hy862
           replace H' := am H
           obtain ⟨Ao33,co33,eo33⟩ := Kd.S_slice HO_10.out
           subst eo33
           go_wp2_with (first | ((refine gate_dst (N := 57) rfl ?_);refine Kd.R_lit (Kd.int .i64) _ 3 ?hg (N := 57) ?hd (xs := ([(wrap64 (((rd_T64 l0_2 a1).f1) + x8_1))] : List Int)) (inner := [.int .i64 (wrap64 (((rd_T64 l0_2 a1).f1) + x8_1))]) (ok := fun _ => True) (okp := fun _ => True) ?hr ?hp (fun _ hk => hk) trivial (Below.refl _ _) (Nat.le_refl _) (by simp) ?_;(case hd => rfl);(case hg => rfl);(case hr => go_simp;try rfl);(case hp => exact (Reps.one (show Kd.M (Kd.int .i64) _ _ _ (wrap64 (((rd_T64 l0_2 a1).f1) + x8_1)) [.int .i64 (wrap64 (((rd_T64 l0_2 a1).f1) + x8_1))] from rfl) (Reps.none _ _)));intro v856 w34 ho35 hb hg_ hnew_;clear hg_ hnew_;(first | rw [← Ny855.out] at ho35 | (simp only [Int.reduceToNat] at ho35;rw [← Ny855.out] at ho35));have HO857 := am (Kd.R_lower ho35 (below_size (HB.out)));replace HO_7 := am (Kd.S_elder' (by (with_reducible repeat (first | apply Kd.S_alloc | apply Kd.S_drewN | apply Kd.S_drew));exact HO_7.out) (Kd.R_base ho35) hb);replace HO_10 := am (Kd.S_elder' (by (with_reducible repeat (first | apply Kd.S_alloc | apply Kd.S_drewN | apply Kd.S_drew));exact HO_10.out) (Kd.R_base ho35) hb);replace BK844 := am (blk_below (g := gb844) (o := .cells #[.slice A0_0 l0_0.length c0_0,.int .i64 a0_1,.slice (some ad848) l0_2.length c0_2,.int .i64 a0_3,.int .i64 a0_4] 27 (0,0)) (by (with_reducible repeat (first | refine blk_drewN ?_ _ | refine blk_drew ?_ | refine blk_alloc ?_ _));exact BK844.out) hb);replace HB := am (below_step (HB.out) hb);clear hb ho35;have p858 : 0 ≤ (x11_3 : Int) := of_decide_eq_true (by assumption);have q858 : x11_3 < (t852.length : Int) := of_decide_eq_true (by assumption);obtain ⟨ad858,A858_0,c858_0,e858,hx858_0,hl858_0,hi858_0⟩ := at_L3 (Kd.S_reads' HO_10.out).2.2 x11_3 p858 q858;cases e858;obtain ⟨ce858,hce858,hMe858,hcc858⟩ := Kd.S_get HO_10.out [] x11_3 p858 (by first | exact q858 | exact of_decide_eq_true (by assumption) | (have e_ := (Kd.S_reads' HO_10.out).1;omega));obtain ⟨ve858_0,rfl,ge858_0⟩ := hMe858;have hv858_0 := hcc858 0 _ rfl;rw [Nat.add_zero,show ((Kd.slice 3 (Kd.int .i64))).sz = 1 from rfl,Nat.mul_one] at hv858_0;replace hv858_0 := Option.some.inj (hv858_0.symm.trans hx858_0);rw [hv858_0] at ge858_0;have HL858_0 := am (show Kd.R (Kd.int .i64) 3 _ _ _ _ (rd_L3 t852 x11_3) from ge858_0);clear hv858_0 ge858_0;clear hcc858 hce858;have HR858_0 := am hi858_0;have HC858_0 := am hl858_0;clear hi858_0 hl858_0;replace p858 := eq_true p858;replace q858 := eq_true q858) | ((with_reducible refine gate_builtin (b := .append) (xs := #[.tmp 57,.tmp 61]) rfl ?_);at_builtin;refine Kd.R_append_rows (Kd.int .i64) (w0 := w) w.heap.size rfl (.tmp 57) (.tmp 61) 30 3 (.int .i64 0) 8 rfl Tryz.underlying30 info3 rfl (by decide) (by omega) v856 y855 (rd_L3 t852 x11_3) _ _ _ (fun _ => True) (fun _ => False) rfl rfl ?aO ?aR (fun _ _ h => h) (fun _ h => h.elim) ?aF ?aB ?aS ?aL ?_;(case aR => repeat (first | exact (by repeat (first | (with_reducible exact HR858_0.out) | (with_reducible refine Kd.C_alloc ?_ _) | (with_reducible refine Kd.C_drewN ?_ _) | (with_reducible refine Kd.C_drew ?_) | exact HR858_0.out)) | (with_reducible refine Kd.C_alloc ?_ _) | (with_reducible refine Kd.C_drewN ?_ _) | (with_reducible refine Kd.C_drew ?_)));(case aB => exact (HB.out));(case aF => exact (fun _ _ => trivial));(case aO => exact (by (with_reducible repeat (first | apply Kd.R_alloc | apply Kd.R_drewN | apply Kd.R_drew));exact HO857.out));(case aS => exact (below_size (HB.out)));(case aL => have := LMc31.out;omega);intro v860 w36 ho hb hg hat;rw [← Ny859.out] at ho;have n0_ := am (Kd.S_after (ok := (fun k_ => some k_ ≠ (.slice (some ad858) t852.length co33 : Value).ownBlock)) (by (with_reducible repeat (first | apply Kd.S_alloc | apply Kd.S_drewN | apply Kd.S_drew));exact HO_7.out) hg hat);have n1_ := am (Kd.S_after (ok := (fun k_ => some k_ ≠ (u7 : Value).ownBlock)) (by (with_reducible repeat (first | apply Kd.S_alloc | apply Kd.S_drewN | apply Kd.S_drew));exact HO_10.out) hg hat);have n2_ := am (blk_grown (g := gb844) (o := .cells #[.slice A0_0 l0_0.length c0_0,.int .i64 a0_1,.slice (some ad848) l0_2.length c0_2,.int .i64 a0_3,.int .i64 a0_4] 27 (0,0)) (by (with_reducible repeat (first | refine blk_drewN ?_ _ | refine blk_drew ?_ | refine blk_alloc ?_ _));exact BK844.out) hg (Kd.R_ne HO857.out BK844.out (by decide)));have n3_ := am (Kd.R_after (ok := (fun k_ => some k_ ≠ (u7 : Value).ownBlock ∧ some k_ ≠ (.slice (some ad858) t852.length co33 : Value).ownBlock)) (by (with_reducible repeat (first | apply Kd.R_alloc | apply Kd.R_drewN | apply Kd.R_drew));exact Kd.R_mono HL858_0.out (fun _ hk => ⟨⟨hk.1.1,hk.2⟩,hk.1.2⟩)) hg hat);have n4_ := am (hb);have n5_ := am (ho);clear HO_7;clear HO_10;clear BK844;clear HL858_0;clear HB;clear HO857;have HO_7 := n0_;have HO_10 := n1_;have BK844 := n2_;have HL858_0 := n3_;have HB := n4_;have HO861 := n5_;clear n0_ n1_ n2_ n3_ n4_ n5_;clear ho hb hg hat;obtain ⟨Ao38,co38,eo38⟩ := Kd.R_slice HO861.out;subst eo38) | ((with_reducible refine gate_builtin (b := .append) (xs := #[.tmp 55,.tmp 63]) rfl ?_);at_builtin;refine Kd.S_append (Kd.slice 3 (Kd.int .i64)) (w0 := w) w.heap.size rfl (.tmp 55) (.tmp 63) 83 30 (.slice none 0 0) 24 rfl Tryz.underlying83 info30 rfl (by decide) (by omega) u7 x7_3 y859 [.slice Ao38 y859.length co38] (fun k_ => some k_ ≠ (.slice (some ad858) t852.length co33 : Value).ownBlock) (fun k_ => some k_ = (.slice Ao38 y859.length co38 : Value).ownBlock) rfl rfl ?aP (fun k_ hk_ => ((Kd.R_mono (ok' := fun k_ => ((fun k_ => some k_ ≠ (.slice (some ad858) t852.length co33 : Value).ownBlock)) k_ ∧ some k_ ≠ (u7 : Value).ownBlock) (Kd.R_apart' (Kd.R_apart' (HO861.out) (Kd.S_typed HO_10.out) (by decide)) (Kd.S_typed HO_7.out) (by decide)) (fun k_ hk => ⟨hk.1.2,hk.2⟩))).1 k_ hk_.symm) ?aF ?aO ?aB ?aS ?aL ?_;(case aP => exact Kd.M_row (Kd.R_mono (Kd.R_tight rfl (Kd.R_mono (ok' := fun k_ => ((fun k_ => some k_ ≠ (.slice (some ad858) t852.length co33 : Value).ownBlock)) k_ ∧ some k_ ≠ (u7 : Value).ownBlock) (Kd.R_apart' (Kd.R_apart' (HO861.out) (Kd.S_typed HO_10.out) (by decide)) (Kd.S_typed HO_7.out) (by decide)) (fun k_ hk => ⟨hk.1.2,hk.2⟩))) (fun _ h_ => h_)));(case aB => exact (HB.out));(case aF => exact (fun k_ hk => Kd.fresh' (Kd.S_lt (by (with_reducible repeat (first | apply Kd.S_alloc | apply Kd.S_drewN | apply Kd.S_drew));exact HO_10.out)) k_ hk));(case aO => exact (by (with_reducible repeat (first | apply Kd.S_alloc | apply Kd.S_drewN | apply Kd.S_drew));exact Kd.S_mono HO_7.out (fun k_ hk => ⟨hk.1,fun e_ => hk.2 e_⟩)));(case aS => exact (below_size (HB.out)));(case aL => have := LMc32.out;omega);intro v863 w37 ho hb hg hat;rw [← Ny862.out] at ho;have n0_ := am (Kd.S_after (ok := (fun k_ => some k_ ≠ (.slice Ao38 y859.length co38 : Value).ownBlock)) (by (with_reducible repeat (first | apply Kd.S_alloc | apply Kd.S_drewN | apply Kd.S_drew));exact Kd.S_mono HO_10.out (fun _ hk => ⟨hk.2,hk.1⟩)) hg hat);have n1_ := am (blk_grown (g := gb844) (o := .cells #[.slice A0_0 l0_0.length c0_0,.int .i64 a0_1,.slice (some ad848) l0_2.length c0_2,.int .i64 a0_3,.int .i64 a0_4] 27 (0,0)) (by (with_reducible repeat (first | refine blk_drewN ?_ _ | refine blk_drew ?_ | refine blk_alloc ?_ _));exact BK844.out) hg (Kd.S_ne HO_7.out BK844.out (by decide)));have n2_ := am (Kd.R_after (ok := (fun k_ => some k_ ≠ (.slice (some ad858) t852.length co33 : Value).ownBlock ∧ some k_ ≠ (.slice Ao38 y859.length co38 : Value).ownBlock)) (by (with_reducible repeat (first | apply Kd.R_alloc | apply Kd.R_drewN | apply Kd.R_drew));exact Kd.R_mono HL858_0.out (fun _ hk => ⟨⟨hk.1.2,hk.2⟩,hk.1.1⟩)) hg hat);have n3_ := am (hb);have n4_ := am (ho);clear HO_10;clear BK844;clear HL858_0;clear HB;clear HO_7;clear HO861;have HO_10 := n0_;have BK844 := n1_;have HL858_0 := n2_;have HB := n3_;have HO864 := n4_;clear n0_ n1_ n2_ n3_ n4_;clear ho hb hg hat))
           go_roundg k3
           case measure => have := HK1.out;have := HJ16.out;have := HK3.out;omega
           case rel => exact ⟨(y862),(wrap64 (x11_3 + 1)),(by first | rfl | (simp;done) | (simp [*];done)),H',⟨by have := HK1.out;have := HJ16.out;have := HK3.out;omega⟩,⟨by (with_reducible repeat (first | apply Kd.S_alloc | apply Kd.S_drewN | apply Kd.S_drew));exact HO864.out⟩,⟨by (with_reducible repeat (first | apply Kd.S_alloc | apply Kd.S_drewN | apply Kd.S_drew));exact Kd.S_mono HO_10.out (fun _ hk => hk.2)⟩,⟨BK844.out⟩,⟨HB.out⟩⟩
mutual
def q4_Mends.l0 : Nat → List Int → Int → Int → List (S126) → Int → List (S64) → Int → Int → Option (List Int × Bool)
 | 0,_,_,_,_,_,_,_,_ => none
 | k + 1,x1,x2,x8,x866000,x866001,x866002,x866003,x866004 => if x8 ≤ (wrap64 (2 * (x866002.length : Int))) then ((q4_all.f k x866000 x866001 x866002 x866003 x866004 0 x8).bind fun t866 => (q4_Mends.l1 k x1 x2 x8 t866 0 x866000 x866001 x866002 x866003 x866004)) else (some (([] : List Int),false))
def q4_Mends.l1 : Nat → List Int → Int → Int → List (List Int) → Int → List (S126) → Int → List (S64) → Int → Int → Option (List Int × Bool)
 | 0,_,_,_,_,_,_,_,_,_,_ => none
 | k + 1,x1,x2,x8,x9,x10,x866000,x866001,x866002,x866003,x866004 => if x10 < (x9.length : Int) then (if 0 ≤ x10 then ((q4_Suffices.f k x866000 x866001 x866002 x866003 x866004 (rd_L3 x9 x10) x1 x2).bind fun t870 => (if t870 = true then (some (rd_L3 x9 x10,true)) else (q4_Mends.l1 k x1 x2 x8 x9 (wrap64 (x10 + 1)) x866000 x866001 x866002 x866003 x866004))) else (none)) else (q4_Mends.l0 k x1 x2 (wrap64 (x8 + 1)) x866000 x866001 x866002 x866003 x866004)
end
def q4_Mends.f (k : Nat) (l0_0 : List (S126)) (a0_1 : Int) (l0_2 : List (S64)) (a0_3 : Int) (a0_4 : Int) (l1 : List Int) (a2 : Int) : Option (List Int × Bool) := q4_Mends.l0 k l1 a2 0 l0_0 a0_1 l0_2 a0_3 a0_4
def q4_Mends.T8 : Bool × List (List Nat × List Nat) := (true,[([],[]),([],[]),([],[]),([1,2],[1,2]),([3],[3]),([],[]),([],[]),([0,4,5,6],[0,4,5,6])])
def q4_Mends.B8 : List Nat := [0,0,0,6,14,0,0,127]
theorem q4_Mends.tab8 : rtab .any (opsOf Tryz.f39 8) = q4_Mends.T8 := by kernel_rfl
theorem q4_Mends.bits8 : waitsOk q4_Mends.T8.2 q4_Mends.B8 = true := by kernel_rfl
theorem q4_Mends.calls (k : Nat) (A0_0 : Option Addr) (c0_0 : Nat) (l0_0 : List (S126)) (a0_1 : Int) (A0_2 : Option Addr) (c0_2 : Nat) (l0_2 : List (S64)) (a0_3 : Int) (a0_4 : Int) (A1 : Option Addr) (c1 : Nat) (l1 : List Int) (a2 : Int) (r1 : List Int) (r2 : Bool) (w : World) (hr0_0 : Kd.C k126 w A0_0 l0_0.length l0_0) (hc0_0 : l0_0.length ≤ c0_0) (hr0_2 : Kd.C k64 w A0_2 l0_2.length l0_2) (hc0_2 : l0_2.length ≤ c0_2) (hr1 : Kd.C (Kd.int .i64) w A1 l1.length l1) (hc1 : l1.length ≤ c1) (h : q4_Mends.f k l0_0 a0_1 l0_2 a0_3 a0_4 l1 a2 = some (r1,r2)) :
 Calls Tryz.prog 39 #[.agg #[.slice A0_0 l0_0.length c0_0,.int .i64 a0_1,.slice A0_2 l0_2.length c0_2,.int .i64 a0_3,.int .i64 a0_4],.slice A1 l1.length c1,.int .i64 a2] w fun e w' => ∃ v0_ : Value,e = .returned (.tuple #[v0_,.bool r2]) ∧ Kd.R (Kd.int .i64) 3 w' w.heap.size (fun _ => True) v0_ r1 ∧ Below w.heap.size w w' := by
 have hu27 := Tryz.underlying27
 have HR0_0 := am hr0_0
 have HC0_0 := am hc0_0
 clear hr0_0 hc0_0
 have HR0_2 := am hr0_2
 have HC0_2 := am hc0_2
 clear hr0_2 hc0_2
 have HR1 := am hr1
 have HC1 := am hc1
 clear hr1 hc1
 have HB := am (Below.refl w.heap.size w)
 have H : (q4_Mends.l0 k l1 a2 0 l0_0 a0_1 l0_2 a0_3 a0_4) = some (r1,r2) := h
 clear h
 replace H' := am H
 go_enter Tryz.func39,Tryz.ntmps39
 go_wp2_with (first | ((refine gate_dst (N := 3) rfl ?_);refine box_event rfl (N := 3) rfl (cs := #[.slice A0_0 l0_0.length c0_0,.int .i64 a0_1,.slice A0_2 l0_2.length c0_2,.int .i64 a0_3,.int .i64 a0_4]) (t := 27) ?hr ?_;(case hr => go_simp;try rfl);intro gb865 hg w4 hbox hb;have BK865 := am (hbox);have GW865 := am (ge_new (HB.out) hg);have GE865 := am (ge_new (HB.out) hg);replace HB := am (below_step (HB.out) hb);clear hb hbox hg))
 go_loopg [8] k (fun kq v8 w' => ∃ (x8_1 : Int),v8 = .int .i64 x8_1 ∧ Aside0 (q4_Mends.l0 kq l1 a2 x8_1 l0_0 a0_1 l0_2 a0_3 a0_4 = some (r1,r2)) ∧ Aside0 (kq ≤ k) ∧ Aside0 (w'.heap[gb865]? = some (.cells #[(.slice A0_0 l0_0.length c0_0),.int .i64 a0_1,(.slice A0_2 l0_2.length c0_2),.int .i64 a0_3,.int .i64 a0_4] 27 (0,0))) ∧ Aside0 (Below w.heap.size w w'))
 case atStart => exact ⟨(0),(by first | rfl | (simp;done) | (simp [*];done)),H',⟨Nat.le_refl _⟩,⟨BK865.out⟩,⟨HB.out⟩⟩
 case round =>
  clear H'
  obtain ⟨x8_1,rfl,HA,HK1,BK865,HB⟩ := hrel
  cases gk with
  | zero => exact absurd HA.out (by simp [q4_Mends.l0])
  | succ k1 =>
   have H := HA.out
   clear HA
   simp only [q4_Mends.l0] at H
   by_cases c5 : x8_1 ≤ (wrap64 (2 * (l0_2.length : Int)))
   case neg =>
    rw [if_neg c5] at H
    have c5b0 : decide (x8_1 ≤ (wrap64 (2 * (l0_2.length : Int)))) = false := decide_eq_false c5
    clear c5
    simp only [Option.some.injEq,Prod.mk.injEq] at H
    obtain ⟨rfl,rfl⟩ := H
    obtain ⟨hcz20_0,hcz20_1,hcz20_2,hcz20_3,hcz20_4⟩ := cO5 BK865.out
    go_wp2
    go_ret2
    exact ⟨_,by first | rfl | (simp [*] <;> rfl),by first | exact Kd.R_nil _ _ _ _ _ | exact Kd.N_nil _ _ _ _ _ | exact Kd.V_nil _ _ _ _ _ | exact Kd.Q_nil _ _ _ _ _ | exact Kd.S_nil _ _ _ _ _,HB.out⟩
   rw [if_pos c5] at H
   have c5b0 : decide (x8_1 ≤ (wrap64 (2 * (l0_2.length : Int)))) = true := decide_eq_true c5
   clear c5
   replace H := obm H
   obtain ⟨t866,A60,H⟩ := H
   replace H : (q4_Mends.l1 k1 l1 a2 x8_1 t866 0 l0_0 a0_1 l0_2 a0_3 a0_4) = some (r1,r2) := H
   have A6 := am A60
   clear A60
   replace H' := am H
   obtain ⟨hcz7_0,hcz7_1,hcz7_2,hcz7_3,hcz7_4⟩ := cO5 BK865.out
   go_wp2_with (first | ((with_reducible refine gate_callee (f := 81) rfl ?_);refine goesL_ (some 21) rfl rfl Tryz.func81 (by kernel_rfl) rfl #[.agg #[.slice A0_0 l0_0.length c0_0,.int .i64 a0_1,.slice A0_2 l0_2.length c0_2,.int .i64 a0_3,.int .i64 a0_4],.int .i64 0,.int .i64 x8_1] rfl (by (try simp only [List.map_toArray,List.map_cons,List.map_nil]);first | done | rfl | (simp only [List.length_drop,List.length_take];rfl)) ?_;(refine (q4_all.calls k1 _ _ l0_0 a0_1 _ _ l0_2 a0_3 a0_4 0 x8_1 t866 _ ?side1 ?side2 ?side3 ?side4 A6.out).mono ?_);(case side1 => exact kC HR0_0.out HB.out);(case side2 => exact HC0_0.out);(case side3 => exact kC HR0_2.out HB.out);(case side4 => exact HC0_2.out);rintro e w8 ⟨v867,rfl,ho0,hb⟩;refine ⟨_,rfl,?_⟩;have HO868 := am (Kd.S_lower ho0 (below_size (HB.out)));replace BK865 := (kmv hb BK865);replace HB := am (below_step (HB.out) hb);(try clear hb);(try clear hb2);(try clear hk);(try clear hi);(try clear ho0)))
   go_loopg [10] k1 (fun kq v10 w' => ∃ (x10_2 : Int),v10 = .int .i64 x10_2 ∧ Aside0 (q4_Mends.l1 kq l1 a2 x8_1 t866 x10_2 l0_0 a0_1 l0_2 a0_3 a0_4 = some (r1,r2)) ∧ Aside0 (kq ≤ k1) ∧ Aside0 (Kd.S (Kd.slice 3 (Kd.int .i64)) 30 w' w.heap.size (fun _ => True) v867 t866) ∧ Aside0 (w'.heap[gb865]? = some (.cells #[(.slice A0_0 l0_0.length c0_0),.int .i64 a0_1,(.slice A0_2 l0_2.length c0_2),.int .i64 a0_3,.int .i64 a0_4] 27 (0,0))) ∧ Aside0 (Below w.heap.size w w'))
   case atStart => exact ⟨(0),(by first | rfl | (simp;done) | (simp [*];done)),H',⟨Nat.le_refl _⟩,⟨by (with_reducible repeat (first | apply Kd.S_alloc | apply Kd.S_drewN | apply Kd.S_drew));exact HO868.out⟩,⟨BK865.out⟩,⟨HB.out⟩⟩
   case round =>
    clear H'
    obtain ⟨x10_2,rfl,HA,HK2,HO_9,BK865,HB⟩ := hrel
    cases gk with
    | zero => exact absurd HA.out (by simp [q4_Mends.l1])
    | succ k2 =>
     have H := HA.out
     clear HA
     simp only [q4_Mends.l1] at H
     by_cases c9 : x10_2 < (t866.length : Int)
     case neg =>
      rw [if_neg c9] at H
      have c9b0 : decide (x10_2 < (t866.length : Int)) = false := decide_eq_false c9
      clear c9
      replace H' := am H
      obtain ⟨Ao19,co19,eo19⟩ := Kd.S_slice HO_9.out
      subst eo19
      go_wp2
      go_roundg k2
      case measure => have := HK1.out;have := HK2.out;omega
      case rel => exact ⟨(wrap64 (x8_1 + 1)),(by first | rfl | (simp;done) | (simp [*];done)),H',⟨by have := HK1.out;have := HK2.out;omega⟩,⟨BK865.out⟩,⟨HB.out⟩⟩
     rw [if_pos c9] at H
     have c9b0 : decide (x10_2 < (t866.length : Int)) = true := decide_eq_true c9
     clear c9
     by_cases c10 : 0 ≤ x10_2
     case neg =>
      rw [if_neg c10] at H
      exact absurd H (by simp)
     rw [if_pos c10] at H
     have c10b0 : decide (0 ≤ x10_2) = true := decide_eq_true c10
     clear c10
     replace H := obm H
     obtain ⟨t870,A110,H⟩ := H
     replace H : (if t870 = true then (some (rd_L3 t866 x10_2,true)) else (q4_Mends.l1 k2 l1 a2 x8_1 t866 (wrap64 (x10_2 + 1)) l0_0 a0_1 l0_2 a0_3 a0_4)) = some (r1,r2) := H
     have A11 := am A110
     clear A110
     by_cases c12 : t870 = true
     case neg =>
      replace c12 := Bool.eq_false_iff.mpr c12
      subst c12
      replace H : (q4_Mends.l1 k2 l1 a2 x8_1 t866 (wrap64 (x10_2 + 1)) l0_0 a0_1 l0_2 a0_3 a0_4) = some (r1,r2) := by rw [if_neg (show ¬ (false = true) by decide)] at H;exact H
      replace H' := am H
      obtain ⟨Ao16,co16,eo16⟩ := Kd.S_slice HO_9.out
      subst eo16
      try go_wp2
      replace HO_9 := am (Kd.S_drew HO_9.out)
      replace BK865 := am (blk_drew BK865.out)
      replace HB := am (below_drew1 HB.out)
      have p869 : 0 ≤ (x10_2 : Int) := of_decide_eq_true (by assumption)
      have q869 : x10_2 < (t866.length : Int) := of_decide_eq_true (by assumption)
      obtain ⟨ad869,A869_0,c869_0,e869,hx869_0,hl869_0,hi869_0⟩ := at_L3 (Kd.S_reads' HO_9.out).2.2 x10_2 p869 q869
      cases e869
      obtain ⟨ce869,hce869,hMe869,hcc869⟩ := Kd.S_get HO_9.out [] x10_2 p869 (by first | exact q869 | exact of_decide_eq_true (by assumption) | (have e_ := (Kd.S_reads' HO_9.out).1;omega))
      obtain ⟨ve869_0,rfl,ge869_0⟩ := hMe869
      have hv869_0 := hcc869 0 _ rfl
      rw [Nat.add_zero,show ((Kd.slice 3 (Kd.int .i64))).sz = 1 from rfl,Nat.mul_one] at hv869_0
      replace hv869_0 := Option.some.inj (hv869_0.symm.trans hx869_0)
      rw [hv869_0] at ge869_0
      have HL869_0 := am (show Kd.R (Kd.int .i64) 3 _ _ _ _ (rd_L3 t866 x10_2) from ge869_0)
      clear hv869_0 ge869_0
      clear hcc869 hce869
      have HR869_0 := am hi869_0
      have HC869_0 := am hl869_0
      clear hi869_0 hl869_0
      replace p869 := eq_true p869
      replace q869 := eq_true q869
      refine start_ (n := 8) (S := fun w' => w'.cell? ⟨gb865,0,none⟩ = some (.slice A0_0 l0_0.length c0_0) ∧ w'.cell? ⟨gb865,1,none⟩ = some (.int .i64 a0_1) ∧ w'.cell? ⟨gb865,2,none⟩ = some (.slice A0_2 l0_2.length c0_2) ∧ w'.cell? ⟨gb865,3,none⟩ = some (.int .i64 a0_3) ∧ w'.cell? ⟨gb865,4,none⟩ = some (.int .i64 a0_4) ∧ w'.cell? (ad869.add (x10_2).toNat) = some (.slice A869_0 (rd_L3 t866 x10_2).length c869_0)) (ds := []) (ba 8 0) (by kernel_rfl) rfl rfl ⟨(blk_cell BK865.out 0).trans rfl,(blk_cell BK865.out 1).trans rfl,(blk_cell BK865.out 2).trans rfl,(blk_cell BK865.out 3).trans rfl,(blk_cell BK865.out 4).trans rfl,hx869_0⟩ (fun hHeld => ?_);refine with_tabW q4_Mends.tab8 q4_Mends.bits8 (fun HT_ HW_ => ?_)
      generalize wr.drew = w17 at HO_9 BK865 HB HL869_0 HR869_0 hx869_0 hHeld ⊢
      refine pure_ (i := 1) (N := some 29) (v := ?_) (a' := ?_) (ba 8 2) rfl rfl (any_of HT_.out (by kernel_rfl)) (fun _ _ _ h => h) (Or.inl ⟨by rfl,?_⟩) ?_ ?_
      rotate_left
      · intro w'
        go_simp
        with_reducible rfl
      rotate_left
      · simp only [Act.put,NRM]
        rfl
      refine pure_ (i := 2) (N := some 30) (v := ?_) (a' := ?_) (ba 8 6) rfl rfl (any_of HT_.out (by kernel_rfl)) (fun _ _ _ h => h) (Or.inl ⟨by rfl,?_⟩) ?_ ?_
      rotate_left
      · intro w'
        go_simp
        with_reducible rfl
      rotate_left
      · simp only [Act.put,NRM]
        rfl
      refine pure_ (i := 3) (N := some 31) (v := ?_) (a' := ?_) (ba 8 14) rfl rfl (any_of HT_.out (by kernel_rfl)) (fun _ _ _ h => h) (Or.inl ⟨by rfl,?_⟩) ?_ ?_
      rotate_left
      · intro w'
        go_simp
        with_reducible rfl
      rotate_left
      · simp only [Act.put,NRM]
        rfl
      refine pure_ (i := 5) (N := some 33) (v := ?_) (a' := ?_) (ba 8 46) rfl rfl (any_of HT_.out (by kernel_rfl)) (fun _ _ _ h => h) (Or.inl ⟨by rfl,?_⟩) ?_ ?_
      rotate_left
      · intro w'
        go_simp
        with_reducible rfl
      rotate_left
      · simp only [Act.put,NRM]
        rfl
      refine pure_ (i := 6) (N := some 34) (v := ?_) (a' := ?_) (ba 8 110) rfl rfl (any_of HT_.out (by kernel_rfl)) (fun _ _ _ h => h) (Or.inl ⟨by rfl,?_⟩) ?_ ?_
      rotate_left
      · intro w'
        go_simp
        with_reducible rfl
      rotate_left
      · simp only [Act.put,NRM]
        rfl
      refine take_ (i := 0) (N := some 28) (v := ?_) (a' := ?_) (ba 8 111) rfl rfl (take_ofW HT_.out HW_.out (by kernel_rfl)) (fun _ _ _ h => h) (Or.inl ⟨by rfl,?_⟩) hHeld ?_ ?_
      rotate_left
      · rintro w' ⟨s0,s1,s2,s3,s4,s5⟩
        go_simp
        with_reducible rfl
      rotate_left
      · simp only [Act.put,NRM]
        rfl
      refine take_ (i := 4) (N := some 32) (v := ?_) (a' := ?_) (ba 8 127) rfl rfl (take_ofW HT_.out HW_.out (by kernel_rfl)) (fun _ _ _ h => h) (Or.inl ⟨by rfl,?_⟩) hHeld ?_ ?_
      rotate_left
      · rintro w' ⟨s0,s1,s2,s3,s4,s5⟩
        go_simp
        with_reducible rfl
      rotate_left
      · simp only [Act.put,NRM]
        rfl
      refine one_ (i := 7) (N := some 35) (ba 8 255) rfl rfl (one_of HT_.out (by kernel_rfl)) (by decide) (fun K hK => ?_)
      refine goes_ Tryz.func42 (by kernel_rfl) rfl #[.agg #[.slice A0_0 l0_0.length c0_0,.int .i64 a0_1,.slice A0_2 l0_2.length c0_2,.int .i64 a0_3,.int .i64 a0_4],.slice A869_0 (rd_L3 t866 x10_2).length c869_0,.slice A1 l1.length c1,.int .i64 a2] (by rfl) rfl rfl (by (try simp only [List.map_toArray,List.map_cons,List.map_nil]);first | done | rfl | (simp only [List.length_drop,List.length_take];rfl)) ?_
      with_reducible refine (q4_Suffices.calls k2 _ _ l0_0 a0_1 _ _ l0_2 a0_3 a0_4 _ _ (rd_L3 t866 x10_2) _ _ l1 a2 false _ ?side1 ?side2 ?side3 ?side4 ?side5 ?side6 ?side7 ?side8 A11.out).mono ?_
      (case side1 => exact kC HR0_0.out HB.out)
      (case side2 => exact HC0_0.out)
      (case side3 => exact kC HR0_2.out HB.out)
      (case side4 => exact HC0_2.out)
      (case side5 => repeat (first | exact (by repeat (first | (with_reducible exact HR869_0.out) | (with_reducible refine Kd.C_alloc ?_ _) | (with_reducible refine Kd.C_drewN ?_ _) | (with_reducible refine Kd.C_drew ?_) | exact HR869_0.out)) | (with_reducible refine Kd.C_alloc ?_ _) | (with_reducible refine Kd.C_drewN ?_ _) | (with_reducible refine Kd.C_drew ?_)))
      (case side6 => exact HC869_0.out)
      (case side7 => exact kC HR1.out HB.out)
      (case side8 => exact HC1.out)
      rintro e w18 ⟨rfl,hb⟩
      have HS5_ := (hb.cell (World.block_lt_of_cell? _ _ (hHeld.2.2.2.2.2))).trans (hHeld.2.2.2.2.2)
      refine ⟨_,rfl,?_⟩
      replace HO_9 := am (Kd.S_below HO_9.out hb)
      replace HL869_0 := am (Kd.R_below HL869_0.out hb)
      replace BK865 := (kmv hb BK865)
      replace HR869_0 := am (kC (by repeat (first | (with_reducible exact HR869_0.out) | (with_reducible refine Kd.C_alloc ?_ _) | (with_reducible refine Kd.C_drewN ?_ _) | (with_reducible refine Kd.C_drew ?_) | exact HR869_0.out)) hb)
      replace HB := am (below_step (HB.out) hb)
      (try clear hb)
      (try clear hb2)
      (try clear hk)
      (try clear hi)
      refine hK.out _ _ ⟨(blk_cell BK865.out 0).trans rfl,(blk_cell BK865.out 1).trans rfl,(blk_cell BK865.out 2).trans rfl,(blk_cell BK865.out 3).trans rfl,(blk_cell BK865.out 4).trans rfl,HS5_⟩ (fun hHeld => ?_)
      clear hK K
      refine norm_ (a' := ?_) ?_ ?_
      rotate_left
      · show Act.put _ (some 35) _ = _
        simp only [Act.put,NRM]
        rfl
      refine done_ (done_of HT_.out (by kernel_rfl)) ?_
      try go_wp2
      go_roundg k2
      case measure => have := HK1.out;have := HK2.out;omega
      case rel => exact ⟨(wrap64 (x10_2 + 1)),(by first | rfl | (simp;done) | (simp [*];done)),H',⟨by have := HK1.out;have := HK2.out;omega⟩,⟨by (with_reducible repeat (first | apply Kd.S_alloc | apply Kd.S_drewN | apply Kd.S_drew));exact HO_9.out⟩,⟨BK865.out⟩,⟨HB.out⟩⟩
     subst c12
     replace H : (some (rd_L3 t866 x10_2,true)) = some (r1,r2) := by rw [if_pos rfl] at H;exact H
     simp only [Option.some.injEq,Prod.mk.injEq] at H
     obtain ⟨rfl,rfl⟩ := H
     obtain ⟨Ao13,co13,eo13⟩ := Kd.S_slice HO_9.out
     subst eo13
     try go_wp2
     replace HO_9 := am (Kd.S_drew HO_9.out)
     replace BK865 := am (blk_drew BK865.out)
     replace HB := am (below_drew1 HB.out)
     have p869 : 0 ≤ (x10_2 : Int) := of_decide_eq_true (by assumption)
     have q869 : x10_2 < (t866.length : Int) := of_decide_eq_true (by assumption)
     obtain ⟨ad869,A869_0,c869_0,e869,hx869_0,hl869_0,hi869_0⟩ := at_L3 (Kd.S_reads' HO_9.out).2.2 x10_2 p869 q869
     cases e869
     obtain ⟨ce869,hce869,hMe869,hcc869⟩ := Kd.S_get HO_9.out [] x10_2 p869 (by first | exact q869 | exact of_decide_eq_true (by assumption) | (have e_ := (Kd.S_reads' HO_9.out).1;omega))
     obtain ⟨ve869_0,rfl,ge869_0⟩ := hMe869
     have hv869_0 := hcc869 0 _ rfl
     rw [Nat.add_zero,show ((Kd.slice 3 (Kd.int .i64))).sz = 1 from rfl,Nat.mul_one] at hv869_0
     replace hv869_0 := Option.some.inj (hv869_0.symm.trans hx869_0)
     rw [hv869_0] at ge869_0
     have HL869_0 := am (show Kd.R (Kd.int .i64) 3 _ _ _ _ (rd_L3 t866 x10_2) from ge869_0)
     clear hv869_0 ge869_0
     clear hcc869 hce869
     have HR869_0 := am hi869_0
     have HC869_0 := am hl869_0
     clear hi869_0 hl869_0
     replace p869 := eq_true p869
     replace q869 := eq_true q869
     refine start_ (n := 8) (S := fun w' => w'.cell? ⟨gb865,0,none⟩ = some (.slice A0_0 l0_0.length c0_0) ∧ w'.cell? ⟨gb865,1,none⟩ = some (.int .i64 a0_1) ∧ w'.cell? ⟨gb865,2,none⟩ = some (.slice A0_2 l0_2.length c0_2) ∧ w'.cell? ⟨gb865,3,none⟩ = some (.int .i64 a0_3) ∧ w'.cell? ⟨gb865,4,none⟩ = some (.int .i64 a0_4) ∧ w'.cell? (ad869.add (x10_2).toNat) = some (.slice A869_0 (rd_L3 t866 x10_2).length c869_0)) (ds := []) (ba 8 0) (by kernel_rfl) rfl rfl ⟨(blk_cell BK865.out 0).trans rfl,(blk_cell BK865.out 1).trans rfl,(blk_cell BK865.out 2).trans rfl,(blk_cell BK865.out 3).trans rfl,(blk_cell BK865.out 4).trans rfl,hx869_0⟩ (fun hHeld => ?_);refine with_tabW q4_Mends.tab8 q4_Mends.bits8 (fun HT_ HW_ => ?_)
     generalize wr.drew = w14 at HO_9 BK865 HB HL869_0 HR869_0 hx869_0 hHeld ⊢
     refine pure_ (i := 1) (N := some 29) (v := ?_) (a' := ?_) (ba 8 2) rfl rfl (any_of HT_.out (by kernel_rfl)) (fun _ _ _ h => h) (Or.inl ⟨by rfl,?_⟩) ?_ ?_
     rotate_left
     · intro w'
       go_simp
       with_reducible rfl
     rotate_left
     · simp only [Act.put,NRM]
       rfl
     refine pure_ (i := 2) (N := some 30) (v := ?_) (a' := ?_) (ba 8 6) rfl rfl (any_of HT_.out (by kernel_rfl)) (fun _ _ _ h => h) (Or.inl ⟨by rfl,?_⟩) ?_ ?_
     rotate_left
     · intro w'
       go_simp
       with_reducible rfl
     rotate_left
     · simp only [Act.put,NRM]
       rfl
     refine pure_ (i := 3) (N := some 31) (v := ?_) (a' := ?_) (ba 8 14) rfl rfl (any_of HT_.out (by kernel_rfl)) (fun _ _ _ h => h) (Or.inl ⟨by rfl,?_⟩) ?_ ?_
     rotate_left
     · intro w'
       go_simp
       with_reducible rfl
     rotate_left
     · simp only [Act.put,NRM]
       rfl
     refine pure_ (i := 5) (N := some 33) (v := ?_) (a' := ?_) (ba 8 46) rfl rfl (any_of HT_.out (by kernel_rfl)) (fun _ _ _ h => h) (Or.inl ⟨by rfl,?_⟩) ?_ ?_
     rotate_left
     · intro w'
       go_simp
       with_reducible rfl
     rotate_left
     · simp only [Act.put,NRM]
       rfl
     refine pure_ (i := 6) (N := some 34) (v := ?_) (a' := ?_) (ba 8 110) rfl rfl (any_of HT_.out (by kernel_rfl)) (fun _ _ _ h => h) (Or.inl ⟨by rfl,?_⟩) ?_ ?_
     rotate_left
     · intro w'
       go_simp
       with_reducible rfl
     rotate_left
     · simp only [Act.put,NRM]
       rfl
     refine take_ (i := 0) (N := some 28) (v := ?_) (a' := ?_) (ba 8 111) rfl rfl (take_ofW HT_.out HW_.out (by kernel_rfl)) (fun _ _ _ h => h) (Or.inl ⟨by rfl,?_⟩) hHeld ?_ ?_
     rotate_left
     · rintro w' ⟨s0,s1,s2,s3,s4,s5⟩
       go_simp
       with_reducible rfl
     rotate_left
     · simp only [Act.put,NRM]
       rfl
     refine take_ (i := 4) (N := some 32) (v := ?_) (a' := ?_) (ba 8 127) rfl rfl (take_ofW HT_.out HW_.out (by kernel_rfl)) (fun _ _ _ h => h) (Or.inl ⟨by rfl,?_⟩) hHeld ?_ ?_
     rotate_left
     · rintro w' ⟨s0,s1,s2,s3,s4,s5⟩
       go_simp
       with_reducible rfl
     rotate_left
     · simp only [Act.put,NRM]
       rfl
     refine one_ (i := 7) (N := some 35) (ba 8 255) rfl rfl (one_of HT_.out (by kernel_rfl)) (by decide) (fun K hK => ?_)
     refine goes_ Tryz.func42 (by kernel_rfl) rfl #[.agg #[.slice A0_0 l0_0.length c0_0,.int .i64 a0_1,.slice A0_2 l0_2.length c0_2,.int .i64 a0_3,.int .i64 a0_4],.slice A869_0 (rd_L3 t866 x10_2).length c869_0,.slice A1 l1.length c1,.int .i64 a2] (by rfl) rfl rfl (by (try simp only [List.map_toArray,List.map_cons,List.map_nil]);first | done | rfl | (simp only [List.length_drop,List.length_take];rfl)) ?_
     with_reducible refine (q4_Suffices.calls k2 _ _ l0_0 a0_1 _ _ l0_2 a0_3 a0_4 _ _ (rd_L3 t866 x10_2) _ _ l1 a2 true _ ?side1 ?side2 ?side3 ?side4 ?side5 ?side6 ?side7 ?side8 A11.out).mono ?_
     (case side1 => exact kC HR0_0.out HB.out)
     (case side2 => exact HC0_0.out)
     (case side3 => exact kC HR0_2.out HB.out)
     (case side4 => exact HC0_2.out)
     (case side5 => repeat (first | exact (by repeat (first | (with_reducible exact HR869_0.out) | (with_reducible refine Kd.C_alloc ?_ _) | (with_reducible refine Kd.C_drewN ?_ _) | (with_reducible refine Kd.C_drew ?_) | exact HR869_0.out)) | (with_reducible refine Kd.C_alloc ?_ _) | (with_reducible refine Kd.C_drewN ?_ _) | (with_reducible refine Kd.C_drew ?_)))
     (case side6 => exact HC869_0.out)
     (case side7 => exact kC HR1.out HB.out)
     (case side8 => exact HC1.out)
     rintro e w15 ⟨rfl,hb⟩
     have HS5_ := (hb.cell (World.block_lt_of_cell? _ _ (hHeld.2.2.2.2.2))).trans (hHeld.2.2.2.2.2)
     refine ⟨_,rfl,?_⟩
     replace HO_9 := am (Kd.S_below HO_9.out hb)
     replace HL869_0 := am (Kd.R_below HL869_0.out hb)
     replace BK865 := (kmv hb BK865)
     replace HR869_0 := am (kC (by repeat (first | (with_reducible exact HR869_0.out) | (with_reducible refine Kd.C_alloc ?_ _) | (with_reducible refine Kd.C_drewN ?_ _) | (with_reducible refine Kd.C_drew ?_) | exact HR869_0.out)) hb)
     replace HB := am (below_step (HB.out) hb)
     (try clear hb)
     (try clear hb2)
     (try clear hk)
     (try clear hi)
     refine hK.out _ _ ⟨(blk_cell BK865.out 0).trans rfl,(blk_cell BK865.out 1).trans rfl,(blk_cell BK865.out 2).trans rfl,(blk_cell BK865.out 3).trans rfl,(blk_cell BK865.out 4).trans rfl,HS5_⟩ (fun hHeld => ?_)
     clear hK K
     refine norm_ (a' := ?_) ?_ ?_
     rotate_left
     · show Act.put _ (some 35) _ = _
       simp only [Act.put,NRM]
       rfl
     refine done_ (done_of HT_.out (by kernel_rfl)) ?_
     have p871 : 0 ≤ (x10_2 : Int) := of_decide_eq_true (by assumption)
     have q871 : x10_2 < (t866.length : Int) := of_decide_eq_true (by assumption)
     obtain ⟨ad871,A871_0,c871_0,e871,hx871_0,hl871_0,hi871_0⟩ := at_L3 (Kd.S_reads' HO_9.out).2.2 x10_2 p871 q871
     obtain rfl : ad869 = ad871 := (by injection e871)
     obtain ⟨ce871,hce871,hMe871,hcc871⟩ := Kd.S_get HO_9.out [] x10_2 p871 (by first | exact q871 | exact of_decide_eq_true (by assumption) | (have e_ := (Kd.S_reads' HO_9.out).1;omega))
     obtain ⟨ve871_0,rfl,ge871_0⟩ := hMe871
     have hv871_0 := hcc871 0 _ rfl
     rw [Nat.add_zero,show ((Kd.slice 3 (Kd.int .i64))).sz = 1 from rfl,Nat.mul_one] at hv871_0
     replace hv871_0 := Option.some.inj (hv871_0.symm.trans hx871_0)
     rw [hv871_0] at ge871_0
     have HL871_0 := am (show Kd.R (Kd.int .i64) 3 _ _ _ _ (rd_L3 t866 x10_2) from ge871_0)
     clear hv871_0 ge871_0
     clear hcc871 hce871
     have HR871_0 := am hi871_0
     have HC871_0 := am hl871_0
     clear hi871_0 hl871_0
     replace p871 := eq_true p871
     replace q871 := eq_true q871
     try go_wp2
     go_ret2
     exact ⟨_,by first | rfl | (simp [*] <;> rfl),by (with_reducible repeat (first | apply Kd.R_alloc | apply Kd.R_drewN | apply Kd.R_drew));exact Kd.R_mono HL869_0.out (fun _ hk => trivial),HB.out⟩
end
end Go.Proofs.YticlelgmmonloaaGreatDoor.C

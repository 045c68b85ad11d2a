/- A part of the proof: the walks of the functions that it reaches. TIGHT. -/
import Derived.Test.YticlelgmmonloaaGreatDoorM14
set_option linter.unusedVariables false
set_option linter.unusedSimpArgs false
namespace Go.Proofs.YticlelgmmonloaaGreatDoor.C
open Go.RowKit Go.Proofs.YticlelgmmonloaaGreatDoorW.PrintWords Go.Proofs.YticlelgmmonloaaGreatDoorW.PrintLast Go.Proofs.YticlelgmmonloaaGreatDoorW.PrintMore
set_option linter.unusedVariables false
set_option linter.unusedSimpArgs false
set_option maxHeartbeats 16000000
set_option maxRecDepth 100000
section
attribute [local go_sem] max2_int min2_int max_two min_two
def q3_Table.l0 : Nat → Int → List (S126) → Int → Option (Bool)
 | 0,_,_,_ => none
 | k + 1,x3,x463000,x463001 => if x3 < (x463000.length : Int) then (if 0 ≤ x3 then ((q3_in.f ((rd_T126 x463000 x3).f0) 1 60).bind fun t467 => (if t467 = true then ((q3_in.f ((rd_T126 x463000 x3).f1) 1 60).bind fun t468 => (if t468 = true then ((q3_in.f ((rd_T126 x463000 x3).f2) 1 1000).bind fun t469 => (if t469 = true then (q3_Table.l0 k (wrap64 (x3 + 1)) x463000 x463001) else (some false))) else (some false))) else (some false))) else (none)) else ((q3_in.f (x463000.length : Int) 1 12).bind fun t463 => (if t463 = true then ((q3_in.f x463001 0 100).bind fun t464 => (some t464)) else (some false)))
def q3_Table.f (k : Nat) (l0_0 : List (S126)) (a0_1 : Int) : Option (Bool) := q3_Table.l0 k 0 l0_0 a0_1
theorem q3_Table.calls (k : Nat) (A0_0 : Option Addr) (c0_0 : Nat) (l0_0 : List (S126)) (a0_1 : Int) (r : Bool) (w : World) (hr0_0 : Kd.C k126 w A0_0 l0_0.length l0_0) (hc0_0 : l0_0.length ≤ c0_0) (h : q3_Table.f k l0_0 a0_1 = some r) :
 Calls Tryz.prog 62 #[.agg #[.slice A0_0 l0_0.length c0_0,.int .i64 a0_1]] w fun e w' => e = .returned (.bool r) ∧ Below w.heap.size w w' := by
 have hu24 := Tryz.underlying24
 have hu126 := Tryz.underlying126
 have HR0_0 := am hr0_0
 have HC0_0 := am hc0_0
 clear hr0_0 hc0_0
 have HB := am (Below.refl w.heap.size w)
 have H : (q3_Table.l0 k 0 l0_0 a0_1) = some r := h
 clear h
 replace H' := am H
 go_enter Tryz.func62,Tryz.ntmps62
 go_wp2_with (first | ((refine gate_dst (N := 1) rfl ?_);refine box_event rfl (N := 1) rfl (cs := #[.slice A0_0 l0_0.length c0_0,.int .i64 a0_1]) (t := 24) ?hr ?_;(case hr => go_simp;try rfl);intro gb462 hg w2 hbox hb;have BK462 := am (hbox);have GW462 := am (ge_new (HB.out) hg);have GE462 := am (ge_new (HB.out) hg);replace HB := am (below_step (HB.out) hb);clear hb hbox hg))
 go_loopg [3] k (fun kq v3 w' => ∃ (x3_1 : Int),v3 = .int .i64 x3_1 ∧ Aside0 (q3_Table.l0 kq x3_1 l0_0 a0_1 = some r) ∧ Aside0 (kq ≤ k) ∧ Aside0 (w'.heap[gb462]? = some (.cells #[(.slice A0_0 l0_0.length c0_0),.int .i64 a0_1] 24 (0,0))) ∧ Aside0 (Below w.heap.size w w'))
 case atStart => exact ⟨(0),(by first | rfl | (simp;done) | (simp [*];done)),H',⟨Nat.le_refl _⟩,⟨by (with_reducible repeat (first | refine blk_drewN ?_ _ | refine blk_drew ?_ | refine blk_alloc ?_ _));exact BK462.out⟩,⟨HB.out⟩⟩
 case round =>
  clear H'
  obtain ⟨x3_1,rfl,HA,HK1,BK462,HB⟩ := hrel
  cases gk with
  | zero => exact absurd HA.out (by simp [q3_Table.l0])
  | succ k1 =>
   have H := HA.out
   clear HA
   simp only [q3_Table.l0] at H
   by_cases c3 : x3_1 < (l0_0.length : Int)
   case neg =>
    rw [if_neg c3] at H
    have c3b0 : decide (x3_1 < (l0_0.length : Int)) = false := decide_eq_false c3
    clear c3
    replace H := obm H
    obtain ⟨t463,A270,H⟩ := H
    replace H : (if t463 = true then ((q3_in.f a0_1 0 100).bind fun t464 => (some t464)) else (some false)) = some r := H
    have A27 := am A270
    clear A270
    by_cases c28 : t463 = true
    case neg =>
     replace c28 := Bool.eq_false_iff.mpr c28
     subst c28
     replace H : (some false) = some r := by rw [if_neg (show ¬ (false = true) by decide)] at H;exact H
     obtain rfl := Option.some.inj H
     obtain ⟨hcz31_0,hcz31_1⟩ := cO2 BK462.out
     have hfz31_0 := blk_frozen BK462.out 0
     have hfz31_1 := blk_frozen BK462.out 1
     go_wp2_with (first | ((with_reducible refine gate_callee (f := 101) rfl ?_);refine goesL_ (some 36) rfl rfl Tryz.func101 (by kernel_rfl) rfl #[.int .i64 (l0_0.length : Int),.int .i64 1,.int .i64 12] rfl (by (try simp only [List.map_toArray,List.map_cons,List.map_nil]);first | done | rfl | (simp only [List.length_drop,List.length_take];rfl)) ?_;(with_reducible refine (q3_in.calls (l0_0.length : Int) 1 12 false _ A27.out).mono ?_);rintro e w' ⟨rfl,⟨nd,rfl⟩⟩;refine ⟨_,rfl,?_⟩))
     go_ret
     exact ⟨by first | rfl | (simp [*] <;> rfl),pw_below_drewN HB.out _⟩
    subst c28
    replace H : ((q3_in.f a0_1 0 100).bind fun t464 => (some t464)) = some r := by rw [if_pos rfl] at H;exact H
    replace H := obm H
    obtain ⟨t464,A290,H⟩ := H
    replace H : (some t464) = some r := H
    have A29 := am A290
    clear A290
    obtain rfl := Option.some.inj H
    obtain ⟨hcz30_0,hcz30_1⟩ := cO2 BK462.out
    have hfz30_0 := blk_frozen BK462.out 0
    have hfz30_1 := blk_frozen BK462.out 1
    go_wp2_with (first | ((with_reducible refine gate_callee (f := 101) rfl ?_);refine goesL_ (some 36) rfl rfl Tryz.func101 (by kernel_rfl) rfl #[.int .i64 (l0_0.length : Int),.int .i64 1,.int .i64 12] rfl (by (try simp only [List.map_toArray,List.map_cons,List.map_nil]);first | done | rfl | (simp only [List.length_drop,List.length_take];rfl)) ?_;(with_reducible refine (q3_in.calls (l0_0.length : Int) 1 12 true _ A27.out).mono ?_);rintro e w' ⟨rfl,⟨nd,rfl⟩⟩;refine ⟨_,rfl,?_⟩) | (go_at_call 101;(with_reducible refine (q3_in.calls a0_1 0 100 t464 _ A29.out).mono ?_);rintro e w' ⟨rfl,⟨nd,rfl⟩⟩))
    go_ret
    exact ⟨by first | rfl | (simp [*] <;> rfl),pw_below_drewN HB.out _⟩
   rw [if_pos c3] at H
   have c3b0 : decide (x3_1 < (l0_0.length : Int)) = true := decide_eq_true c3
   clear c3
   by_cases c4 : 0 ≤ x3_1
   case neg =>
    rw [if_neg c4] at H
    exact absurd H (by simp)
   rw [if_pos c4] at H
   have c4b0 : decide (0 ≤ x3_1) = true := decide_eq_true c4
   clear c4
   replace H := obm H
   obtain ⟨t467,A50,H⟩ := H
   replace H : (if t467 = true then ((q3_in.f ((rd_T126 l0_0 x3_1).f1) 1 60).bind fun t468 => (if t468 = true then ((q3_in.f ((rd_T126 l0_0 x3_1).f2) 1 1000).bind fun t469 => (if t469 = true then (q3_Table.l0 k1 (wrap64 (x3_1 + 1)) l0_0 a0_1) else (some false))) else (some false))) else (some false)) = some r := H
   have A5 := am A50
   clear A50
   by_cases c6 : t467 = true
   case neg =>
    replace c6 := Bool.eq_false_iff.mpr c6
    subst c6
    replace H : (some false) = some r := by rw [if_neg (show ¬ (false = true) by decide)] at H;exact H
    obtain rfl := Option.some.inj H
    obtain ⟨hcz23_0,hcz23_1⟩ := cO2 BK462.out
    have hfz23_0 := blk_frozen BK462.out 0
    have hfz23_1 := blk_frozen BK462.out 1
    have p465 : 0 ≤ (x3_1 : Int) := of_decide_eq_true (by assumption)
    have q465 : x3_1 < (l0_0.length : Int) := of_decide_eq_true (by assumption)
    obtain ⟨ad465,e465,hx465_0,hx465_1,hx465_2⟩ := at_T126 HR0_0.out x3_1 p465 q465
    cases e465
    replace hx465_0 := (HB.out.cell (wbl hx465_0)).trans hx465_0
    replace hx465_1 := (HB.out.cell (wbl hx465_1)).trans hx465_1
    replace hx465_2 := (HB.out.cell (wbl hx465_2)).trans hx465_2
    replace p465 := eq_true p465
    replace q465 := eq_true q465
    go_wp2_with (first | ((refine gate_dst (N := 4) rfl ?_);refine box_event rfl (N := 4) rfl (cs := #[.int .i64 0,.int .i64 0,.int .i64 0]) (t := 126) ?hr ?_;(case hr => go_simp;try rfl);intro gb466 hg w24 hbox hb;have BK466 := am (hbox);have GW466 := am (ge_new (HB.out) hg);have GE466 := am (ge_new (HB.out) hg);have NB462_466 := am ((by rw [hg];exact Nat.ne_of_lt (blk_lt (g := gb462) (o := .cells #[.slice (some ad465) l0_0.length c0_0,.int .i64 a0_1] 24 (0,0)) (by (with_reducible repeat (first | refine blk_drewN ?_ _ | refine blk_drew ?_ | refine blk_alloc ?_ _));exact BK462.out)) : gb462 ≠ gb466));have NB466_462 := am ((by rw [hg];exact Nat.ne_of_gt (blk_lt (g := gb462) (o := .cells #[.slice (some ad465) l0_0.length c0_0,.int .i64 a0_1] 24 (0,0)) (by (with_reducible repeat (first | refine blk_drewN ?_ _ | refine blk_drew ?_ | refine blk_alloc ?_ _));exact BK462.out)) : gb466 ≠ gb462));replace BK462 := am (blk_below (g := gb462) (o := .cells #[.slice (some ad465) l0_0.length c0_0,.int .i64 a0_1] 24 (0,0)) (by (with_reducible repeat (first | refine blk_drewN ?_ _ | refine blk_drew ?_ | refine blk_alloc ?_ _));exact BK462.out) hb);replace HB := am (below_step (HB.out) hb);clear hb hbox hg;have hnb25 := NB466_462.out;have hnc25 := NB462_466.out;obtain ⟨hcz26_0,hcz26_1,hcz26_2⟩ := cO3 BK466.out;have hfz26_0 := blk_frozen BK466.out 0;have hfz26_1 := blk_frozen BK466.out 1;have hfz26_2 := blk_frozen BK466.out 2) | ((with_reducible refine gate_callee (f := 101) rfl ?_);refine goesL_ (some 19) rfl rfl Tryz.func101 (by kernel_rfl) rfl #[.int .i64 ((rd_T126 l0_0 x3_1).f0),.int .i64 1,.int .i64 60] rfl (by (try simp only [List.map_toArray,List.map_cons,List.map_nil]);first | done | rfl | (simp only [List.length_drop,List.length_take];rfl)) ?_;(with_reducible refine (q3_in.calls ((rd_T126 l0_0 x3_1).f0) 1 60 false _ A5.out).mono ?_);rintro e w' ⟨rfl,⟨nd,rfl⟩⟩;refine ⟨_,rfl,?_⟩))
    go_ret
    exact ⟨by first | rfl | (simp [*] <;> rfl),by repeat (first | (with_reducible first | exact HB.out | refine below_set ?_ (Aside0.out (by assumption)) | apply below_alloc | apply pw_below_drewN) | exact HB.out)⟩
   subst c6
   replace H : ((q3_in.f ((rd_T126 l0_0 x3_1).f1) 1 60).bind fun t468 => (if t468 = true then ((q3_in.f ((rd_T126 l0_0 x3_1).f2) 1 1000).bind fun t469 => (if t469 = true then (q3_Table.l0 k1 (wrap64 (x3_1 + 1)) l0_0 a0_1) else (some false))) else (some false))) = some r := by rw [if_pos rfl] at H;exact H
   replace H := obm H
   obtain ⟨t468,A70,H⟩ := H
   replace H : (if t468 = true then ((q3_in.f ((rd_T126 l0_0 x3_1).f2) 1 1000).bind fun t469 => (if t469 = true then (q3_Table.l0 k1 (wrap64 (x3_1 + 1)) l0_0 a0_1) else (some false))) else (some false)) = some r := H
   have A7 := am A70
   clear A70
   by_cases c8 : t468 = true
   case neg =>
    replace c8 := Bool.eq_false_iff.mpr c8
    subst c8
    replace H : (some false) = some r := by rw [if_neg (show ¬ (false = true) by decide)] at H;exact H
    obtain rfl := Option.some.inj H
    obtain ⟨hcz19_0,hcz19_1⟩ := cO2 BK462.out
    have hfz19_0 := blk_frozen BK462.out 0
    have hfz19_1 := blk_frozen BK462.out 1
    have p465 : 0 ≤ (x3_1 : Int) := of_decide_eq_true (by assumption)
    have q465 : x3_1 < (l0_0.length : Int) := of_decide_eq_true (by assumption)
    obtain ⟨ad465,e465,hx465_0,hx465_1,hx465_2⟩ := at_T126 HR0_0.out x3_1 p465 q465
    cases e465
    replace hx465_0 := (HB.out.cell (wbl hx465_0)).trans hx465_0
    replace hx465_1 := (HB.out.cell (wbl hx465_1)).trans hx465_1
    replace hx465_2 := (HB.out.cell (wbl hx465_2)).trans hx465_2
    replace p465 := eq_true p465
    replace q465 := eq_true q465
    go_wp2_with (first | ((refine gate_dst (N := 4) rfl ?_);refine box_event rfl (N := 4) rfl (cs := #[.int .i64 0,.int .i64 0,.int .i64 0]) (t := 126) ?hr ?_;(case hr => go_simp;try rfl);intro gb466 hg w20 hbox hb;have BK466 := am (hbox);have GW466 := am (ge_new (HB.out) hg);have GE466 := am (ge_new (HB.out) hg);have NB462_466 := am ((by rw [hg];exact Nat.ne_of_lt (blk_lt (g := gb462) (o := .cells #[.slice (some ad465) l0_0.length c0_0,.int .i64 a0_1] 24 (0,0)) (by (with_reducible repeat (first | refine blk_drewN ?_ _ | refine blk_drew ?_ | refine blk_alloc ?_ _));exact BK462.out)) : gb462 ≠ gb466));have NB466_462 := am ((by rw [hg];exact Nat.ne_of_gt (blk_lt (g := gb462) (o := .cells #[.slice (some ad465) l0_0.length c0_0,.int .i64 a0_1] 24 (0,0)) (by (with_reducible repeat (first | refine blk_drewN ?_ _ | refine blk_drew ?_ | refine blk_alloc ?_ _));exact BK462.out)) : gb466 ≠ gb462));replace BK462 := am (blk_below (g := gb462) (o := .cells #[.slice (some ad465) l0_0.length c0_0,.int .i64 a0_1] 24 (0,0)) (by (with_reducible repeat (first | refine blk_drewN ?_ _ | refine blk_drew ?_ | refine blk_alloc ?_ _));exact BK462.out) hb);replace HB := am (below_step (HB.out) hb);clear hb hbox hg;have hnb21 := NB466_462.out;have hnc21 := NB462_466.out;obtain ⟨hcz22_0,hcz22_1,hcz22_2⟩ := cO3 BK466.out;have hfz22_0 := blk_frozen BK466.out 0;have hfz22_1 := blk_frozen BK466.out 1;have hfz22_2 := blk_frozen BK466.out 2) | ((with_reducible refine gate_callee (f := 101) rfl ?_);refine goesL_ (some 19) rfl rfl Tryz.func101 (by kernel_rfl) rfl #[.int .i64 ((rd_T126 l0_0 x3_1).f0),.int .i64 1,.int .i64 60] rfl (by (try simp only [List.map_toArray,List.map_cons,List.map_nil]);first | done | rfl | (simp only [List.length_drop,List.length_take];rfl)) ?_;(with_reducible refine (q3_in.calls ((rd_T126 l0_0 x3_1).f0) 1 60 true _ A5.out).mono ?_);rintro e w' ⟨rfl,⟨nd,rfl⟩⟩;refine ⟨_,rfl,?_⟩) | (go_at_call 101;(with_reducible refine (q3_in.calls ((rd_T126 l0_0 x3_1).f1) 1 60 false _ A7.out).mono ?_);rintro e w' ⟨rfl,⟨nd,rfl⟩⟩))
    go_ret
    exact ⟨by first | rfl | (simp [*] <;> rfl),by repeat (first | (with_reducible first | exact HB.out | refine below_set ?_ (Aside0.out (by assumption)) | apply below_alloc | apply pw_below_drewN) | exact HB.out)⟩
   subst c8
   replace H : ((q3_in.f ((rd_T126 l0_0 x3_1).f2) 1 1000).bind fun t469 => (if t469 = true then (q3_Table.l0 k1 (wrap64 (x3_1 + 1)) l0_0 a0_1) else (some false))) = some r := by rw [if_pos rfl] at H;exact H
   replace H := obm H
   obtain ⟨t469,A90,H⟩ := H
   replace H : (if t469 = true then (q3_Table.l0 k1 (wrap64 (x3_1 + 1)) l0_0 a0_1) else (some false)) = some r := H
   have A9 := am A90
   clear A90
   by_cases c10 : t469 = true
   · subst c10
     replace H : (q3_Table.l0 k1 (wrap64 (x3_1 + 1)) l0_0 a0_1) = some r := by rw [if_pos rfl] at H;exact H
     replace H' := am H
     obtain ⟨hcz11_0,hcz11_1⟩ := cO2 BK462.out
     have hfz11_0 := blk_frozen BK462.out 0
     have hfz11_1 := blk_frozen BK462.out 1
     have p465 : 0 ≤ (x3_1 : Int) := of_decide_eq_true (by assumption)
     have q465 : x3_1 < (l0_0.length : Int) := of_decide_eq_true (by assumption)
     obtain ⟨ad465,e465,hx465_0,hx465_1,hx465_2⟩ := at_T126 HR0_0.out x3_1 p465 q465
     cases e465
     replace hx465_0 := (HB.out.cell (wbl hx465_0)).trans hx465_0
     replace hx465_1 := (HB.out.cell (wbl hx465_1)).trans hx465_1
     replace hx465_2 := (HB.out.cell (wbl hx465_2)).trans hx465_2
     replace p465 := eq_true p465
     replace q465 := eq_true q465
     go_wp2_with (first | ((refine gate_dst (N := 4) rfl ?_);refine box_event rfl (N := 4) rfl (cs := #[.int .i64 0,.int .i64 0,.int .i64 0]) (t := 126) ?hr ?_;(case hr => go_simp;try rfl);intro gb466 hg w12 hbox hb;have BK466 := am (hbox);have GW466 := am (ge_new (HB.out) hg);have GE466 := am (ge_new (HB.out) hg);have NB462_466 := am ((by rw [hg];exact Nat.ne_of_lt (blk_lt (g := gb462) (o := .cells #[.slice (some ad465) l0_0.length c0_0,.int .i64 a0_1] 24 (0,0)) (by (with_reducible repeat (first | refine blk_drewN ?_ _ | refine blk_drew ?_ | refine blk_alloc ?_ _));exact BK462.out)) : gb462 ≠ gb466));have NB466_462 := am ((by rw [hg];exact Nat.ne_of_gt (blk_lt (g := gb462) (o := .cells #[.slice (some ad465) l0_0.length c0_0,.int .i64 a0_1] 24 (0,0)) (by (with_reducible repeat (first | refine blk_drewN ?_ _ | refine blk_drew ?_ | refine blk_alloc ?_ _));exact BK462.out)) : gb466 ≠ gb462));replace BK462 := am (blk_below (g := gb462) (o := .cells #[.slice (some ad465) l0_0.length c0_0,.int .i64 a0_1] 24 (0,0)) (by (with_reducible repeat (first | refine blk_drewN ?_ _ | refine blk_drew ?_ | refine blk_alloc ?_ _));exact BK462.out) hb);replace HB := am (below_step (HB.out) hb);clear hb hbox hg;have hnb13 := NB466_462.out;have hnc13 := NB462_466.out;obtain ⟨hcz14_0,hcz14_1,hcz14_2⟩ := cO3 BK466.out;have hfz14_0 := blk_frozen BK466.out 0;have hfz14_1 := blk_frozen BK466.out 1;have hfz14_2 := blk_frozen BK466.out 2) | ((with_reducible refine gate_callee (f := 101) rfl ?_);refine goesL_ (some 19) rfl rfl Tryz.func101 (by kernel_rfl) rfl #[.int .i64 ((rd_T126 l0_0 x3_1).f0),.int .i64 1,.int .i64 60] rfl (by (try simp only [List.map_toArray,List.map_cons,List.map_nil]);first | done | rfl | (simp only [List.length_drop,List.length_take];rfl)) ?_;(with_reducible refine (q3_in.calls ((rd_T126 l0_0 x3_1).f0) 1 60 true _ A5.out).mono ?_);rintro e w' ⟨rfl,⟨nd,rfl⟩⟩;refine ⟨_,rfl,?_⟩) | (go_at_call 101;(with_reducible refine (q3_in.calls ((rd_T126 l0_0 x3_1).f1) 1 60 true _ A7.out).mono ?_);rintro e w' ⟨rfl,⟨nd,rfl⟩⟩) | (go_at_call 101;(with_reducible refine (q3_in.calls ((rd_T126 l0_0 x3_1).f2) 1 1000 true _ A9.out).mono ?_);rintro e w' ⟨rfl,⟨nd,rfl⟩⟩))
     go_roundg k1
     case measure => have := HK1.out;omega
     case rel => exact ⟨(wrap64 (x3_1 + 1)),(by first | rfl | (simp;done) | (simp [*];done)),H',⟨by have := HK1.out;omega⟩,⟨by (with_reducible repeat (first | refine blk_drewN ?_ _ | refine blk_drew ?_ | refine blk_alloc ?_ _));refine blk_far ?_ NB462_466.out _;(with_reducible repeat (first | refine blk_drewN ?_ _ | refine blk_drew ?_ | refine blk_alloc ?_ _));refine blk_far ?_ NB462_466.out _;(with_reducible repeat (first | refine blk_drewN ?_ _ | refine blk_drew ?_ | refine blk_alloc ?_ _));refine blk_far ?_ NB462_466.out _;(with_reducible repeat (first | refine blk_drewN ?_ _ | refine blk_drew ?_ | refine blk_alloc ?_ _));exact BK462.out⟩,⟨by repeat (first | (with_reducible first | exact HB.out | refine below_set ?_ (Aside0.out (by assumption)) | apply below_alloc | apply pw_below_drewN) | exact HB.out)⟩⟩
   · replace c10 := Bool.eq_false_iff.mpr c10
     subst c10
     replace H : (some false) = some r := by rw [if_neg (show ¬ (false = true) by decide)] at H;exact H
     obtain rfl := Option.some.inj H
     obtain ⟨hcz15_0,hcz15_1⟩ := cO2 BK462.out
     have hfz15_0 := blk_frozen BK462.out 0
     have hfz15_1 := blk_frozen BK462.out 1
     have p465 : 0 ≤ (x3_1 : Int) := of_decide_eq_true (by assumption)
     have q465 : x3_1 < (l0_0.length : Int) := of_decide_eq_true (by assumption)
     obtain ⟨ad465,e465,hx465_0,hx465_1,hx465_2⟩ := at_T126 HR0_0.out x3_1 p465 q465
     cases e465
     replace hx465_0 := (HB.out.cell (wbl hx465_0)).trans hx465_0
     replace hx465_1 := (HB.out.cell (wbl hx465_1)).trans hx465_1
     replace hx465_2 := (HB.out.cell (wbl hx465_2)).trans hx465_2
     replace p465 := eq_true p465
     replace q465 := eq_true q465
     go_wp2_with (first | ((refine gate_dst (N := 4) rfl ?_);refine box_event rfl (N := 4) rfl (cs := #[.int .i64 0,.int .i64 0,.int .i64 0]) (t := 126) ?hr ?_;(case hr => go_simp;try rfl);intro gb466 hg w16 hbox hb;have BK466 := am (hbox);have GW466 := am (ge_new (HB.out) hg);have GE466 := am (ge_new (HB.out) hg);have NB462_466 := am ((by rw [hg];exact Nat.ne_of_lt (blk_lt (g := gb462) (o := .cells #[.slice (some ad465) l0_0.length c0_0,.int .i64 a0_1] 24 (0,0)) (by (with_reducible repeat (first | refine blk_drewN ?_ _ | refine blk_drew ?_ | refine blk_alloc ?_ _));exact BK462.out)) : gb462 ≠ gb466));have NB466_462 := am ((by rw [hg];exact Nat.ne_of_gt (blk_lt (g := gb462) (o := .cells #[.slice (some ad465) l0_0.length c0_0,.int .i64 a0_1] 24 (0,0)) (by (with_reducible repeat (first | refine blk_drewN ?_ _ | refine blk_drew ?_ | refine blk_alloc ?_ _));exact BK462.out)) : gb466 ≠ gb462));replace BK462 := am (blk_below (g := gb462) (o := .cells #[.slice (some ad465) l0_0.length c0_0,.int .i64 a0_1] 24 (0,0)) (by (with_reducible repeat (first | refine blk_drewN ?_ _ | refine blk_drew ?_ | refine blk_alloc ?_ _));exact BK462.out) hb);replace HB := am (below_step (HB.out) hb);clear hb hbox hg;have hnb17 := NB466_462.out;have hnc17 := NB462_466.out;obtain ⟨hcz18_0,hcz18_1,hcz18_2⟩ := cO3 BK466.out;have hfz18_0 := blk_frozen BK466.out 0;have hfz18_1 := blk_frozen BK466.out 1;have hfz18_2 := blk_frozen BK466.out 2) | ((with_reducible refine gate_callee (f := 101) rfl ?_);refine goesL_ (some 19) rfl rfl Tryz.func101 (by kernel_rfl) rfl #[.int .i64 ((rd_T126 l0_0 x3_1).f0),.int .i64 1,.int .i64 60] rfl (by (try simp only [List.map_toArray,List.map_cons,List.map_nil]);first | done | rfl | (simp only [List.length_drop,List.length_take];rfl)) ?_;(with_reducible refine (q3_in.calls ((rd_T126 l0_0 x3_1).f0) 1 60 true _ A5.out).mono ?_);rintro e w' ⟨rfl,⟨nd,rfl⟩⟩;refine ⟨_,rfl,?_⟩) | (go_at_call 101;(with_reducible refine (q3_in.calls ((rd_T126 l0_0 x3_1).f1) 1 60 true _ A7.out).mono ?_);rintro e w' ⟨rfl,⟨nd,rfl⟩⟩) | (go_at_call 101;(with_reducible refine (q3_in.calls ((rd_T126 l0_0 x3_1).f2) 1 1000 false _ A9.out).mono ?_);rintro e w' ⟨rfl,⟨nd,rfl⟩⟩))
     go_ret
     exact ⟨by first | rfl | (simp [*] <;> rfl),by repeat (first | (with_reducible first | exact HB.out | refine below_set ?_ (Aside0.out (by assumption)) | apply below_alloc | apply pw_below_drewN) | exact HB.out)⟩
def q4_Basin.l0 : Nat → Int → List (S126) → Int → List (S64) → Int → Int → Option (Bool)
 | 0,_,_,_,_,_,_ => none
 | k + 1,x3,x471000,x471001,x471002,x471003,x471004 => if x3 < (x471002.length : Int) then (if 0 ≤ x3 then ((q4_in.f ((rd_T64 x471002 x3).f0) 0 (wrap64 ((x471000.length : Int) - 1))).bind fun t472 => (if t472 = true then ((q4_Height.f ((rd_T64 x471002 x3).f1)).bind fun t474 => (if t474 = true then (q4_Basin.l0 k (wrap64 (x3 + 1)) x471000 x471001 x471002 x471003 x471004) else (some false))) else (some false))) else (none)) else ((q3_Table.f k x471000 x471001).bind fun t475 => (if t475 = true then ((q4_in.f (x471002.length : Int) 1 6).bind fun t476 => (if t476 = true then ((q4_Height.f x471003).bind fun t477 => (if t477 = true then ((q4_in.f x471004 0 100).bind fun t478 => (some t478)) else (some false))) else (some false))) else (some false)))
def q4_Basin.f (k : Nat) (l0_0 : List (S126)) (a0_1 : Int) (l0_2 : List (S64)) (a0_3 : Int) (a0_4 : Int) : Option (Bool) := q4_Basin.l0 k 0 l0_0 a0_1 l0_2 a0_3 a0_4
theorem in_w {a b c : Int} {r : Bool} (h : q4_in.f a b (wrap64 c) = some r) : q4_in.f a b (IntKind.i64.wrap c) = some r := by rw [i64_w];exact h
theorem q4_Basin.calls (k : Nat) (A0_0 : Option Addr) (c0_0 : Nat) (l0_0 : List (S126)) (a0_1 : Int) (A0_2 : Option Addr) (c0_2 : Nat) (l0_2 : List (S64)) (a0_3 : Int) (a0_4 : Int) (r : Bool) (w : World) (hr0_0 : Kd.C k126 w A0_0 l0_0.length l0_0) (hc0_0 : l0_0.length ≤ c0_0) (hr0_2 : Kd.C k64 w A0_2 l0_2.length l0_2) (hc0_2 : l0_2.length ≤ c0_2) (h : q4_Basin.f k l0_0 a0_1 l0_2 a0_3 a0_4 = some r) :
 Calls Tryz.prog 17 #[.agg #[.slice A0_0 l0_0.length c0_0,.int .i64 a0_1,.slice A0_2 l0_2.length c0_2,.int .i64 a0_3,.int .i64 a0_4]] w fun e w' => e = .returned (.bool r) ∧ Below w.heap.size w w' := by
 have hu27 := Tryz.underlying27
 have hu24 := Tryz.underlying24
 have HR0_0 := am hr0_0
 have HC0_0 := am hc0_0
 clear hr0_0 hc0_0
 have HR0_2 := am hr0_2
 have HC0_2 := am hc0_2
 clear hr0_2 hc0_2
 have HB := am (Below.refl w.heap.size w)
 have H : (q4_Basin.l0 k 0 l0_0 a0_1 l0_2 a0_3 a0_4) = some r := h
 clear h
 replace H' := am H
 go_enter Tryz.func17,Tryz.ntmps17
 go_wp2_with (first | ((refine gate_dst (N := 1) rfl ?_);(try (refine gate_guard (by rfl) ?_;dsimp only));refine box_event rfl (N := 1) rfl (cs := #[.slice A0_0 l0_0.length c0_0,.int .i64 a0_1,.slice A0_2 l0_2.length c0_2,.int .i64 a0_3,.int .i64 a0_4]) (t := 27) ?hr ?_;(case hr => go_simp;try rfl);intro gb470 hg w2 hbox hb;have BK470 := am (hbox);have GW470 := am (ge_new (HB.out) hg);have GE470 := am (ge_new (HB.out) hg);replace HB := am (below_step (HB.out) hb);clear hb hbox hg))
 repeat (go_quiet (first | ((refine gate_dst (N := 1) rfl ?_);(try (refine gate_guard (by rfl) ?_;dsimp only));refine box_event rfl (N := 1) rfl (cs := #[.slice A0_0 l0_0.length c0_0,.int .i64 a0_1,.slice A0_2 l0_2.length c0_2,.int .i64 a0_3,.int .i64 a0_4]) (t := 27) ?hr ?_;(case hr => go_simp;try rfl);intro gb470 hg w2 hbox hb;have BK470 := am (hbox);have GW470 := am (ge_new (by repeat (first | (with_reducible first | exact HB.out | apply below_alloc | apply pw_below_drewN) | exact HB.out)) hg);have GE470 := am (ge_new (by repeat (first | (with_reducible first | exact HB.out | apply below_alloc | apply pw_below_drewN) | exact HB.out)) hg);replace HB := am (below_step (by repeat (first | (with_reducible first | exact HB.out | apply below_alloc | apply pw_below_drewN) | exact HB.out)) hb);clear hb hbox hg));try go_wp2_with (first | ((refine gate_dst (N := 1) rfl ?_);(try (refine gate_guard (by rfl) ?_;dsimp only));refine box_event rfl (N := 1) rfl (cs := #[.slice A0_0 l0_0.length c0_0,.int .i64 a0_1,.slice A0_2 l0_2.length c0_2,.int .i64 a0_3,.int .i64 a0_4]) (t := 27) ?hr ?_;(case hr => go_simp;try rfl);intro gb470 hg w2 hbox hb;have BK470 := am (hbox);have GW470 := am (ge_new (by repeat (first | (with_reducible first | exact HB.out | apply below_alloc | apply pw_below_drewN) | exact HB.out)) hg);have GE470 := am (ge_new (by repeat (first | (with_reducible first | exact HB.out | apply below_alloc | apply pw_below_drewN) | exact HB.out)) hg);replace HB := am (below_step (by repeat (first | (with_reducible first | exact HB.out | apply below_alloc | apply pw_below_drewN) | exact HB.out)) hb);clear hb hbox hg)))
 go_loopg [3] k (fun kq v3 w' => ∃ (x3_1 : Int),v3 = .int .i64 x3_1 ∧ Aside0 (q4_Basin.l0 kq x3_1 l0_0 a0_1 l0_2 a0_3 a0_4 = some r) ∧ Aside0 (kq ≤ k) ∧ Aside0 (w'.heap[gb470]? = some (.cells #[(.slice A0_0 l0_0.length c0_0),.int .i64 a0_1,(.slice A0_2 l0_2.length c0_2),.int .i64 a0_3,.int .i64 a0_4] 27 (0,0))) ∧ Aside0 (Below w.heap.size w w'))
 case atStart => exact ⟨(0),(by first | rfl | (simp;done) | (simp [*];done)),H',⟨Nat.le_refl _⟩,⟨BK470.out⟩,⟨HB.out⟩⟩
 case round =>
  clear H'
  obtain ⟨x3_1,rfl,HA,HK1,BK470,HB⟩ := hrel
  cases gk with
  | zero => exact absurd HA.out (by simp [q4_Basin.l0])
  | succ k1 =>
   have H := HA.out
   clear HA
   simp only [q4_Basin.l0] at H
   by_cases c3 : x3_1 < (l0_2.length : Int)
   · rw [if_pos c3] at H
     have c3b0 : decide (x3_1 < (l0_2.length : Int)) = true := decide_eq_true c3
     clear c3
     by_cases c4 : 0 ≤ x3_1
     case neg =>
      rw [if_neg c4] at H
      exact absurd H (by simp)
     rw [if_pos c4] at H
     have c4b0 : decide (0 ≤ x3_1) = true := decide_eq_true c4
     clear c4
     replace H := obm H
     obtain ⟨t472,A50,H⟩ := H
     replace H : (if t472 = true then ((q4_Height.f ((rd_T64 l0_2 x3_1).f1)).bind fun t474 => (if t474 = true then (q4_Basin.l0 k1 (wrap64 (x3_1 + 1)) l0_0 a0_1 l0_2 a0_3 a0_4) else (some false))) else (some false)) = some r := H
     have A5 := am A50
     clear A50
     by_cases c6 : t472 = true
     case neg =>
      replace c6 := Bool.eq_false_iff.mpr c6
      subst c6
      replace H : (some false) = some r := by rw [if_neg (show ¬ (false = true) by decide)] at H;exact H
      obtain rfl := Option.some.inj H
      obtain ⟨hcz11_0,hcz11_1,hcz11_2,hcz11_3,hcz11_4⟩ := cO5 BK470.out
      have p471 : 0 ≤ (x3_1 : Int) := of_decide_eq_true (by assumption)
      have q471 : x3_1 < (l0_2.length : Int) := of_decide_eq_true (by assumption)
      obtain ⟨ad471,e471,hx471_0,hx471_1⟩ := at_T64 HR0_2.out x3_1 p471 q471
      cases e471
      replace hx471_0 := (HB.out.cell (wbl hx471_0)).trans hx471_0
      replace hx471_1 := (HB.out.cell (wbl hx471_1)).trans hx471_1
      replace p471 := eq_true p471
      replace q471 := eq_true q471
      go_wp2_with (first | (go_at_call 61;(with_reducible refine (q4_in.calls ((rd_T64 l0_2 x3_1).f0) 0 (wrap64 ((l0_0.length : Int) - 1)) false _ A5.out).mono ?_);rintro e w' ⟨rfl,⟨nd,rfl⟩⟩;(try first | exact ⟨rfl,_,World.drewN_drewN _ _ _⟩ | exact ⟨rfl,_,Eq.trans (World.drewN_drewN _ _ _) (congrArg (World.drewN _) (Nat.add_assoc _ _ _))⟩)))
      repeat (go_quiet (first | (go_at_call 61;(with_reducible refine (q4_in.calls ((rd_T64 l0_2 x3_1).f0) 0 (wrap64 ((l0_0.length : Int) - 1)) false _ A5.out).mono ?_);rintro e w' ⟨rfl,⟨nd,rfl⟩⟩;(try first | exact ⟨rfl,_,World.drewN_drewN _ _ _⟩ | exact ⟨rfl,_,Eq.trans (World.drewN_drewN _ _ _) (congrArg (World.drewN _) (Nat.add_assoc _ _ _))⟩)));try go_wp2_with (first | (go_at_call 61;(with_reducible refine (q4_in.calls ((rd_T64 l0_2 x3_1).f0) 0 (wrap64 ((l0_0.length : Int) - 1)) false _ A5.out).mono ?_);rintro e w' ⟨rfl,⟨nd,rfl⟩⟩;(try first | exact ⟨rfl,_,World.drewN_drewN _ _ _⟩ | exact ⟨rfl,_,Eq.trans (World.drewN_drewN _ _ _) (congrArg (World.drewN _) (Nat.add_assoc _ _ _))⟩))))
      go_ret
      exact ⟨by first | rfl | (simp [*] <;> rfl),pw_below_drewN HB.out _⟩
     subst c6
     replace H : ((q4_Height.f ((rd_T64 l0_2 x3_1).f1)).bind fun t474 => (if t474 = true then (q4_Basin.l0 k1 (wrap64 (x3_1 + 1)) l0_0 a0_1 l0_2 a0_3 a0_4) else (some false))) = some r := by rw [if_pos rfl] at H;exact H
     replace H := obm H
     obtain ⟨t474,A70,H⟩ := H
     replace H : (if t474 = true then (q4_Basin.l0 k1 (wrap64 (x3_1 + 1)) l0_0 a0_1 l0_2 a0_3 a0_4) else (some false)) = some r := H
     have A7 := am A70
     clear A70
     by_cases c8 : t474 = true
     · subst c8
       replace H : (q4_Basin.l0 k1 (wrap64 (x3_1 + 1)) l0_0 a0_1 l0_2 a0_3 a0_4) = some r := by rw [if_pos rfl] at H;exact H
       replace H' := am H
       obtain ⟨hcz9_0,hcz9_1,hcz9_2,hcz9_3,hcz9_4⟩ := cO5 BK470.out
       have p471 : 0 ≤ (x3_1 : Int) := of_decide_eq_true (by assumption)
       have q471 : x3_1 < (l0_2.length : Int) := of_decide_eq_true (by assumption)
       obtain ⟨ad471,e471,hx471_0,hx471_1⟩ := at_T64 HR0_2.out x3_1 p471 q471
       cases e471
       replace hx471_0 := (HB.out.cell (wbl hx471_0)).trans hx471_0
       replace hx471_1 := (HB.out.cell (wbl hx471_1)).trans hx471_1
       replace p471 := eq_true p471
       replace q471 := eq_true q471
       go_wp2_with (first | (go_at_call 61;(with_reducible refine (q4_in.calls ((rd_T64 l0_2 x3_1).f0) 0 (IntKind.i64.wrap ((l0_0.length : Int) - 1)) true _ (in_w A5.out)).mono ?_);rintro e w' ⟨rfl,⟨nd,rfl⟩⟩;(try first | exact ⟨rfl,_,World.drewN_drewN _ _ _⟩ | exact ⟨rfl,_,Eq.trans (World.drewN_drewN _ _ _) (congrArg (World.drewN _) (Nat.add_assoc _ _ _))⟩);have p473 : 0 ≤ (x3_1 : Int) := of_decide_eq_true (by assumption);have q473 : x3_1 < (l0_2.length : Int) := of_decide_eq_true (by assumption);obtain ⟨ad473,e473,hx473_0,hx473_1⟩ := at_T64 HR0_2.out x3_1 p473 q473;obtain rfl : ad471 = ad473 := (by injection e473);replace hx473_0 := (HB.out.cell (wbl hx473_0)).trans hx473_0;replace hx473_1 := (HB.out.cell (wbl hx473_1)).trans hx473_1;replace p473 := eq_true p473;replace q473 := eq_true q473) | (go_at_call 21;(with_reducible refine (q4_Height.calls ((rd_T64 l0_2 x3_1).f1) true _ A7.out).mono ?_);rintro e w' ⟨rfl,⟨nd,rfl⟩⟩;(try first | exact ⟨rfl,_,World.drewN_drewN _ _ _⟩ | exact ⟨rfl,_,Eq.trans (World.drewN_drewN _ _ _) (congrArg (World.drewN _) (Nat.add_assoc _ _ _))⟩)))
       repeat (go_quiet (first | (go_at_call 61;(with_reducible refine (q4_in.calls ((rd_T64 l0_2 x3_1).f0) 0 (IntKind.i64.wrap ((l0_0.length : Int) - 1)) true _ (in_w A5.out)).mono ?_);rintro e w' ⟨rfl,⟨nd,rfl⟩⟩;(try first | exact ⟨rfl,_,World.drewN_drewN _ _ _⟩ | exact ⟨rfl,_,Eq.trans (World.drewN_drewN _ _ _) (congrArg (World.drewN _) (Nat.add_assoc _ _ _))⟩);have p473 : 0 ≤ (x3_1 : Int) := of_decide_eq_true (by assumption);have q473 : x3_1 < (l0_2.length : Int) := of_decide_eq_true (by assumption);obtain ⟨ad473,e473,hx473_0,hx473_1⟩ := at_T64 HR0_2.out x3_1 p473 q473;obtain rfl : ad471 = ad473 := (by injection e473);replace hx473_0 := (HB.out.cell (wbl hx473_0)).trans hx473_0;replace hx473_1 := (HB.out.cell (wbl hx473_1)).trans hx473_1;replace p473 := eq_true p473;replace q473 := eq_true q473) | (go_at_call 21;(with_reducible refine (q4_Height.calls ((rd_T64 l0_2 x3_1).f1) true _ A7.out).mono ?_);rintro e w' ⟨rfl,⟨nd,rfl⟩⟩;(try first | exact ⟨rfl,_,World.drewN_drewN _ _ _⟩ | exact ⟨rfl,_,Eq.trans (World.drewN_drewN _ _ _) (congrArg (World.drewN _) (Nat.add_assoc _ _ _))⟩)));try go_wp2_with (first | (go_at_call 61;(with_reducible refine (q4_in.calls ((rd_T64 l0_2 x3_1).f0) 0 (IntKind.i64.wrap ((l0_0.length : Int) - 1)) true _ (in_w A5.out)).mono ?_);rintro e w' ⟨rfl,⟨nd,rfl⟩⟩;(try first | exact ⟨rfl,_,World.drewN_drewN _ _ _⟩ | exact ⟨rfl,_,Eq.trans (World.drewN_drewN _ _ _) (congrArg (World.drewN _) (Nat.add_assoc _ _ _))⟩);have p473 : 0 ≤ (x3_1 : Int) := of_decide_eq_true (by assumption);have q473 : x3_1 < (l0_2.length : Int) := of_decide_eq_true (by assumption);obtain ⟨ad473,e473,hx473_0,hx473_1⟩ := at_T64 HR0_2.out x3_1 p473 q473;obtain rfl : ad471 = ad473 := (by injection e473);replace hx473_0 := (HB.out.cell (wbl hx473_0)).trans hx473_0;replace hx473_1 := (HB.out.cell (wbl hx473_1)).trans hx473_1;replace p473 := eq_true p473;replace q473 := eq_true q473) | (go_at_call 21;(with_reducible refine (q4_Height.calls ((rd_T64 l0_2 x3_1).f1) true _ A7.out).mono ?_);rintro e w' ⟨rfl,⟨nd,rfl⟩⟩;(try first | exact ⟨rfl,_,World.drewN_drewN _ _ _⟩ | exact ⟨rfl,_,Eq.trans (World.drewN_drewN _ _ _) (congrArg (World.drewN _) (Nat.add_assoc _ _ _))⟩))))
       go_roundg k1
       case measure => have := HK1.out;omega
       case rel => exact ⟨(wrap64 (x3_1 + 1)),(by first | rfl | (simp;done) | (simp [*];done)),H',⟨by have := HK1.out;omega⟩,⟨BK470.out⟩,⟨pw_below_drewN HB.out _⟩⟩
     · replace c8 := Bool.eq_false_iff.mpr c8
       subst c8
       replace H : (some false) = some r := by rw [if_neg (show ¬ (false = true) by decide)] at H;exact H
       obtain rfl := Option.some.inj H
       obtain ⟨hcz10_0,hcz10_1,hcz10_2,hcz10_3,hcz10_4⟩ := cO5 BK470.out
       have p471 : 0 ≤ (x3_1 : Int) := of_decide_eq_true (by assumption)
       have q471 : x3_1 < (l0_2.length : Int) := of_decide_eq_true (by assumption)
       obtain ⟨ad471,e471,hx471_0,hx471_1⟩ := at_T64 HR0_2.out x3_1 p471 q471
       cases e471
       replace hx471_0 := (HB.out.cell (wbl hx471_0)).trans hx471_0
       replace hx471_1 := (HB.out.cell (wbl hx471_1)).trans hx471_1
       replace p471 := eq_true p471
       replace q471 := eq_true q471
       go_wp2_with (first | (go_at_call 61;(with_reducible refine (q4_in.calls ((rd_T64 l0_2 x3_1).f0) 0 (IntKind.i64.wrap ((l0_0.length : Int) - 1)) true _ (in_w A5.out)).mono ?_);rintro e w' ⟨rfl,⟨nd,rfl⟩⟩;(try first | exact ⟨rfl,_,World.drewN_drewN _ _ _⟩ | exact ⟨rfl,_,Eq.trans (World.drewN_drewN _ _ _) (congrArg (World.drewN _) (Nat.add_assoc _ _ _))⟩);have p473 : 0 ≤ (x3_1 : Int) := of_decide_eq_true (by assumption);have q473 : x3_1 < (l0_2.length : Int) := of_decide_eq_true (by assumption);obtain ⟨ad473,e473,hx473_0,hx473_1⟩ := at_T64 HR0_2.out x3_1 p473 q473;obtain rfl : ad471 = ad473 := (by injection e473);replace hx473_0 := (HB.out.cell (wbl hx473_0)).trans hx473_0;replace hx473_1 := (HB.out.cell (wbl hx473_1)).trans hx473_1;replace p473 := eq_true p473;replace q473 := eq_true q473) | (go_at_call 21;(with_reducible refine (q4_Height.calls ((rd_T64 l0_2 x3_1).f1) false _ A7.out).mono ?_);rintro e w' ⟨rfl,⟨nd,rfl⟩⟩;(try first | exact ⟨rfl,_,World.drewN_drewN _ _ _⟩ | exact ⟨rfl,_,Eq.trans (World.drewN_drewN _ _ _) (congrArg (World.drewN _) (Nat.add_assoc _ _ _))⟩)))
       repeat (go_quiet (first | (go_at_call 61;(with_reducible refine (q4_in.calls ((rd_T64 l0_2 x3_1).f0) 0 (IntKind.i64.wrap ((l0_0.length : Int) - 1)) true _ (in_w A5.out)).mono ?_);rintro e w' ⟨rfl,⟨nd,rfl⟩⟩;(try first | exact ⟨rfl,_,World.drewN_drewN _ _ _⟩ | exact ⟨rfl,_,Eq.trans (World.drewN_drewN _ _ _) (congrArg (World.drewN _) (Nat.add_assoc _ _ _))⟩);have p473 : 0 ≤ (x3_1 : Int) := of_decide_eq_true (by assumption);have q473 : x3_1 < (l0_2.length : Int) := of_decide_eq_true (by assumption);obtain ⟨ad473,e473,hx473_0,hx473_1⟩ := at_T64 HR0_2.out x3_1 p473 q473;obtain rfl : ad471 = ad473 := (by injection e473);replace hx473_0 := (HB.out.cell (wbl hx473_0)).trans hx473_0;replace hx473_1 := (HB.out.cell (wbl hx473_1)).trans hx473_1;replace p473 := eq_true p473;replace q473 := eq_true q473) | (go_at_call 21;(with_reducible refine (q4_Height.calls ((rd_T64 l0_2 x3_1).f1) false _ A7.out).mono ?_);rintro e w' ⟨rfl,⟨nd,rfl⟩⟩;(try first | exact ⟨rfl,_,World.drewN_drewN _ _ _⟩ | exact ⟨rfl,_,Eq.trans (World.drewN_drewN _ _ _) (congrArg (World.drewN _) (Nat.add_assoc _ _ _))⟩)));try go_wp2_with (first | (go_at_call 61;(with_reducible refine (q4_in.calls ((rd_T64 l0_2 x3_1).f0) 0 (IntKind.i64.wrap ((l0_0.length : Int) - 1)) true _ (in_w A5.out)).mono ?_);rintro e w' ⟨rfl,⟨nd,rfl⟩⟩;(try first | exact ⟨rfl,_,World.drewN_drewN _ _ _⟩ | exact ⟨rfl,_,Eq.trans (World.drewN_drewN _ _ _) (congrArg (World.drewN _) (Nat.add_assoc _ _ _))⟩);have p473 : 0 ≤ (x3_1 : Int) := of_decide_eq_true (by assumption);have q473 : x3_1 < (l0_2.length : Int) := of_decide_eq_true (by assumption);obtain ⟨ad473,e473,hx473_0,hx473_1⟩ := at_T64 HR0_2.out x3_1 p473 q473;obtain rfl : ad471 = ad473 := (by injection e473);replace hx473_0 := (HB.out.cell (wbl hx473_0)).trans hx473_0;replace hx473_1 := (HB.out.cell (wbl hx473_1)).trans hx473_1;replace p473 := eq_true p473;replace q473 := eq_true q473) | (go_at_call 21;(with_reducible refine (q4_Height.calls ((rd_T64 l0_2 x3_1).f1) false _ A7.out).mono ?_);rintro e w' ⟨rfl,⟨nd,rfl⟩⟩;(try first | exact ⟨rfl,_,World.drewN_drewN _ _ _⟩ | exact ⟨rfl,_,Eq.trans (World.drewN_drewN _ _ _) (congrArg (World.drewN _) (Nat.add_assoc _ _ _))⟩))))
       go_ret
       exact ⟨by first | rfl | (simp [*] <;> rfl),pw_below_drewN HB.out _⟩
   · rw [if_neg c3] at H
     have c3b0 : decide (x3_1 < (l0_2.length : Int)) = false := decide_eq_false c3
     clear c3
     replace H := obm H
     obtain ⟨t475,A120,H⟩ := H
     replace H : (if t475 = true then ((q4_in.f (l0_2.length : Int) 1 6).bind fun t476 => (if t476 = true then ((q4_Height.f a0_3).bind fun t477 => (if t477 = true then ((q4_in.f a0_4 0 100).bind fun t478 => (some t478)) else (some false))) else (some false))) else (some false)) = some r := H
     have A12 := am A120
     clear A120
     by_cases c13 : t475 = true
     case neg =>
      replace c13 := Bool.eq_false_iff.mpr c13
      subst c13
      replace H : (some false) = some r := by rw [if_neg (show ¬ (false = true) by decide)] at H;exact H
      obtain rfl := Option.some.inj H
      obtain ⟨hcz28_0,hcz28_1,hcz28_2,hcz28_3,hcz28_4⟩ := cO5 BK470.out
      go_wp2_with (first | (go_at_call 62;(with_reducible refine (q3_Table.calls k1 _ _ l0_0 a0_1 false _ ?side1 ?side2 A12.out).mono ?_);(case side1 => exact kC HR0_0.out HB.out);(case side2 => exact HC0_0.out);rintro e w29 ⟨rfl,hb⟩;replace BK470 := (kmv hb BK470);replace HB := am (below_step (HB.out) hb);(try clear hb);(try clear hb2);(try clear hk);(try clear hi)))
      repeat (go_quiet (first | (go_at_call 62;(with_reducible refine (q3_Table.calls k1 _ _ l0_0 a0_1 false _ ?side1 ?side2 A12.out).mono ?_);(case side1 => repeat (first | exact (kC HR0_0.out HB.out) | (with_reducible refine Kd.C_alloc ?_ _) | (with_reducible refine Kd.C_drewN ?_ _) | (with_reducible refine Kd.C_drew ?_)));(case side2 => exact HC0_0.out);rintro e w29 ⟨rfl,hb⟩;replace BK470 := (kmv hb BK470);replace HB := am (below_step (by repeat (first | (with_reducible first | exact HB.out | refine below_set ?_ GE470.out | apply below_alloc | apply pw_below_drewN) | exact HB.out)) hb);(try clear hb);(try clear hb2);(try clear hk);(try clear hi)));try go_wp2_with (first | (go_at_call 62;(with_reducible refine (q3_Table.calls k1 _ _ l0_0 a0_1 false _ ?side1 ?side2 A12.out).mono ?_);(case side1 => repeat (first | exact (kC HR0_0.out HB.out) | (with_reducible refine Kd.C_alloc ?_ _) | (with_reducible refine Kd.C_drewN ?_ _) | (with_reducible refine Kd.C_drew ?_)));(case side2 => exact HC0_0.out);rintro e w29 ⟨rfl,hb⟩;replace BK470 := (kmv hb BK470);replace HB := am (below_step (by repeat (first | (with_reducible first | exact HB.out | refine below_set ?_ GE470.out | apply below_alloc | apply pw_below_drewN) | exact HB.out)) hb);(try clear hb);(try clear hb2);(try clear hk);(try clear hi))))
      go_ret
      exact ⟨by first | rfl | (simp [*] <;> rfl),HB.out⟩
     subst c13
     replace H : ((q4_in.f (l0_2.length : Int) 1 6).bind fun t476 => (if t476 = true then ((q4_Height.f a0_3).bind fun t477 => (if t477 = true then ((q4_in.f a0_4 0 100).bind fun t478 => (some t478)) else (some false))) else (some false))) = some r := by rw [if_pos rfl] at H;exact H
     replace H := obm H
     obtain ⟨t476,A140,H⟩ := H
     replace H : (if t476 = true then ((q4_Height.f a0_3).bind fun t477 => (if t477 = true then ((q4_in.f a0_4 0 100).bind fun t478 => (some t478)) else (some false))) else (some false)) = some r := H
     have A14 := am A140
     clear A140
     by_cases c15 : t476 = true
     case neg =>
      replace c15 := Bool.eq_false_iff.mpr c15
      subst c15
      replace H : (some false) = some r := by rw [if_neg (show ¬ (false = true) by decide)] at H;exact H
      obtain rfl := Option.some.inj H
      obtain ⟨hcz25_0,hcz25_1,hcz25_2,hcz25_3,hcz25_4⟩ := cO5 BK470.out
      go_wp2_with (first | (go_at_call 62;(with_reducible refine (q3_Table.calls k1 _ _ l0_0 a0_1 true _ ?side1 ?side2 A12.out).mono ?_);(case side1 => exact kC HR0_0.out HB.out);(case side2 => exact HC0_0.out);rintro e w26 ⟨rfl,hb⟩;replace BK470 := (kmv hb BK470);replace HB := am (below_step (HB.out) hb);(try clear hb);(try clear hb2);(try clear hk);(try clear hi);obtain ⟨hcz27_0,hcz27_1,hcz27_2,hcz27_3,hcz27_4⟩ := cO5 BK470.out) | (go_at_call 61;(with_reducible refine (q4_in.calls (l0_2.length : Int) 1 6 false _ A14.out).mono ?_);rintro e w' ⟨rfl,⟨nd,rfl⟩⟩;(try first | exact ⟨rfl,_,World.drewN_drewN _ _ _⟩ | exact ⟨rfl,_,Eq.trans (World.drewN_drewN _ _ _) (congrArg (World.drewN _) (Nat.add_assoc _ _ _))⟩)))
      repeat (go_quiet (first | (go_at_call 62;(with_reducible refine (q3_Table.calls k1 _ _ l0_0 a0_1 true _ ?side1 ?side2 A12.out).mono ?_);(case side1 => repeat (first | exact (kC HR0_0.out HB.out) | (with_reducible refine Kd.C_alloc ?_ _) | (with_reducible refine Kd.C_drewN ?_ _) | (with_reducible refine Kd.C_drew ?_)));(case side2 => exact HC0_0.out);rintro e w26 ⟨rfl,hb⟩;replace BK470 := (kmv hb BK470);replace HB := am (below_step (by repeat (first | (with_reducible first | exact HB.out | refine below_set ?_ GE470.out | apply below_alloc | apply pw_below_drewN) | exact HB.out)) hb);(try clear hb);(try clear hb2);(try clear hk);(try clear hi);obtain ⟨hcz27_0,hcz27_1,hcz27_2,hcz27_3,hcz27_4⟩ := cO5 BK470.out) | (go_at_call 61;(with_reducible refine (q4_in.calls (l0_2.length : Int) 1 6 false _ A14.out).mono ?_);rintro e w' ⟨rfl,⟨nd,rfl⟩⟩;(try first | exact ⟨rfl,_,World.drewN_drewN _ _ _⟩ | exact ⟨rfl,_,Eq.trans (World.drewN_drewN _ _ _) (congrArg (World.drewN _) (Nat.add_assoc _ _ _))⟩)));try go_wp2_with (first | (go_at_call 62;(with_reducible refine (q3_Table.calls k1 _ _ l0_0 a0_1 true _ ?side1 ?side2 A12.out).mono ?_);(case side1 => repeat (first | exact (kC HR0_0.out HB.out) | (with_reducible refine Kd.C_alloc ?_ _) | (with_reducible refine Kd.C_drewN ?_ _) | (with_reducible refine Kd.C_drew ?_)));(case side2 => exact HC0_0.out);rintro e w26 ⟨rfl,hb⟩;replace BK470 := (kmv hb BK470);replace HB := am (below_step (by repeat (first | (with_reducible first | exact HB.out | refine below_set ?_ GE470.out | apply below_alloc | apply pw_below_drewN) | exact HB.out)) hb);(try clear hb);(try clear hb2);(try clear hk);(try clear hi);obtain ⟨hcz27_0,hcz27_1,hcz27_2,hcz27_3,hcz27_4⟩ := cO5 BK470.out) | (go_at_call 61;(with_reducible refine (q4_in.calls (l0_2.length : Int) 1 6 false _ A14.out).mono ?_);rintro e w' ⟨rfl,⟨nd,rfl⟩⟩;(try first | exact ⟨rfl,_,World.drewN_drewN _ _ _⟩ | exact ⟨rfl,_,Eq.trans (World.drewN_drewN _ _ _) (congrArg (World.drewN _) (Nat.add_assoc _ _ _))⟩))))
      go_ret
      exact ⟨by first | rfl | (simp [*] <;> rfl),pw_below_drewN HB.out _⟩
     subst c15
     replace H : ((q4_Height.f a0_3).bind fun t477 => (if t477 = true then ((q4_in.f a0_4 0 100).bind fun t478 => (some t478)) else (some false))) = some r := by rw [if_pos rfl] at H;exact H
     replace H := obm H
     obtain ⟨t477,A160,H⟩ := H
     replace H : (if t477 = true then ((q4_in.f a0_4 0 100).bind fun t478 => (some t478)) else (some false)) = some r := H
     have A16 := am A160
     clear A160
     by_cases c17 : t477 = true
     case neg =>
      replace c17 := Bool.eq_false_iff.mpr c17
      subst c17
      replace H : (some false) = some r := by rw [if_neg (show ¬ (false = true) by decide)] at H;exact H
      obtain rfl := Option.some.inj H
      obtain ⟨hcz22_0,hcz22_1,hcz22_2,hcz22_3,hcz22_4⟩ := cO5 BK470.out
      go_wp2_with (first | (go_at_call 62;(with_reducible refine (q3_Table.calls k1 _ _ l0_0 a0_1 true _ ?side1 ?side2 A12.out).mono ?_);(case side1 => exact kC HR0_0.out HB.out);(case side2 => exact HC0_0.out);rintro e w23 ⟨rfl,hb⟩;replace BK470 := (kmv hb BK470);replace HB := am (below_step (HB.out) hb);(try clear hb);(try clear hb2);(try clear hk);(try clear hi);obtain ⟨hcz24_0,hcz24_1,hcz24_2,hcz24_3,hcz24_4⟩ := cO5 BK470.out) | (go_at_call 61;(with_reducible refine (q4_in.calls (l0_2.length : Int) 1 6 true _ A14.out).mono ?_);rintro e w' ⟨rfl,⟨nd,rfl⟩⟩;(try first | exact ⟨rfl,_,World.drewN_drewN _ _ _⟩ | exact ⟨rfl,_,Eq.trans (World.drewN_drewN _ _ _) (congrArg (World.drewN _) (Nat.add_assoc _ _ _))⟩)) | (go_at_call 21;(with_reducible refine (q4_Height.calls a0_3 false _ A16.out).mono ?_);rintro e w' ⟨rfl,⟨nd,rfl⟩⟩;(try first | exact ⟨rfl,_,World.drewN_drewN _ _ _⟩ | exact ⟨rfl,_,Eq.trans (World.drewN_drewN _ _ _) (congrArg (World.drewN _) (Nat.add_assoc _ _ _))⟩)))
      repeat (go_quiet (first | (go_at_call 62;(with_reducible refine (q3_Table.calls k1 _ _ l0_0 a0_1 true _ ?side1 ?side2 A12.out).mono ?_);(case side1 => repeat (first | exact (kC HR0_0.out HB.out) | (with_reducible refine Kd.C_alloc ?_ _) | (with_reducible refine Kd.C_drewN ?_ _) | (with_reducible refine Kd.C_drew ?_)));(case side2 => exact HC0_0.out);rintro e w23 ⟨rfl,hb⟩;replace BK470 := (kmv hb BK470);replace HB := am (below_step (by repeat (first | (with_reducible first | exact HB.out | refine below_set ?_ GE470.out | apply below_alloc | apply pw_below_drewN) | exact HB.out)) hb);(try clear hb);(try clear hb2);(try clear hk);(try clear hi);obtain ⟨hcz24_0,hcz24_1,hcz24_2,hcz24_3,hcz24_4⟩ := cO5 BK470.out) | (go_at_call 61;(with_reducible refine (q4_in.calls (l0_2.length : Int) 1 6 true _ A14.out).mono ?_);rintro e w' ⟨rfl,⟨nd,rfl⟩⟩;(try first | exact ⟨rfl,_,World.drewN_drewN _ _ _⟩ | exact ⟨rfl,_,Eq.trans (World.drewN_drewN _ _ _) (congrArg (World.drewN _) (Nat.add_assoc _ _ _))⟩)) | (go_at_call 21;(with_reducible refine (q4_Height.calls a0_3 false _ A16.out).mono ?_);rintro e w' ⟨rfl,⟨nd,rfl⟩⟩;(try first | exact ⟨rfl,_,World.drewN_drewN _ _ _⟩ | exact ⟨rfl,_,Eq.trans (World.drewN_drewN _ _ _) (congrArg (World.drewN _) (Nat.add_assoc _ _ _))⟩)));try go_wp2_with (first | (go_at_call 62;(with_reducible refine (q3_Table.calls k1 _ _ l0_0 a0_1 true _ ?side1 ?side2 A12.out).mono ?_);(case side1 => repeat (first | exact (kC HR0_0.out HB.out) | (with_reducible refine Kd.C_alloc ?_ _) | (with_reducible refine Kd.C_drewN ?_ _) | (with_reducible refine Kd.C_drew ?_)));(case side2 => exact HC0_0.out);rintro e w23 ⟨rfl,hb⟩;replace BK470 := (kmv hb BK470);replace HB := am (below_step (by repeat (first | (with_reducible first | exact HB.out | refine below_set ?_ GE470.out | apply below_alloc | apply pw_below_drewN) | exact HB.out)) hb);(try clear hb);(try clear hb2);(try clear hk);(try clear hi);obtain ⟨hcz24_0,hcz24_1,hcz24_2,hcz24_3,hcz24_4⟩ := cO5 BK470.out) | (go_at_call 61;(with_reducible refine (q4_in.calls (l0_2.length : Int) 1 6 true _ A14.out).mono ?_);rintro e w' ⟨rfl,⟨nd,rfl⟩⟩;(try first | exact ⟨rfl,_,World.drewN_drewN _ _ _⟩ | exact ⟨rfl,_,Eq.trans (World.drewN_drewN _ _ _) (congrArg (World.drewN _) (Nat.add_assoc _ _ _))⟩)) | (go_at_call 21;(with_reducible refine (q4_Height.calls a0_3 false _ A16.out).mono ?_);rintro e w' ⟨rfl,⟨nd,rfl⟩⟩;(try first | exact ⟨rfl,_,World.drewN_drewN _ _ _⟩ | exact ⟨rfl,_,Eq.trans (World.drewN_drewN _ _ _) (congrArg (World.drewN _) (Nat.add_assoc _ _ _))⟩))))
      go_ret
      exact ⟨by first | rfl | (simp [*] <;> rfl),pw_below_drewN HB.out _⟩
     subst c17
     replace H : ((q4_in.f a0_4 0 100).bind fun t478 => (some t478)) = some r := by rw [if_pos rfl] at H;exact H
     replace H := obm H
     obtain ⟨t478,A180,H⟩ := H
     replace H : (some t478) = some r := H
     have A18 := am A180
     clear A180
     obtain rfl := Option.some.inj H
     obtain ⟨hcz19_0,hcz19_1,hcz19_2,hcz19_3,hcz19_4⟩ := cO5 BK470.out
     go_wp2_with (first | (go_at_call 62;(with_reducible refine (q3_Table.calls k1 _ _ l0_0 a0_1 true _ ?side1 ?side2 A12.out).mono ?_);(case side1 => exact kC HR0_0.out HB.out);(case side2 => exact HC0_0.out);rintro e w20 ⟨rfl,hb⟩;replace BK470 := (kmv hb BK470);replace HB := am (below_step (HB.out) hb);(try clear hb);(try clear hb2);(try clear hk);(try clear hi);obtain ⟨hcz21_0,hcz21_1,hcz21_2,hcz21_3,hcz21_4⟩ := cO5 BK470.out) | (go_at_call 61;(with_reducible refine (q4_in.calls (l0_2.length : Int) 1 6 true _ A14.out).mono ?_);rintro e w' ⟨rfl,⟨nd,rfl⟩⟩;(try first | exact ⟨rfl,_,World.drewN_drewN _ _ _⟩ | exact ⟨rfl,_,Eq.trans (World.drewN_drewN _ _ _) (congrArg (World.drewN _) (Nat.add_assoc _ _ _))⟩)) | (go_at_call 21;(with_reducible refine (q4_Height.calls a0_3 true _ A16.out).mono ?_);rintro e w' ⟨rfl,⟨nd,rfl⟩⟩;(try first | exact ⟨rfl,_,World.drewN_drewN _ _ _⟩ | exact ⟨rfl,_,Eq.trans (World.drewN_drewN _ _ _) (congrArg (World.drewN _) (Nat.add_assoc _ _ _))⟩)) | (go_at_call 61;(with_reducible refine (q4_in.calls a0_4 0 100 t478 _ A18.out).mono ?_);rintro e w' ⟨rfl,⟨nd,rfl⟩⟩;(try first | exact ⟨rfl,_,World.drewN_drewN _ _ _⟩ | exact ⟨rfl,_,Eq.trans (World.drewN_drewN _ _ _) (congrArg (World.drewN _) (Nat.add_assoc _ _ _))⟩)))
     repeat (go_quiet (first | (go_at_call 62;(with_reducible refine (q3_Table.calls k1 _ _ l0_0 a0_1 true _ ?side1 ?side2 A12.out).mono ?_);(case side1 => repeat (first | exact (kC HR0_0.out HB.out) | (with_reducible refine Kd.C_alloc ?_ _) | (with_reducible refine Kd.C_drewN ?_ _) | (with_reducible refine Kd.C_drew ?_)));(case side2 => exact HC0_0.out);rintro e w20 ⟨rfl,hb⟩;replace BK470 := (kmv hb BK470);replace HB := am (below_step (by repeat (first | (with_reducible first | exact HB.out | refine below_set ?_ GE470.out | apply below_alloc | apply pw_below_drewN) | exact HB.out)) hb);(try clear hb);(try clear hb2);(try clear hk);(try clear hi);obtain ⟨hcz21_0,hcz21_1,hcz21_2,hcz21_3,hcz21_4⟩ := cO5 BK470.out) | (go_at_call 61;(with_reducible refine (q4_in.calls (l0_2.length : Int) 1 6 true _ A14.out).mono ?_);rintro e w' ⟨rfl,⟨nd,rfl⟩⟩;(try first | exact ⟨rfl,_,World.drewN_drewN _ _ _⟩ | exact ⟨rfl,_,Eq.trans (World.drewN_drewN _ _ _) (congrArg (World.drewN _) (Nat.add_assoc _ _ _))⟩)) | (go_at_call 21;(with_reducible refine (q4_Height.calls a0_3 true _ A16.out).mono ?_);rintro e w' ⟨rfl,⟨nd,rfl⟩⟩;(try first | exact ⟨rfl,_,World.drewN_drewN _ _ _⟩ | exact ⟨rfl,_,Eq.trans (World.drewN_drewN _ _ _) (congrArg (World.drewN _) (Nat.add_assoc _ _ _))⟩)) | (go_at_call 61;(with_reducible refine (q4_in.calls a0_4 0 100 t478 _ A18.out).mono ?_);rintro e w' ⟨rfl,⟨nd,rfl⟩⟩;(try first | exact ⟨rfl,_,World.drewN_drewN _ _ _⟩ | exact ⟨rfl,_,Eq.trans (World.drewN_drewN _ _ _) (congrArg (World.drewN _) (Nat.add_assoc _ _ _))⟩)));try go_wp2_with (first | (go_at_call 62;(with_reducible refine (q3_Table.calls k1 _ _ l0_0 a0_1 true _ ?side1 ?side2 A12.out).mono ?_);(case side1 => repeat (first | exact (kC HR0_0.out HB.out) | (with_reducible refine Kd.C_alloc ?_ _) | (with_reducible refine Kd.C_drewN ?_ _) | (with_reducible refine Kd.C_drew ?_)));(case side2 => exact HC0_0.out);rintro e w20 ⟨rfl,hb⟩;replace BK470 := (kmv hb BK470);replace HB := am (below_step (by repeat (first | (with_reducible first | exact HB.out | refine below_set ?_ GE470.out | apply below_alloc | apply pw_below_drewN) | exact HB.out)) hb);(try clear hb);(try clear hb2);(try clear hk);(try clear hi);obtain ⟨hcz21_0,hcz21_1,hcz21_2,hcz21_3,hcz21_4⟩ := cO5 BK470.out) | (go_at_call 61;(with_reducible refine (q4_in.calls (l0_2.length : Int) 1 6 true _ A14.out).mono ?_);rintro e w' ⟨rfl,⟨nd,rfl⟩⟩;(try first | exact ⟨rfl,_,World.drewN_drewN _ _ _⟩ | exact ⟨rfl,_,Eq.trans (World.drewN_drewN _ _ _) (congrArg (World.drewN _) (Nat.add_assoc _ _ _))⟩)) | (go_at_call 21;(with_reducible refine (q4_Height.calls a0_3 true _ A16.out).mono ?_);rintro e w' ⟨rfl,⟨nd,rfl⟩⟩;(try first | exact ⟨rfl,_,World.drewN_drewN _ _ _⟩ | exact ⟨rfl,_,Eq.trans (World.drewN_drewN _ _ _) (congrArg (World.drewN _) (Nat.add_assoc _ _ _))⟩)) | (go_at_call 61;(with_reducible refine (q4_in.calls a0_4 0 100 t478 _ A18.out).mono ?_);rintro e w' ⟨rfl,⟨nd,rfl⟩⟩;(try first | exact ⟨rfl,_,World.drewN_drewN _ _ _⟩ | exact ⟨rfl,_,Eq.trans (World.drewN_drewN _ _ _) (congrArg (World.drewN _) (Nat.add_assoc _ _ _))⟩))))
     go_ret
     exact ⟨by first | rfl | (simp [*] <;> rfl),pw_below_drewN HB.out _⟩
def q4_Cups.f (a0 : Int) : Option (Bool) := (q4_in.f a0 0 10000).bind fun t479 => (some t479)
theorem q4_Cups.calls (a0 : Int) (r : Bool) (w : World) (h : q4_Cups.f a0 = some r) :
 Calls Tryz.prog 18 #[.int .i64 a0] w fun e w' => e = .returned (.bool r) ∧ Drawn0 w w' := by
 have H : ((q4_in.f a0 0 10000).bind fun t479 => (some t479)) = some r := h
 clear h
 replace H := obm H
 obtain ⟨t479,A20,H⟩ := H
 replace H : (some t479) = some r := H
 have A2 := am A20
 clear A20
 obtain rfl := Option.some.inj H
 go_enter Tryz.func18,Tryz.ntmps18
 go_wp2_with (first | ((with_reducible refine gate_callee (f := 61) rfl ?_);refine goesL_ (some 4) rfl rfl Tryz.func61 (by kernel_rfl) rfl #[.int .i64 a0,.int .i64 0,.int .i64 10000] rfl (by (try simp only [List.map_toArray,List.map_cons,List.map_nil]);first | done | rfl | (simp only [List.length_drop,List.length_take];rfl)) ?_;(with_reducible refine (q4_in.calls a0 0 10000 t479 _ A2.out).mono ?_);rintro e w' ⟨rfl,⟨nd,rfl⟩⟩;refine ⟨_,rfl,?_⟩))
 go_ret
 exact ⟨by first | rfl | (simp;done) | (simp [*];done),by repeat (first | exact Drawn0.refl _ | apply Drawn0.step)⟩
def q4_Change.f (l0_0 : List (S126)) (a0_1 : Int) (l0_2 : List (S64)) (a0_3 : Int) (a0_4 : Int) (a1_0 : Int) (a1_1 : Int) : Option (Bool) := (q4_in.f a1_0 0 (wrap64 ((l0_2.length : Int) - 1))).bind fun t716 => (if t716 = true then ((q4_Height.f a1_1).bind fun t717 => (some t717)) else (some false))
theorem q4_Change.calls (A0_0 : Option Addr) (c0_0 : Nat) (l0_0 : List (S126)) (a0_1 : Int) (A0_2 : Option Addr) (c0_2 : Nat) (l0_2 : List (S64)) (a0_3 : Int) (a0_4 : Int) (a1_0 : Int) (a1_1 : Int) (r : Bool) (w : World) (hr0_0 : Kd.C k126 w A0_0 l0_0.length l0_0) (hc0_0 : l0_0.length ≤ c0_0) (hr0_2 : Kd.C k64 w A0_2 l0_2.length l0_2) (hc0_2 : l0_2.length ≤ c0_2) (h : q4_Change.f l0_0 a0_1 l0_2 a0_3 a0_4 a1_0 a1_1 = some r) :
 Calls Tryz.prog 34 #[.agg #[.slice A0_0 l0_0.length c0_0,.int .i64 a0_1,.slice A0_2 l0_2.length c0_2,.int .i64 a0_3,.int .i64 a0_4],.agg #[.int .i64 a1_0,.int .i64 a1_1]] w fun e w' => e = .returned (.bool r) ∧ Below w.heap.size w w' := by
 have hu27 := Tryz.underlying27
 have hu58 := Tryz.underlying58
 have HR0_0 := am hr0_0
 have HC0_0 := am hc0_0
 clear hr0_0 hc0_0
 have HR0_2 := am hr0_2
 have HC0_2 := am hc0_2
 clear hr0_2 hc0_2
 have HB := am (Below.refl w.heap.size w)
 have H : ((q4_in.f a1_0 0 (wrap64 ((l0_2.length : Int) - 1))).bind fun t716 => (if t716 = true then ((q4_Height.f a1_1).bind fun t717 => (some t717)) else (some false))) = some r := h
 clear h
 replace H := obm H
 obtain ⟨t716,A30,H⟩ := H
 replace H : (if t716 = true then ((q4_Height.f a1_1).bind fun t717 => (some t717)) else (some false)) = some r := H
 have A3 := am A30
 clear A30
 by_cases c4 : t716 = true
 case neg =>
  replace c4 := Bool.eq_false_iff.mpr c4
  subst c4
  replace H : (some false) = some r := by rw [if_neg (show ¬ (false = true) by decide)] at H;exact H
  obtain rfl := Option.some.inj H
  go_enter Tryz.func34,Tryz.ntmps34
  go_wp2_with (first | ((refine gate_dst (N := 2) rfl ?_);refine box_event rfl (N := 2) rfl (cs := #[.slice A0_0 l0_0.length c0_0,.int .i64 a0_1,.slice A0_2 l0_2.length c0_2,.int .i64 a0_3,.int .i64 a0_4]) (t := 27) ?hr ?_;(case hr => go_simp;try rfl);intro gb714 hg w11 hbox hb;have BK714 := am (hbox);have GW714 := am (ge_new (HB.out) hg);have GE714 := am (ge_new (HB.out) hg);replace HB := am (below_step (HB.out) hb);clear hb hbox hg) | ((refine gate_dst (N := 3) rfl ?_);refine box_event rfl (N := 3) rfl (cs := #[.int .i64 a1_0,.int .i64 a1_1]) (t := 58) ?hr ?_;(case hr => go_simp;try rfl);intro gb715 hg w12 hbox hb;have BK715 := am (hbox);have GW715 := am (ge_new (HB.out) hg);have GE715 := am (ge_new (HB.out) hg);have NB714_715 := am (ne_new BK714.out hg);have NB715_714 := am (ne_new2 BK714.out hg);replace BK714 := (kmv hb BK714);replace HB := am (below_step (HB.out) hb);clear hb hbox hg;have hnb13 := NB715_714.out;have hnc13 := NB714_715.out;obtain ⟨hcz14_0,hcz14_1⟩ := cO2 BK715.out;obtain ⟨hcz15_0,hcz15_1,hcz15_2,hcz15_3,hcz15_4⟩ := cO5 BK714.out) | ((with_reducible refine gate_callee (f := 61) rfl ?_);refine goesL_ (some 11) rfl rfl Tryz.func61 (by kernel_rfl) rfl #[.int .i64 a1_0,.int .i64 0,.int .i64 (wrap64 ((l0_2.length : Int) - 1))] rfl (by (try simp only [List.map_toArray,List.map_cons,List.map_nil]);first | done | rfl | (simp only [List.length_drop,List.length_take];rfl)) ?_;(refine (q4_in.calls a1_0 0 (wrap64 ((l0_2.length : Int) - 1)) false _ A3.out).mono ?_);rintro e w' ⟨rfl,⟨nd,rfl⟩⟩;refine ⟨_,rfl,?_⟩))
  go_ret
  exact ⟨by first | rfl | (simp [*] <;> rfl),pw_below_drewN HB.out _⟩
 subst c4
 replace H : ((q4_Height.f a1_1).bind fun t717 => (some t717)) = some r := by rw [if_pos rfl] at H;exact H
 replace H := obm H
 obtain ⟨t717,A50,H⟩ := H
 replace H : (some t717) = some r := H
 have A5 := am A50
 clear A50
 obtain rfl := Option.some.inj H
 go_enter Tryz.func34,Tryz.ntmps34
 go_wp2_with (first | ((refine gate_dst (N := 2) rfl ?_);refine box_event rfl (N := 2) rfl (cs := #[.slice A0_0 l0_0.length c0_0,.int .i64 a0_1,.slice A0_2 l0_2.length c0_2,.int .i64 a0_3,.int .i64 a0_4]) (t := 27) ?hr ?_;(case hr => go_simp;try rfl);intro gb714 hg w6 hbox hb;have BK714 := am (hbox);have GW714 := am (ge_new (HB.out) hg);have GE714 := am (ge_new (HB.out) hg);replace HB := am (below_step (HB.out) hb);clear hb hbox hg) | ((refine gate_dst (N := 3) rfl ?_);refine box_event rfl (N := 3) rfl (cs := #[.int .i64 a1_0,.int .i64 a1_1]) (t := 58) ?hr ?_;(case hr => go_simp;try rfl);intro gb715 hg w7 hbox hb;have BK715 := am (hbox);have GW715 := am (ge_new (HB.out) hg);have GE715 := am (ge_new (HB.out) hg);have NB714_715 := am (ne_new BK714.out hg);have NB715_714 := am (ne_new2 BK714.out hg);replace BK714 := (kmv hb BK714);replace HB := am (below_step (HB.out) hb);clear hb hbox hg;have hnb8 := NB715_714.out;have hnc8 := NB714_715.out;obtain ⟨hcz9_0,hcz9_1⟩ := cO2 BK715.out;obtain ⟨hcz10_0,hcz10_1,hcz10_2,hcz10_3,hcz10_4⟩ := cO5 BK714.out) | ((with_reducible refine gate_callee (f := 61) rfl ?_);refine goesL_ (some 11) rfl rfl Tryz.func61 (by kernel_rfl) rfl #[.int .i64 a1_0,.int .i64 0,.int .i64 (wrap64 ((l0_2.length : Int) - 1))] rfl (by (try simp only [List.map_toArray,List.map_cons,List.map_nil]);first | done | rfl | (simp only [List.length_drop,List.length_take];rfl)) ?_;(refine (q4_in.calls a1_0 0 (wrap64 ((l0_2.length : Int) - 1)) true _ A3.out).mono ?_);rintro e w' ⟨rfl,⟨nd,rfl⟩⟩;refine ⟨_,rfl,?_⟩) | (go_at_call 21;(refine (q4_Height.calls a1_1 t717 _ A5.out).mono ?_);rintro e w' ⟨rfl,⟨nd,rfl⟩⟩))
 go_ret
 exact ⟨by first | rfl | (simp [*] <;> rfl),pw_below_drewN HB.out _⟩
end
end Go.Proofs.YticlelgmmonloaaGreatDoor.C

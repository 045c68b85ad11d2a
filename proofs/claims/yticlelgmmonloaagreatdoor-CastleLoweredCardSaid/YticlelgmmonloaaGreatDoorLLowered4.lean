/- A part of the proof: the walks of the functions that it reaches. TIGHT. -/
import Derived.Test.YticlelgmmonloaaGreatDoorLLowered3
import Derived.Test.YticlelgmmonloaaGreatDoorLLowered2
import Derived.Test.YticlelgmmonloaaGreatDoorM18
set_option linter.unusedVariables false
set_option linter.unusedSimpArgs false
namespace Go.Proofs.YticlelgmmonloaaGreatDoor.C
open Go.RowKit Go.Proofs.YticlelgmmonloaaGreatDoorW.PrintWords Go.Proofs.YticlelgmmonloaaGreatDoorW.PrintLast Go.Proofs.YticlelgmmonloaaGreatDoorW.PrintMore
set_option linter.unusedVariables false
set_option linter.unusedSimpArgs false
set_option maxHeartbeats 16000000
set_option maxRecDepth 100000
section
attribute [local go_sem] max2_int min2_int max_two min_two
mutual
def q4_Lowered.l0 : Nat → Int → List (S40) → List (S58) → Int → List (S126) → Int → List (S64) → Int → Int → Option ((List (S58)))
 | 0,_,_,_,_,_,_,_,_,_ => none
 | k + 1,x1,x2,x7,x8,x971000,x971001,x971002,x971003,x971004 => if x8 < (x971002.length : Int) then (q4_Lowered.l1 k x1 x2 x7 x8 0 x971000 x971001 x971002 x971003 x971004) else (some x7)
def q4_Lowered.l1 : Nat → Int → List (S40) → List (S58) → Int → Int → List (S126) → Int → List (S64) → Int → Int → Option ((List (S58)))
 | 0,_,_,_,_,_,_,_,_,_,_ => none
 | k + 1,x1,x2,x7,x8,x9,x971000,x971001,x971002,x971003,x971004 => if x9 ≤ 40 then (if 0 ≤ x8 then (if x8 < (x971002.length : Int) then (if x9 = ((rd_T64 x971002 x8).f1) then (q4_Lowered.l1 k x1 x2 x7 x8 (wrap64 (x9 + 1)) x971000 x971001 x971002 x971003 x971004) else ((q4_With.f x971000 x971001 x971002 x971003 x971004 x8 x9).bind fun t982 => ((q4_Agrees.f k x971000 x971001 t982 x971003 x971004 x1 x2).bind fun t985 => (if t985 = true then (if x7.length < 8796093022208 then (q4_Lowered.l1 k x1 x2 (x7 ++ [(⟨x8,x9⟩ : S58)]) x8 (wrap64 (x9 + 1)) x971000 x971001 x971002 x971003 x971004) else (none)) else (q4_Lowered.l1 k x1 x2 x7 x8 (wrap64 (x9 + 1)) x971000 x971001 x971002 x971003 x971004))))) else (none)) else (none)) else (q4_Lowered.l0 k x1 x2 x7 (wrap64 (x8 + 1)) x971000 x971001 x971002 x971003 x971004)
end
def q4_Lowered.f (k : Nat) (l0_0 : List (S126)) (a0_1 : Int) (l0_2 : List (S64)) (a0_3 : Int) (a0_4 : Int) (a1 : Int) (l2 : List (S40)) : Option ((List (S58))) := q4_Lowered.l0 k a1 l2 ([] : List (S58)) 0 l0_0 a0_1 l0_2 a0_3 a0_4
theorem q4_Lowered.calls (k : Nat) (A0_0 : Option Addr) (c0_0 : Nat) (l0_0 : List (S126)) (a0_1 : Int) (A0_2 : Option Addr) (c0_2 : Nat) (l0_2 : List (S64)) (a0_3 : Int) (a0_4 : Int) (a1 : Int) (A2 : Option Addr) (c2 : Nat) (l2 : List (S40)) (r : List (S58)) (w : World) (hr0_0 : Kd.C k126 w A0_0 l0_0.length l0_0) (hc0_0 : l0_0.length ≤ c0_0) (hr0_2 : Kd.C k64 w A0_2 l0_2.length l0_2) (hc0_2 : l0_2.length ≤ c0_2) (hr2 : Kd.C k40 w A2 l2.length l2) (hc2 : l2.length ≤ c2) (h : q4_Lowered.f k l0_0 a0_1 l0_2 a0_3 a0_4 a1 l2 = some r) :
 Calls Tryz.prog 48 #[.agg #[.slice A0_0 l0_0.length c0_0,.int .i64 a0_1,.slice A0_2 l0_2.length c0_2,.int .i64 a0_3,.int .i64 a0_4],.int .i64 a1,.slice A2 l2.length c2] w fun e w' => ∃ v0_ : Value,e = .returned (v0_) ∧ Kd.R k58 58 w' w.heap.size (fun _ => True) v0_ r ∧ Below w.heap.size w w' := by
 have hu27 := Tryz.underlying27
 have hu58 := Tryz.underlying58
 have HR0_0 := am hr0_0
 have HC0_0 := am hc0_0
 clear hr0_0 hc0_0
 have HR0_2 := am hr0_2
 have HC0_2 := am hc0_2
 clear hr0_2 hc0_2
 have HR2 := am hr2
 have HC2 := am hc2
 clear hr2 hc2
 have HB := am (Below.refl w.heap.size w)
 have H : (q4_Lowered.l0 k a1 l2 ([] : List (S58)) 0 l0_0 a0_1 l0_2 a0_3 a0_4) = some r := h
 clear h
 replace H' := am H
 go_enter Tryz.func48,Tryz.ntmps48
 go_wp2_with (first | ((refine gate_dst (N := 3) rfl ?_);refine box_event rfl (N := 3) rfl (cs := #[.slice A0_0 l0_0.length c0_0,.int .i64 a0_1,.slice A0_2 l0_2.length c0_2,.int .i64 a0_3,.int .i64 a0_4]) (t := 27) ?hr ?_;(case hr => go_simp;try rfl);intro gb970 hg w4 hbox hb;have BK970 := am (hbox);have GW970 := am (ge_new (HB.out) hg);have GE970 := am (ge_new (HB.out) hg);replace HB := am (below_step (HB.out) hb);clear hb hbox hg))
 go_loopg [7,8] k (fun kq v7 v8 w' => ∃ (x7_1 : List (S58)) (x8_1 : Int),v8 = .int .i64 x8_1 ∧ Aside0 (q4_Lowered.l0 kq a1 l2 x7_1 x8_1 l0_0 a0_1 l0_2 a0_3 a0_4 = some r) ∧ Aside0 (kq ≤ k) ∧ Aside0 (Kd.R k58 58 w' w.heap.size (fun _ => True) v7 x7_1) ∧ Aside0 (w'.heap[gb970]? = some (.cells #[(.slice A0_0 l0_0.length c0_0),.int .i64 a0_1,(.slice A0_2 l0_2.length c0_2),.int .i64 a0_3,.int .i64 a0_4] 27 (0,0))) ∧ Aside0 (Below w.heap.size w w'))
 case atStart => exact ⟨(([] : List (S58))),(0),(by first | rfl | (simp;done) | (simp [*];done)),H',⟨Nat.le_refl _⟩,⟨by first | exact Kd.R_nil _ _ _ _ _ | exact Kd.N_nil _ _ _ _ _ | exact Kd.V_nil _ _ _ _ _ | exact Kd.Q_nil _ _ _ _ _ | exact Kd.S_nil _ _ _ _ _⟩,⟨BK970.out⟩,⟨HB.out⟩⟩
 case round =>
  clear H'
  obtain ⟨x7_1,x8_1,rfl,HA,HK1,HO_7,BK970,HB⟩ := hrel
  cases gk with
  | zero => exact absurd HA.out (by simp [q4_Lowered.l0])
  | succ k1 =>
   have H := HA.out
   clear HA
   simp only [q4_Lowered.l0] at H
   by_cases c5 : x8_1 < (l0_2.length : Int)
   case neg =>
    rw [if_neg c5] at H
    have c5b0 : decide (x8_1 < (l0_2.length : Int)) = false := decide_eq_false c5
    clear c5
    obtain rfl := Option.some.inj H
    obtain ⟨hcz35_0,hcz35_1,hcz35_2,hcz35_3,hcz35_4⟩ := cO5 BK970.out
    go_wp2
    go_ret
    exact ⟨_,by first | rfl | (simp [*] <;> rfl),by (with_reducible repeat (first | apply Kd.R_alloc | apply Kd.R_drewN | apply Kd.R_drew));exact HO_7.out,HB.out⟩
   rw [if_pos c5] at H
   have c5b0 : decide (x8_1 < (l0_2.length : Int)) = true := decide_eq_true c5
   clear c5
   replace H' := am H
   obtain ⟨hcz6_0,hcz6_1,hcz6_2,hcz6_3,hcz6_4⟩ := cO5 BK970.out
   go_wp2
   go_loopg [7,9] k1 (fun kq v7 v9 w' => ∃ (x7_2 : List (S58)) (x9_2 : Int),v9 = .int .i64 x9_2 ∧ Aside0 (q4_Lowered.l1 kq a1 l2 x7_2 x8_1 x9_2 l0_0 a0_1 l0_2 a0_3 a0_4 = some r) ∧ Aside0 (kq ≤ k1) ∧ Aside0 (Kd.R k58 58 w' w.heap.size (fun _ => True) v7 x7_2) ∧ Aside0 (w'.heap[gb970]? = some (.cells #[(.slice A0_0 l0_0.length c0_0),.int .i64 a0_1,(.slice A0_2 l0_2.length c0_2),.int .i64 a0_3,.int .i64 a0_4] 27 (0,0))) ∧ Aside0 (Below w.heap.size w w'))
   case atStart => exact ⟨(x7_1),(0),(by first | rfl | (simp;done) | (simp [*];done)),H',⟨Nat.le_refl _⟩,⟨by (with_reducible repeat (first | apply Kd.R_alloc | apply Kd.R_drewN | apply Kd.R_drew));exact HO_7.out⟩,⟨BK970.out⟩,⟨HB.out⟩⟩
   case round =>
    clear H'
    obtain ⟨x7_2,x9_2,rfl,HA,HK2,HO_7,BK970,HB⟩ := hrel
    cases gk with
    | zero => exact absurd HA.out (by simp [q4_Lowered.l1])
    | succ k2 =>
     have H := HA.out
     clear HA
     simp only [q4_Lowered.l1] at H
     by_cases c7 : x9_2 ≤ 40
     case neg =>
      rw [if_neg c7] at H
      have c7b0 : decide (x9_2 ≤ 40) = false := decide_eq_false c7
      clear c7
      replace H' := am H
      go_wp2
      go_roundg k2
      case measure => have := HK1.out;have := HK2.out;omega
      case rel => exact ⟨(x7_2),(wrap64 (x8_1 + 1)),(by first | rfl | (simp;done) | (simp [*];done)),H',⟨by have := HK1.out;have := HK2.out;omega⟩,⟨by (with_reducible repeat (first | apply Kd.R_alloc | apply Kd.R_drewN | apply Kd.R_drew));exact HO_7.out⟩,⟨BK970.out⟩,⟨HB.out⟩⟩
     rw [if_pos c7] at H
     have c7b0 : decide (x9_2 ≤ 40) = true := decide_eq_true c7
     clear c7
     by_cases c8 : 0 ≤ x8_1
     case neg =>
      rw [if_neg c8] at H
      exact absurd H (by simp)
     rw [if_pos c8] at H
     have c8b0 : decide (0 ≤ x8_1) = true := decide_eq_true c8
     clear c8
     by_cases c9 : x8_1 < (l0_2.length : Int)
     case neg =>
      rw [if_neg c9] at H
      exact absurd H (by simp)
     rw [if_pos c9] at H
     have c9b0 : decide (x8_1 < (l0_2.length : Int)) = true := decide_eq_true c9
     clear c9
     by_cases c10 : x9_2 = ((rd_T64 l0_2 x8_1).f1)
     · rw [if_pos c10] at H
       have c10b0 : (x9_2 == ((rd_T64 l0_2 x8_1).f1)) = true := beq_iff_eq.mpr c10
       have c10b1 : (x9_2 != ((rd_T64 l0_2 x8_1).f1)) = false := bne_eq_false_iff_eq.mpr c10
       clear c10
       replace H' := am H
       go_wp2_with (first | ((refine gate_dst (N := 10) rfl ?_);refine box_event rfl (N := 10) rfl (cs := #[.int .i64 0,.int .i64 0]) (t := 58) ?hr ?_;(case hr => go_simp;try rfl);intro gb971 hg w11 hbox hb;have BK971 := am (hbox);have GW971 := am (ge_new (HB.out) hg);have GE971 := am (ge_new (HB.out) hg);have NB970_971 := am (ne_new BK970.out hg);have NB971_970 := am (ne_new2 BK970.out hg);replace HO_7 := am (Kd.R_below (Kd.R_elderB HO_7.out gb971 (Nat.le_of_eq hg.symm)) hb);replace BK970 := (kmv hb BK970);replace HB := am (below_step (HB.out) hb);clear hb hbox hg;have hnb12 := NB971_970.out;have hnc12 := NB970_971.out;obtain ⟨hcz13_0,hcz13_1⟩ := cO2 BK971.out;have hfz13_0 := blk_frozen BK971.out 0;have hfz13_1 := blk_frozen BK971.out 1;obtain ⟨hcz14_0,hcz14_1,hcz14_2,hcz14_3,hcz14_4⟩ := cO5 BK970.out;have p972 : 0 ≤ (x8_1 : Int) := of_decide_eq_true (by assumption);have q972 : x8_1 < (l0_2.length : Int) := of_decide_eq_true (by assumption);obtain ⟨ad972,e972,hx972_0,hx972_1⟩ := at_T64 HR0_2.out x8_1 p972 q972;cases e972;have hn972_0 : ad972.block ≠ gb971 := Nat.ne_of_lt (Nat.lt_of_lt_of_le (by have := World.block_lt_of_cell? _ _ hx972_0;first | rwa [add_block] at this | exact this) GW971.out);have hn972_1 : ad972.block ≠ gb971 := Nat.ne_of_lt (Nat.lt_of_lt_of_le (by have := World.block_lt_of_cell? _ _ hx972_0;first | rwa [add_block] at this | exact this) GW971.out);replace hx972_0 := (HB.out.cell (wbl hx972_0)).trans hx972_0;replace hx972_1 := (HB.out.cell (wbl hx972_1)).trans hx972_1;replace hx972_0 := (cell_far (p := ⟨gb971,0,none⟩) (by first | (rw [add_block];exact hn972_0) | (show (Addr.add _ _).block ≠ _;rw [add_block];exact hn972_0) | exact hn972_0) (.int .i64 x8_1)).trans hx972_0;replace hx972_1 := (cell_far (p := ⟨gb971,0,none⟩) (by first | (rw [add_block];exact hn972_0) | (show (Addr.add _ _).block ≠ _;rw [add_block];exact hn972_0) | exact hn972_0) (.int .i64 x8_1)).trans hx972_1;replace hx972_0 := (cell_far (p := ⟨gb971,1,none⟩) (by first | (rw [add_block];exact hn972_1) | (show (Addr.add _ _).block ≠ _;rw [add_block];exact hn972_1) | exact hn972_1) (.int .i64 x9_2)).trans hx972_0;replace hx972_1 := (cell_far (p := ⟨gb971,1,none⟩) (by first | (rw [add_block];exact hn972_1) | (show (Addr.add _ _).block ≠ _;rw [add_block];exact hn972_1) | exact hn972_1) (.int .i64 x9_2)).trans hx972_1;clear hn972_0;clear hn972_1;replace p972 := eq_true p972;replace q972 := eq_true q972))
       go_roundg k2
       case measure => have := HK1.out;have := HK2.out;omega
       case rel => exact ⟨(x7_2),(wrap64 (x9_2 + 1)),(by first | rfl | (simp;done) | (simp [*];done)),H',⟨by have := HK1.out;have := HK2.out;omega⟩,⟨by (with_reducible repeat (first | apply Kd.R_alloc | apply Kd.R_drewN | apply Kd.R_drew));exact Kd.R_mono (Kd.R_far (p := ⟨gb971,1,none⟩) (Kd.R_far (p := ⟨gb971,0,none⟩) (Kd.R_mono HO_7.out (fun k_ hk => (⟨hk,hk.2⟩ : _ ∧ k_ ≠ gb971))) (fun _ hk => hk.2) (.int .i64 x8_1)) (fun _ hk => hk.2) (.int .i64 x9_2)) (fun _ hk => trivial)⟩,⟨(blk_far (blk_far BK970.out NB970_971.out _) NB970_971.out _)⟩,⟨by repeat (first | (with_reducible first | exact HB.out | refine below_set ?_ (Aside0.out (by assumption)) | apply below_alloc | apply pw_below_drewN) | exact HB.out)⟩⟩
     · rw [if_neg c10] at H
       have c10b0 : (x9_2 == ((rd_T64 l0_2 x8_1).f1)) = false := beq_eq_false_iff_ne.mpr c10
       have c10b1 : (x9_2 != ((rd_T64 l0_2 x8_1).f1)) = true := bne_iff_ne.mpr c10
       replace H := obm H
       obtain ⟨t982,A150,H⟩ := H
       replace H : ((q4_Agrees.f k2 l0_0 a0_1 t982 a0_3 a0_4 a1 l2).bind fun t985 => (if t985 = true then (if x7_2.length < 8796093022208 then (q4_Lowered.l1 k2 a1 l2 (x7_2 ++ [(⟨x8_1,x9_2⟩ : S58)]) x8_1 (wrap64 (x9_2 + 1)) l0_0 a0_1 l0_2 a0_3 a0_4) else (none)) else (q4_Lowered.l1 k2 a1 l2 x7_2 x8_1 (wrap64 (x9_2 + 1)) l0_0 a0_1 l0_2 a0_3 a0_4))) = some r := H
       have A15 := am A150
       clear A150
       replace H := obm H
       obtain ⟨t985,A160,H⟩ := H
       replace H : (if t985 = true then (if x7_2.length < 8796093022208 then (q4_Lowered.l1 k2 a1 l2 (x7_2 ++ [(⟨x8_1,x9_2⟩ : S58)]) x8_1 (wrap64 (x9_2 + 1)) l0_0 a0_1 l0_2 a0_3 a0_4) else (none)) else (q4_Lowered.l1 k2 a1 l2 x7_2 x8_1 (wrap64 (x9_2 + 1)) l0_0 a0_1 l0_2 a0_3 a0_4)) = some r := H
       have A16 := am A160
       clear A160
       by_cases c17 : t985 = true
       case neg =>
        replace c17 := Bool.eq_false_iff.mpr c17
        subst c17
        replace H : (q4_Lowered.l1 k2 a1 l2 x7_2 x8_1 (wrap64 (x9_2 + 1)) l0_0 a0_1 l0_2 a0_3 a0_4) = some r := by rw [if_neg (show ¬ (false = true) by decide)] at H;exact H
        replace H' := am H
        go_wp2_with (first | ((refine gate_dst (N := 10) rfl ?_);refine box_event rfl (N := 10) rfl (cs := #[.int .i64 0,.int .i64 0]) (t := 58) ?hr ?_;(case hr => go_simp;try rfl);intro gb971 hg w28 hbox hb;have BK971 := am (hbox);have GW971 := am (ge_new (HB.out) hg);have GE971 := am (ge_new (HB.out) hg);have NB970_971 := am (ne_new BK970.out hg);have NB971_970 := am (ne_new2 BK970.out hg);replace HO_7 := am (Kd.R_below (Kd.R_elderB HO_7.out gb971 (Nat.le_of_eq hg.symm)) hb);replace BK970 := (kmv hb BK970);replace HB := am (below_step (HB.out) hb);clear hb hbox hg;have hnb29 := NB971_970.out;have hnc29 := NB970_971.out;obtain ⟨hcz30_0,hcz30_1⟩ := cO2 BK971.out;have hfz30_0 := blk_frozen BK971.out 0;have hfz30_1 := blk_frozen BK971.out 1;obtain ⟨hcz31_0,hcz31_1,hcz31_2,hcz31_3,hcz31_4⟩ := cO5 BK970.out;have p972 : 0 ≤ (x8_1 : Int) := of_decide_eq_true (by assumption);have q972 : x8_1 < (l0_2.length : Int) := of_decide_eq_true (by assumption);obtain ⟨ad972,e972,hx972_0,hx972_1⟩ := at_T64 HR0_2.out x8_1 p972 q972;cases e972;have hn972_0 : ad972.block ≠ gb971 := Nat.ne_of_lt (Nat.lt_of_lt_of_le (by have := World.block_lt_of_cell? _ _ hx972_0;first | rwa [add_block] at this | exact this) GW971.out);have hn972_1 : ad972.block ≠ gb971 := Nat.ne_of_lt (Nat.lt_of_lt_of_le (by have := World.block_lt_of_cell? _ _ hx972_0;first | rwa [add_block] at this | exact this) GW971.out);replace hx972_0 := (HB.out.cell (wbl hx972_0)).trans hx972_0;replace hx972_1 := (HB.out.cell (wbl hx972_1)).trans hx972_1;replace hx972_0 := (cell_far (p := ⟨gb971,0,none⟩) (by first | (rw [add_block];exact hn972_0) | (show (Addr.add _ _).block ≠ _;rw [add_block];exact hn972_0) | exact hn972_0) (.int .i64 x8_1)).trans hx972_0;replace hx972_1 := (cell_far (p := ⟨gb971,0,none⟩) (by first | (rw [add_block];exact hn972_0) | (show (Addr.add _ _).block ≠ _;rw [add_block];exact hn972_0) | exact hn972_0) (.int .i64 x8_1)).trans hx972_1;replace hx972_0 := (cell_far (p := ⟨gb971,1,none⟩) (by first | (rw [add_block];exact hn972_1) | (show (Addr.add _ _).block ≠ _;rw [add_block];exact hn972_1) | exact hn972_1) (.int .i64 x9_2)).trans hx972_0;replace hx972_1 := (cell_far (p := ⟨gb971,1,none⟩) (by first | (rw [add_block];exact hn972_1) | (show (Addr.add _ _).block ≠ _;rw [add_block];exact hn972_1) | exact hn972_1) (.int .i64 x9_2)).trans hx972_1;clear hn972_0;clear hn972_1;replace p972 := eq_true p972;replace q972 := eq_true q972) | (go_at_call 36;(refine (q4_With.calls _ _ l0_0 a0_1 _ _ l0_2 a0_3 a0_4 x8_1 x9_2 t982 _ ?side1 ?side2 ?side3 ?side4 A15.out).mono ?_);(case side1 => exact kC HR0_0.out (by repeat (first | (with_reducible first | exact HB.out | refine below_set ?_ (Aside0.out (by assumption)) | apply below_alloc | apply pw_below_drewN) | exact HB.out)));(case side2 => exact HC0_0.out);(case side3 => exact kC HR0_2.out (by repeat (first | (with_reducible first | exact HB.out | refine below_set ?_ (Aside0.out (by assumption)) | apply below_alloc | apply pw_below_drewN) | exact HB.out)));(case side4 => exact HC0_2.out);rintro e w32 ⟨v983,rfl,ho0,hb⟩;have HO984 := am (Kd.R_lower ho0 (below_size (by repeat (first | (with_reducible first | exact HB.out | refine below_set ?_ (Aside0.out (by assumption)) | apply below_alloc | apply pw_below_drewN) | exact HB.out))));replace HO_7 := am (Kd.R_below (Kd.R_mono (Kd.R_far (p := ⟨gb971,1,none⟩) (Kd.R_far (p := ⟨gb971,0,none⟩) (Kd.R_mono HO_7.out (fun k_ hk => (⟨hk,hk.2⟩ : _ ∧ k_ ≠ gb971))) (fun _ hk => hk.2) (.int .i64 x8_1)) (fun _ hk => hk.2) (.int .i64 x9_2)) (fun _ h_ => h_.1)) hb);replace BK970 := am (blk_below (blk_far (blk_far BK970.out NB970_971.out _) NB970_971.out _) hb);replace BK971 := am (blk_below (blk_put (cs := #[.int .i64 x8_1,.int .i64 0]) (blk_put (cs := #[.int .i64 0,.int .i64 0]) BK971.out 0 _ rfl) 1 _ rfl) hb);replace HB := am (below_step (by repeat (first | (with_reducible first | exact HB.out | refine below_set ?_ (Aside0.out (by assumption)) | apply below_alloc | apply pw_below_drewN) | exact HB.out)) hb);(try clear hb);(try clear hb2);(try clear hk);(try clear hi);(try clear ho0);obtain ⟨Ao33,co33,eo33⟩ := Kd.R_slice HO984.out;subst eo33) | (go_at_call 85;(refine (q4_Agrees.calls k2 _ _ l0_0 a0_1 _ _ t982 a0_3 a0_4 a1 _ _ l2 false _ ?side1 ?side2 ?side3 ?side4 ?side5 ?side6 A16.out).mono ?_);(case side1 => exact kC HR0_0.out HB.out);(case side2 => exact HC0_0.out);(case side3 => repeat (first | exact (Kd.R_reads' HO984.out).2.2 | (with_reducible refine Kd.C_alloc ?_ _) | (with_reducible refine Kd.C_drewN ?_ _) | (with_reducible refine Kd.C_drew ?_)));(case side4 => exact (Kd.R_reads' HO984.out).2.1);(case side5 => exact kC HR2.out HB.out);(case side6 => exact HC2.out);rintro e w34 ⟨rfl,hb⟩;replace HO_7 := am (Kd.R_below HO_7.out hb);replace HO984 := am (Kd.R_below HO984.out hb);replace BK970 := (kmv hb BK970);replace BK971 := (kmv hb BK971);replace HB := am (below_step (HB.out) hb);(try clear hb);(try clear hb2);(try clear hk);(try clear hi)))
        go_roundg k2
        case measure => have := HK1.out;have := HK2.out;omega
        case rel => exact ⟨(x7_2),(wrap64 (x9_2 + 1)),(by first | rfl | (simp;done) | (simp [*];done)),H',⟨by have := HK1.out;have := HK2.out;omega⟩,⟨by (with_reducible repeat (first | apply Kd.R_alloc | apply Kd.R_drewN | apply Kd.R_drew));exact Kd.R_mono HO_7.out (fun _ hk => trivial)⟩,⟨BK970.out⟩,⟨HB.out⟩⟩
       subst c17
       replace H : (if x7_2.length < 8796093022208 then (q4_Lowered.l1 k2 a1 l2 (x7_2 ++ [(⟨x8_1,x9_2⟩ : S58)]) x8_1 (wrap64 (x9_2 + 1)) l0_0 a0_1 l0_2 a0_3 a0_4) else (none)) = some r := by rw [if_pos rfl] at H;exact H
       by_cases c18 : x7_2.length < 8796093022208
       case neg =>
        rw [if_neg c18] at H
        exact absurd H (by simp)
       rw [if_pos c18] at H
       have LMc18 := am c18
       clear c18
       obtain ⟨y986,hy986⟩ : ∃ y_ : List (S58),y_ = (x7_2 ++ [(⟨x8_1,x9_2⟩ : S58)]) := ⟨_,rfl⟩
       replace H : (q4_Lowered.l1 k2 a1 l2 y986 x8_1 (wrap64 (x9_2 + 1)) l0_0 a0_1 l0_2 a0_3 a0_4) = some r := by first | (rw [hy986];with_reducible exact H) | (have H2_ := (Option.bind_some _ _).symm.trans H;rw [hy986];with_reducible exact H2_) | (have H2_ := (Option.bind_some _ _).symm.trans H;with_reducible exact H2_) | with_reducible exact H | (rw [hy986];exact H) | exact H
       have Ny986 := am hy986
       clear hy986
       replace H' := am H
       go_wp2_with (first | ((refine gate_dst (N := 10) rfl ?_);refine box_event rfl (N := 10) rfl (cs := #[.int .i64 0,.int .i64 0]) (t := 58) ?hr ?_;(case hr => go_simp;try rfl);intro gb971 hg w19 hbox hb;have BK971 := am (hbox);have GW971 := am (ge_new (HB.out) hg);have GE971 := am (ge_new (HB.out) hg);have NB970_971 := am (ne_new BK970.out hg);have NB971_970 := am (ne_new2 BK970.out hg);replace HO_7 := am (Kd.R_below (Kd.R_elderB HO_7.out gb971 (Nat.le_of_eq hg.symm)) hb);replace BK970 := (kmv hb BK970);replace HB := am (below_step (HB.out) hb);clear hb hbox hg;have hnb20 := NB971_970.out;have hnc20 := NB970_971.out;obtain ⟨hcz21_0,hcz21_1⟩ := cO2 BK971.out;have hfz21_0 := blk_frozen BK971.out 0;have hfz21_1 := blk_frozen BK971.out 1;obtain ⟨hcz22_0,hcz22_1,hcz22_2,hcz22_3,hcz22_4⟩ := cO5 BK970.out;have p972 : 0 ≤ (x8_1 : Int) := of_decide_eq_true (by assumption);have q972 : x8_1 < (l0_2.length : Int) := of_decide_eq_true (by assumption);obtain ⟨ad972,e972,hx972_0,hx972_1⟩ := at_T64 HR0_2.out x8_1 p972 q972;cases e972;have hn972_0 : ad972.block ≠ gb971 := Nat.ne_of_lt (Nat.lt_of_lt_of_le (by have := World.block_lt_of_cell? _ _ hx972_0;first | rwa [add_block] at this | exact this) GW971.out);have hn972_1 : ad972.block ≠ gb971 := Nat.ne_of_lt (Nat.lt_of_lt_of_le (by have := World.block_lt_of_cell? _ _ hx972_0;first | rwa [add_block] at this | exact this) GW971.out);replace hx972_0 := (HB.out.cell (wbl hx972_0)).trans hx972_0;replace hx972_1 := (HB.out.cell (wbl hx972_1)).trans hx972_1;replace hx972_0 := (cell_far (p := ⟨gb971,0,none⟩) (by first | (rw [add_block];exact hn972_0) | (show (Addr.add _ _).block ≠ _;rw [add_block];exact hn972_0) | exact hn972_0) (.int .i64 x8_1)).trans hx972_0;replace hx972_1 := (cell_far (p := ⟨gb971,0,none⟩) (by first | (rw [add_block];exact hn972_0) | (show (Addr.add _ _).block ≠ _;rw [add_block];exact hn972_0) | exact hn972_0) (.int .i64 x8_1)).trans hx972_1;replace hx972_0 := (cell_far (p := ⟨gb971,1,none⟩) (by first | (rw [add_block];exact hn972_1) | (show (Addr.add _ _).block ≠ _;rw [add_block];exact hn972_1) | exact hn972_1) (.int .i64 x9_2)).trans hx972_0;replace hx972_1 := (cell_far (p := ⟨gb971,1,none⟩) (by first | (rw [add_block];exact hn972_1) | (show (Addr.add _ _).block ≠ _;rw [add_block];exact hn972_1) | exact hn972_1) (.int .i64 x9_2)).trans hx972_1;clear hn972_0;clear hn972_1;replace p972 := eq_true p972;replace q972 := eq_true q972) | (go_at_call 36;(refine (q4_With.calls _ _ l0_0 a0_1 _ _ l0_2 a0_3 a0_4 x8_1 x9_2 t982 _ ?side1 ?side2 ?side3 ?side4 A15.out).mono ?_);(case side1 => exact kC HR0_0.out (by repeat (first | (with_reducible first | exact HB.out | refine below_set ?_ (Aside0.out (by assumption)) | apply below_alloc | apply pw_below_drewN) | exact HB.out)));(case side2 => exact HC0_0.out);(case side3 => exact kC HR0_2.out (by repeat (first | (with_reducible first | exact HB.out | refine below_set ?_ (Aside0.out (by assumption)) | apply below_alloc | apply pw_below_drewN) | exact HB.out)));(case side4 => exact HC0_2.out);rintro e w23 ⟨v983,rfl,ho0,hb⟩;have HO984 := am (Kd.R_lower ho0 (below_size (by repeat (first | (with_reducible first | exact HB.out | refine below_set ?_ (Aside0.out (by assumption)) | apply below_alloc | apply pw_below_drewN) | exact HB.out))));replace HO_7 := am (Kd.R_below (Kd.R_mono (Kd.R_far (p := ⟨gb971,1,none⟩) (Kd.R_far (p := ⟨gb971,0,none⟩) (Kd.R_mono HO_7.out (fun k_ hk => (⟨hk,hk.2⟩ : _ ∧ k_ ≠ gb971))) (fun _ hk => hk.2) (.int .i64 x8_1)) (fun _ hk => hk.2) (.int .i64 x9_2)) (fun _ h_ => h_.1)) hb);replace BK970 := am (blk_below (blk_far (blk_far BK970.out NB970_971.out _) NB970_971.out _) hb);replace BK971 := am (blk_below (blk_put (cs := #[.int .i64 x8_1,.int .i64 0]) (blk_put (cs := #[.int .i64 0,.int .i64 0]) BK971.out 0 _ rfl) 1 _ rfl) hb);replace HB := am (below_step (by repeat (first | (with_reducible first | exact HB.out | refine below_set ?_ (Aside0.out (by assumption)) | apply below_alloc | apply pw_below_drewN) | exact HB.out)) hb);(try clear hb);(try clear hb2);(try clear hk);(try clear hi);(try clear ho0);obtain ⟨Ao24,co24,eo24⟩ := Kd.R_slice HO984.out;subst eo24) | (go_at_call 85;(refine (q4_Agrees.calls k2 _ _ l0_0 a0_1 _ _ t982 a0_3 a0_4 a1 _ _ l2 true _ ?side1 ?side2 ?side3 ?side4 ?side5 ?side6 A16.out).mono ?_);(case side1 => exact kC HR0_0.out HB.out);(case side2 => exact HC0_0.out);(case side3 => repeat (first | exact (Kd.R_reads' HO984.out).2.2 | (with_reducible refine Kd.C_alloc ?_ _) | (with_reducible refine Kd.C_drewN ?_ _) | (with_reducible refine Kd.C_drew ?_)));(case side4 => exact (Kd.R_reads' HO984.out).2.1);(case side5 => exact kC HR2.out HB.out);(case side6 => exact HC2.out);rintro e w25 ⟨rfl,hb⟩;replace HO_7 := am (Kd.R_below HO_7.out hb);replace HO984 := am (Kd.R_below HO984.out hb);replace BK970 := (kmv hb BK970);replace BK971 := (kmv hb BK971);replace HB := am (below_step (HB.out) hb);(try clear hb);(try clear hb2);(try clear hk);(try clear hi);obtain ⟨hcz26_0,hcz26_1⟩ := cO2 BK971.out;have hfz26_0 := blk_frozen BK971.out 0;have hfz26_1 := blk_frozen BK971.out 1) | ((with_reducible refine gate_builtin (b := .append) (xs := #[.tmp 41,.tmp 43]) rfl ?_);at_builtin;refine Kd.R_append k58 (w0 := w) w.heap.size rfl (.tmp 41) (.tmp 43) 75 58 (.agg #[(.int .i64 0),(.int .i64 0)]) 16 rfl Tryz.underlying75 info58 rfl (by decide) (by omega) u7 x7_2 (⟨x8_1,x9_2⟩ : S58) [.int .i64 x8_1,.int .i64 x9_2] (fun k_ => k_ ≠ gb971) (fun _ => False) rfl rfl ?aP (fun _ hk => hk.elim) ?aF ?aO ?aB ?aS ?aL ?_;(case aP => exact k58_mkM _ _ _ (⟨x8_1,x9_2⟩ : S58));(case aB => exact (HB.out));(case aF => exact (fun k_ hk => Kd.freshB (g := gb971) (o := .cells #[.int .i64 x8_1,.int .i64 x9_2] 58 (0,0)) BK971.out k_ hk));(case aO => exact (Kd.R_mono HO_7.out (fun _ hk => hk.2)));(case aS => exact (below_size (HB.out)));(case aL => have := LMc18.out;omega);intro v987 w27 ho hb hg hat;rw [← Ny986.out] at ho;have n0_ := am (blk_grown (g := gb970) (o := .cells #[.slice A0_0 l0_0.length c0_0,.int .i64 a0_1,.slice (some ad972) l0_2.length c0_2,.int .i64 a0_3,.int .i64 a0_4] 27 (0,0)) BK970.out hg (Kd.R_ne HO_7.out BK970.out (by decide)));have n1_ := am (blk_grown (g := gb971) (o := .cells #[.int .i64 x8_1,.int .i64 x9_2] 58 (0,0)) BK971.out hg (Kd.R_away HO_7.out (fun _ hk => hk.2)));have n2_ := am (Kd.R_over' HO984.out (Kd.R_typed HO_7.out) (by decide) hg);have n3_ := am (hb);have n4_ := am (ho);clear BK970;clear BK971;clear HO984;clear HB;clear HO_7;have BK970 := n0_;have BK971 := n1_;have HO984 := n2_;have HB := n3_;have HO988 := n4_;clear n0_ n1_ n2_ n3_ n4_;clear ho hb hg hat))
       go_roundg k2
       case measure => have := HK1.out;have := HK2.out;omega
       case rel => exact ⟨(y986),(wrap64 (x9_2 + 1)),(by first | rfl | (simp;done) | (simp [*];done)),H',⟨by have := HK1.out;have := HK2.out;omega⟩,⟨by (with_reducible repeat (first | apply Kd.R_alloc | apply Kd.R_drewN | apply Kd.R_drew));exact Kd.R_mono HO988.out (fun _ hk => trivial)⟩,⟨BK970.out⟩,⟨HB.out⟩⟩
mutual
def l4_CastleLowered.j0 : Nat → Int → List (S40) → Bool → List (S126) → Int → List (S64) → Int → Int → Option (Bool)
 | 0,_,_,_,_,_,_,_,_ => none
 | k + 1,x1,x2,x16,x990000,x990001,x990002,x990003,x990004 => if x16 = true then ((l4_known.f).bind fun t991 => (some t991)) else ((ca_Lowered.f k x990000 x990001 x990002 x990003 x990004 x1 x2).bind fun bt992 => ((q4_Basin.f k x990000 x990001 x990002 x990003 x990004).bind fun t996 => (if t996 = true then ((q4_Cups.f x1).bind fun t997 => (if t997 = true then ((q4_Counts.f k x990000 x990001 x990002 x990003 x990004 x2).bind fun t998 => (l4_CastleLowered.j1 k x1 x2 bt992.1 bt992.2 (!t998) x990000 x990001 x990002 x990003 x990004)) else (l4_CastleLowered.j1 k x1 x2 bt992.1 bt992.2 true x990000 x990001 x990002 x990003 x990004))) else (l4_CastleLowered.j1 k x1 x2 bt992.1 bt992.2 true x990000 x990001 x990002 x990003 x990004))))
def l4_CastleLowered.j1 : Nat → Int → List (S40) → List (S58) → Int → Bool → List (S126) → Int → List (S64) → Int → Int → Option (Bool)
 | 0,_,_,_,_,_,_,_,_,_,_ => none
 | k + 1,x1,x2,x7,x8,x38,x990000,x990001,x990002,x990003,x990004 => if x38 = true then (if x8 = 2 then (if (x7.length : Int) = 0 then ((l4_known.f).bind fun t999 => (some t999)) else (none)) else (none)) else (if x8 = 0 then ((q4_Lowered.f k x990000 x990001 x990002 x990003 x990004 x1 x2).bind fun t1000 => ((q4_SameChanges.f k x7 t1000).bind fun t1003 => (if t1003 = true then ((l4_known.f).bind fun t1004 => (some t1004)) else (none)))) else (none))
end
def l4_CastleLowered.f (k : Nat) (l0_0 : List (S126)) (a0_1 : Int) (l0_2 : List (S64)) (a0_3 : Int) (a0_4 : Int) (a1 : Int) (l2 : List (S40)) : Option (Bool) := (l4_short.f l0_0 a0_1 l0_2 a0_3 a0_4).bind fun t990 => (if t990 = true then (l4_CastleLowered.j0 k a1 l2 (decide ((l2.length : Int) > 8)) l0_0 a0_1 l0_2 a0_3 a0_4) else (l4_CastleLowered.j0 k a1 l2 true l0_0 a0_1 l0_2 a0_3 a0_4))
theorem l4_CastleLowered.calls (k : Nat) (A0_0 : Option Addr) (c0_0 : Nat) (l0_0 : List (S126)) (a0_1 : Int) (A0_2 : Option Addr) (c0_2 : Nat) (l0_2 : List (S64)) (a0_3 : Int) (a0_4 : Int) (a1 : Int) (A2 : Option Addr) (c2 : Nat) (l2 : List (S40)) (r : Bool) (w : World) (hr0_0 : Kd.C k126 w A0_0 l0_0.length l0_0) (hc0_0 : l0_0.length ≤ c0_0) (hr0_2 : Kd.C k64 w A0_2 l0_2.length l0_2) (hc0_2 : l0_2.length ≤ c0_2) (hr2 : Kd.C k40 w A2 l2.length l2) (hc2 : l2.length ≤ c2) (h : l4_CastleLowered.f k l0_0 a0_1 l0_2 a0_3 a0_4 a1 l2 = some r) :
 Calls Tryz.prog 13 #[.agg #[.slice A0_0 l0_0.length c0_0,.int .i64 a0_1,.slice A0_2 l0_2.length c0_2,.int .i64 a0_3,.int .i64 a0_4],.int .i64 a1,.slice A2 l2.length c2] w fun e w' => e = .returned (.bool r) ∧ Below w.heap.size w w' := by
 have hu27 := Tryz.underlying27
 have HR0_0 := am hr0_0
 have HC0_0 := am hc0_0
 clear hr0_0 hc0_0
 have HR0_2 := am hr0_2
 have HC0_2 := am hc0_2
 clear hr0_2 hc0_2
 have HR2 := am hr2
 have HC2 := am hc2
 clear hr2 hc2
 have HB := am (Below.refl w.heap.size w)
 have H : ((l4_short.f l0_0 a0_1 l0_2 a0_3 a0_4).bind fun t990 => (if t990 = true then (l4_CastleLowered.j0 k a1 l2 (decide ((l2.length : Int) > 8)) l0_0 a0_1 l0_2 a0_3 a0_4) else (l4_CastleLowered.j0 k a1 l2 true l0_0 a0_1 l0_2 a0_3 a0_4))) = some r := h
 clear h
 have HC4 := am H
 clear H
 go_enter Tryz.func13,Tryz.ntmps13
 go_upto_region 1 with (first | ((refine gate_dst (N := 3) rfl ?_);(try (refine gate_guard (by rfl) ?_;dsimp only));refine box_event rfl (N := 3) rfl (cs := #[.slice A0_0 l0_0.length c0_0,.int .i64 a0_1,.slice A0_2 l0_2.length c0_2,.int .i64 a0_3,.int .i64 a0_4]) (t := 27) ?hr ?_;(case hr => go_simp;try rfl);intro gb989 hg w5 hbox hb;have BK989 := am (hbox);have GW989 := am (ge_new (HB.out) hg);have GE989 := am (ge_new (HB.out) hg);replace HB := am (below_step (HB.out) hb);clear hb hbox hg))
 (try simp only [Act.put,List.setIfInBounds_toArray,List.set_cons_zero,List.set_cons_succ])
 go_cut [16] (fun v16 wc => ∃ (kq : Nat) (x16_3 : Bool),v16 = .bool x16_3 ∧ Aside0 (l4_CastleLowered.j0 kq a1 l2 x16_3 l0_0 a0_1 l0_2 a0_3 a0_4 = some r) ∧ Aside0 (kq ≤ k) ∧ Aside0 (wc.heap[gb989]? = some (.cells #[(.slice A0_0 l0_0.length c0_0),.int .i64 a0_1,(.slice A0_2 l0_2.length c0_2),.int .i64 a0_3,.int .i64 a0_4] 27 (0,0))) ∧ Aside0 (Below w.heap.size w wc))
 case first =>
  have H := HC4.out
  clear HC4
  replace H := obm H
  obtain ⟨t990,A60,H⟩ := H
  replace H : (if t990 = true then (l4_CastleLowered.j0 k a1 l2 (decide ((l2.length : Int) > 8)) l0_0 a0_1 l0_2 a0_3 a0_4) else (l4_CastleLowered.j0 k a1 l2 true l0_0 a0_1 l0_2 a0_3 a0_4)) = some r := H
  have A6 := am A60
  clear A60
  by_cases c7 : t990 = true
  · subst c7
    replace H : (l4_CastleLowered.j0 k a1 l2 (decide ((l2.length : Int) > 8)) l0_0 a0_1 l0_2 a0_3 a0_4) = some r := by rw [if_pos rfl] at H;exact H
    replace H' := am H
    obtain ⟨hcz8_0,hcz8_1,hcz8_2,hcz8_3,hcz8_4⟩ := cO5 BK989.out
    go_wp2_with (first | ((with_reducible refine gate_callee (f := 14) rfl ?_);refine goesL_ (some 10) rfl rfl Tryz.func14 (by kernel_rfl) rfl #[.agg #[.slice A0_0 l0_0.length c0_0,.int .i64 a0_1,.slice A0_2 l0_2.length c0_2,.int .i64 a0_3,.int .i64 a0_4]] rfl (by (try simp only [List.map_toArray,List.map_cons,List.map_nil]);first | done | rfl | (simp only [List.length_drop,List.length_take];rfl)) ?_;(with_reducible refine (l4_short.calls _ _ l0_0 a0_1 _ _ l0_2 a0_3 a0_4 true _ ?side1 ?side2 ?side3 ?side4 A6.out).mono ?_);(case side1 => exact kC HR0_0.out HB.out);(case side2 => exact HC0_0.out);(case side3 => exact kC HR0_2.out HB.out);(case side4 => exact HC0_2.out);rintro e w9 ⟨rfl,hb⟩;refine ⟨_,rfl,?_⟩;replace BK989 := am (blk_below (g := gb989) (o := .cells #[.slice A0_0 l0_0.length c0_0,.int .i64 a0_1,.slice A0_2 l0_2.length c0_2,.int .i64 a0_3,.int .i64 a0_4] 27 (0,0)) (by (with_reducible repeat (first | refine blk_drewN ?_ _ | refine blk_drew ?_ | refine blk_alloc ?_ _));exact BK989.out) hb);replace HB := am (below_step (HB.out) hb);(try clear hb);(try clear hb2);(try clear hk);(try clear hi)))
    go_meet
    case rel => exact ⟨_,(decide ((l2.length : Int) > 8)),(by first | rfl | (simp;done) | (simp [*];done)),H',⟨by first | omega | exact Nat.le_refl _⟩,⟨BK989.out⟩,⟨HB.out⟩⟩
  · replace c7 := Bool.eq_false_iff.mpr c7
    subst c7
    replace H : (l4_CastleLowered.j0 k a1 l2 true l0_0 a0_1 l0_2 a0_3 a0_4) = some r := by rw [if_neg (show ¬ (false = true) by decide)] at H;exact H
    replace H' := am H
    obtain ⟨hcz10_0,hcz10_1,hcz10_2,hcz10_3,hcz10_4⟩ := cO5 BK989.out
    go_wp2_with (first | ((with_reducible refine gate_callee (f := 14) rfl ?_);refine goesL_ (some 10) rfl rfl Tryz.func14 (by kernel_rfl) rfl #[.agg #[.slice A0_0 l0_0.length c0_0,.int .i64 a0_1,.slice A0_2 l0_2.length c0_2,.int .i64 a0_3,.int .i64 a0_4]] rfl (by (try simp only [List.map_toArray,List.map_cons,List.map_nil]);first | done | rfl | (simp only [List.length_drop,List.length_take];rfl)) ?_;(with_reducible refine (l4_short.calls _ _ l0_0 a0_1 _ _ l0_2 a0_3 a0_4 false _ ?side1 ?side2 ?side3 ?side4 A6.out).mono ?_);(case side1 => exact kC HR0_0.out HB.out);(case side2 => exact HC0_0.out);(case side3 => exact kC HR0_2.out HB.out);(case side4 => exact HC0_2.out);rintro e w11 ⟨rfl,hb⟩;refine ⟨_,rfl,?_⟩;replace BK989 := am (blk_below (g := gb989) (o := .cells #[.slice A0_0 l0_0.length c0_0,.int .i64 a0_1,.slice A0_2 l0_2.length c0_2,.int .i64 a0_3,.int .i64 a0_4] 27 (0,0)) (by (with_reducible repeat (first | refine blk_drewN ?_ _ | refine blk_drew ?_ | refine blk_alloc ?_ _));exact BK989.out) hb);replace HB := am (below_step (HB.out) hb);(try clear hb);(try clear hb2);(try clear hk);(try clear hi)))
    go_meet
    case rel => exact ⟨_,(true),(by first | rfl | (simp;done) | (simp [*];done)),H',⟨by first | omega | exact Nat.le_refl _⟩,⟨BK989.out⟩,⟨HB.out⟩⟩
 case rest =>
  clear HC4
  obtain ⟨kq,x16_3,rfl,HA,HJ3,BK989,HB⟩ := hcut
  cases kq with
  | zero => exact absurd HA.out (by simp [l4_CastleLowered.j0])
  | succ kj3 =>
   have H := HA.out
   clear HA
   simp only [l4_CastleLowered.j0] at H
   by_cases c12 : x16_3 = true
   · subst c12
     replace H : ((l4_known.f).bind fun t991 => (some t991)) = some r := by rw [if_pos rfl] at H;exact H
     replace H := obm H
     obtain ⟨t991,A130,H⟩ := H
     replace H : (some t991) = some r := H
     have A13 := am A130
     clear A130
     obtain rfl := Option.some.inj H
     go_wp2_with (first | ((with_reducible refine gate_callee (f := 15) rfl ?_);refine goesL_ (some 17) rfl rfl Tryz.func15 (by kernel_rfl) rfl #[] rfl (by (try simp only [List.map_toArray,List.map_cons,List.map_nil]);first | done | rfl | (simp only [List.length_drop,List.length_take];rfl)) ?_;(with_reducible refine (l4_known.calls  t991 _ A13.out).mono ?_);rintro e w14 ⟨rfl,hb⟩;refine ⟨_,rfl,?_⟩;replace BK989 := am (blk_below (g := gb989) (o := .cells #[.slice A0_0 l0_0.length c0_0,.int .i64 a0_1,.slice A0_2 l0_2.length c0_2,.int .i64 a0_3,.int .i64 a0_4] 27 (0,0)) (by (with_reducible repeat (first | refine blk_drewN ?_ _ | refine blk_drew ?_ | refine blk_alloc ?_ _));exact BK989.out) hb);replace HB := am (below_step (HB.out) hb);(try clear hb);(try clear hb2);(try clear hk);(try clear hi)))
     go_ret
     exact ⟨by first | rfl | (simp [*] <;> rfl),HB.out⟩
   · replace c12 := Bool.eq_false_iff.mpr c12
     subst c12
     replace H : ((ca_Lowered.f kj3 l0_0 a0_1 l0_2 a0_3 a0_4 a1 l2).bind fun bt992 => ((q4_Basin.f kj3 l0_0 a0_1 l0_2 a0_3 a0_4).bind fun t996 => (if t996 = true then ((q4_Cups.f a1).bind fun t997 => (if t997 = true then ((q4_Counts.f kj3 l0_0 a0_1 l0_2 a0_3 a0_4 l2).bind fun t998 => (l4_CastleLowered.j1 kj3 a1 l2 bt992.1 bt992.2 (!t998) l0_0 a0_1 l0_2 a0_3 a0_4)) else (l4_CastleLowered.j1 kj3 a1 l2 bt992.1 bt992.2 true l0_0 a0_1 l0_2 a0_3 a0_4))) else (l4_CastleLowered.j1 kj3 a1 l2 bt992.1 bt992.2 true l0_0 a0_1 l0_2 a0_3 a0_4)))) = some r := by rw [if_neg (show ¬ (false = true) by decide)] at H;exact H
     replace H := obm H
     obtain ⟨⟨t992,t995⟩,A150,H⟩ := H
     replace H : ((q4_Basin.f kj3 l0_0 a0_1 l0_2 a0_3 a0_4).bind fun t996 => (if t996 = true then ((q4_Cups.f a1).bind fun t997 => (if t997 = true then ((q4_Counts.f kj3 l0_0 a0_1 l0_2 a0_3 a0_4 l2).bind fun t998 => (l4_CastleLowered.j1 kj3 a1 l2 t992 t995 (!t998) l0_0 a0_1 l0_2 a0_3 a0_4)) else (l4_CastleLowered.j1 kj3 a1 l2 t992 t995 true l0_0 a0_1 l0_2 a0_3 a0_4))) else (l4_CastleLowered.j1 kj3 a1 l2 t992 t995 true l0_0 a0_1 l0_2 a0_3 a0_4))) = some r := H
     have A15 := am A150
     clear A150
     have HC16 := am H
     clear H
     obtain ⟨hcz17_0,hcz17_1,hcz17_2,hcz17_3,hcz17_4⟩ := cO5 BK989.out
     go_upto_region 4 with (first | ((with_reducible refine gate_callee (f := 45) rfl ?_);refine goesL_ (some 22) rfl rfl Tryz.func45 (by kernel_rfl) rfl #[.agg #[.slice A0_0 l0_0.length c0_0,.int .i64 a0_1,.slice A0_2 l0_2.length c0_2,.int .i64 a0_3,.int .i64 a0_4],.int .i64 a1,.slice A2 l2.length c2] rfl (by (try simp only [List.map_toArray,List.map_cons,List.map_nil]);first | done | rfl | (simp only [List.length_drop,List.length_take];rfl)) ?_;(with_reducible refine (ca_Lowered.calls kj3 _ _ l0_0 a0_1 _ _ l0_2 a0_3 a0_4 a1 _ _ l2 t992 t995 _ ?side1 ?side2 ?side3 ?side4 ?side5 ?side6 A15.out).mono ?_);(case side1 => exact kC HR0_0.out HB.out);(case side2 => exact HC0_0.out);(case side3 => exact kC HR0_2.out HB.out);(case side4 => exact HC0_2.out);(case side5 => exact kC HR2.out HB.out);(case side6 => exact HC2.out);rintro e w18 ⟨v993,rfl,ho0,hb⟩;refine ⟨_,rfl,?_⟩;have HO994 := am (Kd.R_lower ho0 (below_size (HB.out)));replace BK989 := am (blk_below (g := gb989) (o := .cells #[.slice A0_0 l0_0.length c0_0,.int .i64 a0_1,.slice A0_2 l0_2.length c0_2,.int .i64 a0_3,.int .i64 a0_4] 27 (0,0)) (by (with_reducible repeat (first | refine blk_drewN ?_ _ | refine blk_drew ?_ | refine blk_alloc ?_ _));exact BK989.out) hb);replace HB := am (below_step (HB.out) hb);(try clear hb);(try clear hb2);(try clear hk);(try clear hi);(try clear ho0)))
     (try simp only [Act.put,List.setIfInBounds_toArray,List.set_cons_zero,List.set_cons_succ])
     go_cut [38] (fun v38 wc => ∃ (kq : Nat) (x38_15 : Bool),v38 = .bool x38_15 ∧ Aside0 (l4_CastleLowered.j1 kq a1 l2 t992 t995 x38_15 l0_0 a0_1 l0_2 a0_3 a0_4 = some r) ∧ Aside0 (kq ≤ kj3) ∧ Aside0 (Kd.R k58 58 wc w.heap.size (fun _ => True) v993 t992) ∧ Aside0 (wc.heap[gb989]? = some (.cells #[(.slice A0_0 l0_0.length c0_0),.int .i64 a0_1,(.slice A0_2 l0_2.length c0_2),.int .i64 a0_3,.int .i64 a0_4] 27 (0,0))) ∧ Aside0 (Below w.heap.size w wc))
     case first =>
      have H := HC16.out
      clear HC16
      replace H := obm H
      obtain ⟨t996,A190,H⟩ := H
      replace H : (if t996 = true then ((q4_Cups.f a1).bind fun t997 => (if t997 = true then ((q4_Counts.f kj3 l0_0 a0_1 l0_2 a0_3 a0_4 l2).bind fun t998 => (l4_CastleLowered.j1 kj3 a1 l2 t992 t995 (!t998) l0_0 a0_1 l0_2 a0_3 a0_4)) else (l4_CastleLowered.j1 kj3 a1 l2 t992 t995 true l0_0 a0_1 l0_2 a0_3 a0_4))) else (l4_CastleLowered.j1 kj3 a1 l2 t992 t995 true l0_0 a0_1 l0_2 a0_3 a0_4)) = some r := H
      have A19 := am A190
      clear A190
      by_cases c20 : t996 = true
      case neg =>
       replace c20 := Bool.eq_false_iff.mpr c20
       subst c20
       replace H : (l4_CastleLowered.j1 kj3 a1 l2 t992 t995 true l0_0 a0_1 l0_2 a0_3 a0_4) = some r := by rw [if_neg (show ¬ (false = true) by decide)] at H;exact H
       replace H' := am H
       obtain ⟨hcz30_0,hcz30_1,hcz30_2,hcz30_3,hcz30_4⟩ := cO5 BK989.out
       go_wp2_with (first | ((with_reducible refine gate_callee (f := 17) rfl ?_);refine goesL_ (some 26) rfl rfl Tryz.func17 (by kernel_rfl) rfl #[.agg #[.slice A0_0 l0_0.length c0_0,.int .i64 a0_1,.slice A0_2 l0_2.length c0_2,.int .i64 a0_3,.int .i64 a0_4]] rfl (by (try simp only [List.map_toArray,List.map_cons,List.map_nil]);first | done | rfl | (simp only [List.length_drop,List.length_take];rfl)) ?_;(with_reducible refine (q4_Basin.calls kj3 _ _ l0_0 a0_1 _ _ l0_2 a0_3 a0_4 false _ ?side1 ?side2 ?side3 ?side4 A19.out).mono ?_);(case side1 => exact kC HR0_0.out HB.out);(case side2 => exact HC0_0.out);(case side3 => exact kC HR0_2.out HB.out);(case side4 => exact HC0_2.out);rintro e w31 ⟨rfl,hb⟩;refine ⟨_,rfl,?_⟩;replace HO994 := am (Kd.R_below (by (with_reducible repeat (first | apply Kd.R_alloc | apply Kd.R_drewN | apply Kd.R_drew));exact HO994.out) hb);replace BK989 := am (blk_below (g := gb989) (o := .cells #[.slice A0_0 l0_0.length c0_0,.int .i64 a0_1,.slice A0_2 l0_2.length c0_2,.int .i64 a0_3,.int .i64 a0_4] 27 (0,0)) (by (with_reducible repeat (first | refine blk_drewN ?_ _ | refine blk_drew ?_ | refine blk_alloc ?_ _));exact BK989.out) hb);replace HB := am (below_step (HB.out) hb);(try clear hb);(try clear hb2);(try clear hk);(try clear hi)))
       go_meet
       case rel => exact ⟨_,(true),(by first | rfl | (simp;done) | (simp [*];done)),H',⟨by have := HJ3.out;first | omega | exact Nat.le_refl _⟩,⟨by (with_reducible repeat (first | apply Kd.R_alloc | apply Kd.R_drewN | apply Kd.R_drew));exact HO994.out⟩,⟨BK989.out⟩,⟨HB.out⟩⟩
      subst c20
      replace H : ((q4_Cups.f a1).bind fun t997 => (if t997 = true then ((q4_Counts.f kj3 l0_0 a0_1 l0_2 a0_3 a0_4 l2).bind fun t998 => (l4_CastleLowered.j1 kj3 a1 l2 t992 t995 (!t998) l0_0 a0_1 l0_2 a0_3 a0_4)) else (l4_CastleLowered.j1 kj3 a1 l2 t992 t995 true l0_0 a0_1 l0_2 a0_3 a0_4))) = some r := by rw [if_pos rfl] at H;exact H
      replace H := obm H
      obtain ⟨t997,A210,H⟩ := H
      replace H : (if t997 = true then ((q4_Counts.f kj3 l0_0 a0_1 l0_2 a0_3 a0_4 l2).bind fun t998 => (l4_CastleLowered.j1 kj3 a1 l2 t992 t995 (!t998) l0_0 a0_1 l0_2 a0_3 a0_4)) else (l4_CastleLowered.j1 kj3 a1 l2 t992 t995 true l0_0 a0_1 l0_2 a0_3 a0_4)) = some r := H
      have A21 := am A210
      clear A210
      by_cases c22 : t997 = true
      case neg =>
       replace c22 := Bool.eq_false_iff.mpr c22
       subst c22
       replace H : (l4_CastleLowered.j1 kj3 a1 l2 t992 t995 true l0_0 a0_1 l0_2 a0_3 a0_4) = some r := by rw [if_neg (show ¬ (false = true) by decide)] at H;exact H
       replace H' := am H
       obtain ⟨hcz28_0,hcz28_1,hcz28_2,hcz28_3,hcz28_4⟩ := cO5 BK989.out
       go_wp2_with (first | ((with_reducible refine gate_callee (f := 17) rfl ?_);refine goesL_ (some 26) rfl rfl Tryz.func17 (by kernel_rfl) rfl #[.agg #[.slice A0_0 l0_0.length c0_0,.int .i64 a0_1,.slice A0_2 l0_2.length c0_2,.int .i64 a0_3,.int .i64 a0_4]] rfl (by (try simp only [List.map_toArray,List.map_cons,List.map_nil]);first | done | rfl | (simp only [List.length_drop,List.length_take];rfl)) ?_;(with_reducible refine (q4_Basin.calls kj3 _ _ l0_0 a0_1 _ _ l0_2 a0_3 a0_4 true _ ?side1 ?side2 ?side3 ?side4 A19.out).mono ?_);(case side1 => exact kC HR0_0.out HB.out);(case side2 => exact HC0_0.out);(case side3 => exact kC HR0_2.out HB.out);(case side4 => exact HC0_2.out);rintro e w29 ⟨rfl,hb⟩;refine ⟨_,rfl,?_⟩;replace HO994 := am (Kd.R_below (by (with_reducible repeat (first | apply Kd.R_alloc | apply Kd.R_drewN | apply Kd.R_drew));exact HO994.out) hb);replace BK989 := am (blk_below (g := gb989) (o := .cells #[.slice A0_0 l0_0.length c0_0,.int .i64 a0_1,.slice A0_2 l0_2.length c0_2,.int .i64 a0_3,.int .i64 a0_4] 27 (0,0)) (by (with_reducible repeat (first | refine blk_drewN ?_ _ | refine blk_drew ?_ | refine blk_alloc ?_ _));exact BK989.out) hb);replace HB := am (below_step (HB.out) hb);(try clear hb);(try clear hb2);(try clear hk);(try clear hi)) | (go_at_call 18;(with_reducible refine (q4_Cups.calls a1 false _ A21.out).mono ?_);rintro e w' ⟨rfl,⟨nd,rfl⟩⟩))
       go_meet
       case rel => exact ⟨_,(true),(by first | rfl | (simp;done) | (simp [*];done)),H',⟨by have := HJ3.out;first | omega | exact Nat.le_refl _⟩,⟨by (with_reducible repeat (first | apply Kd.R_alloc | apply Kd.R_drewN | apply Kd.R_drew));exact HO994.out⟩,⟨BK989.out⟩,⟨pw_below_drewN HB.out _⟩⟩
      subst c22
      replace H : ((q4_Counts.f kj3 l0_0 a0_1 l0_2 a0_3 a0_4 l2).bind fun t998 => (l4_CastleLowered.j1 kj3 a1 l2 t992 t995 (!t998) l0_0 a0_1 l0_2 a0_3 a0_4)) = some r := by rw [if_pos rfl] at H;exact H
      replace H := obm H
      obtain ⟨t998,A230,H⟩ := H
      replace H : (l4_CastleLowered.j1 kj3 a1 l2 t992 t995 (!t998) l0_0 a0_1 l0_2 a0_3 a0_4) = some r := H
      have A23 := am A230
      clear A230
      replace H' := am H
      obtain ⟨hcz24_0,hcz24_1,hcz24_2,hcz24_3,hcz24_4⟩ := cO5 BK989.out
      go_wp2_with (first | ((with_reducible refine gate_callee (f := 17) rfl ?_);refine goesL_ (some 26) rfl rfl Tryz.func17 (by kernel_rfl) rfl #[.agg #[.slice A0_0 l0_0.length c0_0,.int .i64 a0_1,.slice A0_2 l0_2.length c0_2,.int .i64 a0_3,.int .i64 a0_4]] rfl (by (try simp only [List.map_toArray,List.map_cons,List.map_nil]);first | done | rfl | (simp only [List.length_drop,List.length_take];rfl)) ?_;(with_reducible refine (q4_Basin.calls kj3 _ _ l0_0 a0_1 _ _ l0_2 a0_3 a0_4 true _ ?side1 ?side2 ?side3 ?side4 A19.out).mono ?_);(case side1 => exact kC HR0_0.out HB.out);(case side2 => exact HC0_0.out);(case side3 => exact kC HR0_2.out HB.out);(case side4 => exact HC0_2.out);rintro e w25 ⟨rfl,hb⟩;refine ⟨_,rfl,?_⟩;replace HO994 := am (Kd.R_below (by (with_reducible repeat (first | apply Kd.R_alloc | apply Kd.R_drewN | apply Kd.R_drew));exact HO994.out) hb);replace BK989 := am (blk_below (g := gb989) (o := .cells #[.slice A0_0 l0_0.length c0_0,.int .i64 a0_1,.slice A0_2 l0_2.length c0_2,.int .i64 a0_3,.int .i64 a0_4] 27 (0,0)) (by (with_reducible repeat (first | refine blk_drewN ?_ _ | refine blk_drew ?_ | refine blk_alloc ?_ _));exact BK989.out) hb);replace HB := am (below_step (HB.out) hb);(try clear hb);(try clear hb2);(try clear hk);(try clear hi)) | (go_at_call 18;(with_reducible refine (q4_Cups.calls a1 true _ A21.out).mono ?_);rintro e w' ⟨rfl,⟨nd,rfl⟩⟩;obtain ⟨hcz26_0,hcz26_1,hcz26_2,hcz26_3,hcz26_4⟩ := cO5 BK989.out) | (go_at_call 46;(with_reducible refine (q4_Counts.calls kj3 _ _ l0_0 a0_1 _ _ l0_2 a0_3 a0_4 _ _ l2 t998 _ ?side1 ?side2 ?side3 ?side4 ?side5 ?side6 A23.out).mono ?_);(case side1 => repeat (first | exact (kC HR0_0.out (pw_below_drewN HB.out _)) | (with_reducible refine Kd.C_alloc ?_ _) | (with_reducible refine Kd.C_drewN ?_ _) | (with_reducible refine Kd.C_drew ?_)));(case side2 => exact HC0_0.out);(case side3 => repeat (first | exact (kC HR0_2.out (pw_below_drewN HB.out _)) | (with_reducible refine Kd.C_alloc ?_ _) | (with_reducible refine Kd.C_drewN ?_ _) | (with_reducible refine Kd.C_drew ?_)));(case side4 => exact HC0_2.out);(case side5 => repeat (first | exact (kC HR2.out (pw_below_drewN HB.out _)) | (with_reducible refine Kd.C_alloc ?_ _) | (with_reducible refine Kd.C_drewN ?_ _) | (with_reducible refine Kd.C_drew ?_)));(case side6 => exact HC2.out);rintro e w27 ⟨rfl,hb⟩;replace HO994 := am (Kd.R_below (by (with_reducible repeat (first | apply Kd.R_alloc | apply Kd.R_drewN | apply Kd.R_drew));exact HO994.out) hb);replace BK989 := am (blk_below (g := gb989) (o := .cells #[.slice A0_0 l0_0.length c0_0,.int .i64 a0_1,.slice A0_2 l0_2.length c0_2,.int .i64 a0_3,.int .i64 a0_4] 27 (0,0)) (by (with_reducible repeat (first | refine blk_drewN ?_ _ | refine blk_drew ?_ | refine blk_alloc ?_ _));exact BK989.out) hb);replace HB := am (below_step (pw_below_drewN HB.out _) hb);(try clear hb);(try clear hb2);(try clear hk);(try clear hi)))
      go_meet
      case rel => exact ⟨_,(!t998),(by first | rfl | (simp;done) | (simp [*];done)),H',⟨by have := HJ3.out;first | omega | exact Nat.le_refl _⟩,⟨by (with_reducible repeat (first | apply Kd.R_alloc | apply Kd.R_drewN | apply Kd.R_drew));exact HO994.out⟩,⟨BK989.out⟩,⟨HB.out⟩⟩
     case rest =>
      clear HC16
      obtain ⟨kq,x38_15,rfl,HA,HJ15,HO_7,BK989,HB⟩ := hcut
      cases kq with
      | zero => exact absurd HA.out (by simp [l4_CastleLowered.j1])
      | succ kj15 =>
       have H := HA.out
       clear HA
       simp only [l4_CastleLowered.j1] at H
       by_cases c32 : x38_15 = true
       · subst c32
         replace H : (if t995 = 2 then (if (t992.length : Int) = 0 then ((l4_known.f).bind fun t999 => (some t999)) else (none)) else (none)) = some r := by rw [if_pos rfl] at H;exact H
         by_cases c33 : t995 = 2
         case neg =>
          rw [if_neg c33] at H
          exact absurd H (by simp)
         rw [if_pos c33] at H
         have c33b0 : (t995 == 2) = true := beq_iff_eq.mpr c33
         have c33b1 : (t995 != 2) = false := bne_eq_false_iff_eq.mpr c33
         clear c33
         by_cases c34 : (t992.length : Int) = 0
         case neg =>
          rw [if_neg c34] at H
          exact absurd H (by simp)
         rw [if_pos c34] at H
         have c34b0 : ((t992.length : Int) == 0) = true := beq_iff_eq.mpr c34
         have c34b1 : ((t992.length : Int) != 0) = false := bne_eq_false_iff_eq.mpr c34
         clear c34
         replace H := obm H
         obtain ⟨t999,A350,H⟩ := H
         replace H : (some t999) = some r := H
         have A35 := am A350
         clear A350
         obtain rfl := Option.some.inj H
         obtain ⟨Ao36,co36,eo36⟩ := Kd.R_slice HO_7.out
         subst eo36
         go_wp2_with (first | (go_at_call 15;(with_reducible refine (l4_known.calls  t999 _ A35.out).mono ?_);rintro e w37 ⟨rfl,hb⟩;replace HO_7 := am (Kd.R_below (by (with_reducible repeat (first | apply Kd.R_alloc | apply Kd.R_drewN | apply Kd.R_drew));exact HO_7.out) hb);replace BK989 := am (blk_below (g := gb989) (o := .cells #[.slice A0_0 l0_0.length c0_0,.int .i64 a0_1,.slice A0_2 l0_2.length c0_2,.int .i64 a0_3,.int .i64 a0_4] 27 (0,0)) (by (with_reducible repeat (first | refine blk_drewN ?_ _ | refine blk_drew ?_ | refine blk_alloc ?_ _));exact BK989.out) hb);replace HB := am (below_step (HB.out) hb);(try clear hb);(try clear hb2);(try clear hk);(try clear hi)))
         go_ret
         exact ⟨by first | rfl | (simp [*] <;> rfl),HB.out⟩
       · replace c32 := Bool.eq_false_iff.mpr c32
         subst c32
         replace H : (if t995 = 0 then ((q4_Lowered.f kj15 l0_0 a0_1 l0_2 a0_3 a0_4 a1 l2).bind fun t1000 => ((q4_SameChanges.f kj15 t992 t1000).bind fun t1003 => (if t1003 = true then ((l4_known.f).bind fun t1004 => (some t1004)) else (none)))) else (none)) = some r := by rw [if_neg (show ¬ (false = true) by decide)] at H;exact H
         by_cases c38 : t995 = 0
         case neg =>
          rw [if_neg c38] at H
          exact absurd H (by simp)
         rw [if_pos c38] at H
         have c38b0 : (t995 == 0) = true := beq_iff_eq.mpr c38
         have c38b1 : (t995 != 0) = false := bne_eq_false_iff_eq.mpr c38
         clear c38
         replace H := obm H
         obtain ⟨t1000,A390,H⟩ := H
         replace H : ((q4_SameChanges.f kj15 t992 t1000).bind fun t1003 => (if t1003 = true then ((l4_known.f).bind fun t1004 => (some t1004)) else (none))) = some r := H
         have A39 := am A390
         clear A390
         replace H := obm H
         obtain ⟨t1003,A400,H⟩ := H
         replace H : (if t1003 = true then ((l4_known.f).bind fun t1004 => (some t1004)) else (none)) = some r := H
         have A40 := am A400
         clear A400
         by_cases c41 : t1003 = true
         case neg =>
          replace c41 := Bool.eq_false_iff.mpr c41
          subst c41
          replace H : (none) = some r := by rw [if_neg (show ¬ (false = true) by decide)] at H;exact H
          exact absurd H (by simp)
         subst c41
         replace H : ((l4_known.f).bind fun t1004 => (some t1004)) = some r := by rw [if_pos rfl] at H;exact H
         replace H := obm H
         obtain ⟨t1004,A420,H⟩ := H
         replace H : (some t1004) = some r := H
         have A42 := am A420
         clear A420
         obtain rfl := Option.some.inj H
         obtain ⟨hcz43_0,hcz43_1,hcz43_2,hcz43_3,hcz43_4⟩ := cO5 BK989.out
         go_wp2_with (first | (go_at_call 48;(with_reducible refine (q4_Lowered.calls kj15 _ _ l0_0 a0_1 _ _ l0_2 a0_3 a0_4 a1 _ _ l2 t1000 _ ?side1 ?side2 ?side3 ?side4 ?side5 ?side6 A39.out).mono ?_);(case side1 => exact kC HR0_0.out HB.out);(case side2 => exact HC0_0.out);(case side3 => exact kC HR0_2.out HB.out);(case side4 => exact HC0_2.out);(case side5 => exact kC HR2.out HB.out);(case side6 => exact HC2.out);rintro e w44 ⟨v1001,rfl,ho0,hb⟩;have HO1002 := am (Kd.R_lower (Kd.R_new' ho0 (Kd.R_lt (by (with_reducible repeat (first | apply Kd.R_alloc | apply Kd.R_drewN | apply Kd.R_drew));exact HO_7.out))) (below_size (HB.out)));replace HO_7 := am (Kd.R_elder' (by (with_reducible repeat (first | apply Kd.R_alloc | apply Kd.R_drewN | apply Kd.R_drew));exact HO_7.out) (Kd.R_base ho0) hb);replace BK989 := am (blk_below (g := gb989) (o := .cells #[.slice A0_0 l0_0.length c0_0,.int .i64 a0_1,.slice A0_2 l0_2.length c0_2,.int .i64 a0_3,.int .i64 a0_4] 27 (0,0)) (by (with_reducible repeat (first | refine blk_drewN ?_ _ | refine blk_drew ?_ | refine blk_alloc ?_ _));exact BK989.out) hb);replace HB := am (below_step (HB.out) hb);(try clear hb);(try clear hb2);(try clear hk);(try clear hi);(try clear ho0);obtain ⟨Ao45,co45,eo45⟩ := Kd.R_slice HO_7.out;subst eo45;obtain ⟨Ao46,co46,eo46⟩ := Kd.R_slice HO1002.out;subst eo46) | (go_at_call 47;(with_reducible refine (q4_SameChanges.calls kj15 _ _ t992 _ _ t1000 true _ ?side1 ?side2 ?side3 ?side4 A40.out).mono ?_);(case side1 => repeat (first | exact (Kd.R_reads' HO_7.out).2.2 | (with_reducible refine Kd.C_alloc ?_ _) | (with_reducible refine Kd.C_drewN ?_ _) | (with_reducible refine Kd.C_drew ?_)));(case side2 => exact (Kd.R_reads' HO_7.out).2.1);(case side3 => repeat (first | exact (Kd.R_reads' HO1002.out).2.2 | (with_reducible refine Kd.C_alloc ?_ _) | (with_reducible refine Kd.C_drewN ?_ _) | (with_reducible refine Kd.C_drew ?_)));(case side4 => exact (Kd.R_reads' HO1002.out).2.1);rintro e w' ⟨rfl,⟨nd,rfl⟩⟩) | (go_at_call 15;(with_reducible refine (l4_known.calls  t1004 _ A42.out).mono ?_);rintro e w47 ⟨rfl,hb⟩;replace HO_7 := am (Kd.R_below (by (with_reducible repeat (first | apply Kd.R_alloc | apply Kd.R_drewN | apply Kd.R_drew));exact HO_7.out) hb);replace HO1002 := am (Kd.R_below (by (with_reducible repeat (first | apply Kd.R_alloc | apply Kd.R_drewN | apply Kd.R_drew));exact HO1002.out) hb);replace BK989 := am (blk_below (g := gb989) (o := .cells #[.slice A0_0 l0_0.length c0_0,.int .i64 a0_1,.slice A0_2 l0_2.length c0_2,.int .i64 a0_3,.int .i64 a0_4] 27 (0,0)) (by (with_reducible repeat (first | refine blk_drewN ?_ _ | refine blk_drew ?_ | refine blk_alloc ?_ _));exact BK989.out) hb);replace HB := am (below_step (pw_below_drewN HB.out _) hb);(try clear hb);(try clear hb2);(try clear hk);(try clear hi)))
         go_ret
         exact ⟨by first | rfl | (simp [*] <;> rfl),HB.out⟩
set_option linter.unusedSimpArgs false
set_option linter.unusedSimpArgs false
set_option linter.unusedSimpArgs false
end
def chgH (noz : List S64) (n h : Int) : List S64 := noz.set n.toNat (⟨(rd_T64 noz n).f0,h⟩ : S64)
def okC (noz : List S64) (n h : Int) : Bool := decide (0 ≤ n ∧ n ≤ (noz.length : Int) - 1) && decide (0 ≤ h ∧ h ≤ 40)
theorem okC_iff {noz : List S64} {n h : Int} : okC noz n h = true ↔ (0 ≤ n ∧ n ≤ (noz.length : Int) - 1) ∧ 0 ≤ h ∧ h ≤ 40 := by
 unfold okC;simp only [Bool.and_eq_true,decide_eq_true_eq]
section
variable {rows : List S126} {draw : Int} {noz : List S64} {weir spill : Int}
theorem chgH_len (n h : Int) : (chgH noz n h).length = noz.length := by simp [chgH]
theorem chgH_ok (hB : OkB rows draw noz weir spill) {n h : Int} (hc : okC noz n h = true) : OkB rows draw (chgH noz n h) weir spill := by
 obtain ⟨h1,h2⟩ := okC_iff.1 hc
 have hb := okB_iff.2 hB
 apply okB_iff.1
 unfold okB at hb ⊢
 rw [chgH_len]
 simp only [Bool.and_eq_true] at hb ⊢
 obtain ⟨b1,b2,b3,b4,b5⟩ := hb
 refine ⟨b1,b2,b3,b4,?_⟩
 rw [List.all_eq_true] at b5 ⊢
 intro z hz
 rcases List.mem_or_eq_of_mem_set hz with hz | rfl
 · exact b5 z hz
 · have := b5 _ (getD_mem (xs := noz) z64 h1.1 (by omega))
   unfold nozOk at this ⊢
   simp only [Bool.and_eq_true,decide_eq_true_eq] at this ⊢
   exact ⟨this.1,h2⟩
theorem changed_eq {n h : Int} (hc : okC noz n h = true) (hn : noz.length ≤ 1000) : ca_changed.f rows draw noz weir spill n h = some (chgH noz n h) := by
 obtain ⟨h1,h2⟩ := okC_iff.1 hc
 unfold ca_changed.f
 rw [clone_z hn,Option.bind_some,if_pos h1.1,if_pos (by omega)]
 rfl
theorem with_eq {n h : Int} (hc : okC noz n h = true) (hn : noz.length ≤ 1000) : q4_With.f rows draw noz weir spill n h = some (chgH noz n h) := by
 obtain ⟨h1,h2⟩ := okC_iff.1 hc
 unfold q4_With.f
 rw [if_pos (by simp;omega),Option.bind_some,if_pos h1.1,if_pos (by simp;omega)]
 rfl
end
def agr : List Int → List S40 → Bool
 | x :: l,c :: m => decide (c.f0 ≤ x ∧ x ≤ c.f1) && agr l m
 | _,_ => true
theorem drop_span {C : List S40} {i : Int} (h0 : 0 ≤ i) (h1 : i < C.length) : C.drop i.toNat = rd_T40 C i :: C.drop (i.toNat + 1) := by
 have hi : i.toNat < C.length := by omega
 rw [List.drop_eq_getElem_cons hi];simp [rd_T40,hi]
theorem drop_int {X : List Int} {i : Int} (h0 : 0 ≤ i) (h1 : i < X.length) : X.drop i.toNat = rd X i :: X.drop (i.toNat + 1) := by
 have hi : i.toNat < X.length := by omega
 rw [List.drop_eq_getElem_cons hi];simp [rd,hi]
section
variable {rows : List S126} {draw : Int} {noz : List S64} {weir spill : Int}
def hit (rows : List S126) (noz : List S64) (weir spill cups : Int) (C : List S40) (n h : Int) : Bool :=
 !decide (h = (rd_T64 noz n).f1) && agr (shareL rows (chgH noz n h) weir spill cups) C
def colL (rows : List S126) (noz : List S64) (weir spill cups : Int) (C : List S40) (n : Int) : Int → Nat → List S58
 | _,0 => []
 | h,d + 1 => (if hit rows noz weir spill cups C n h then [(⟨n,h⟩ : S58)] else []) ++ colL rows noz weir spill cups C n (h + 1) d
def rowL (rows : List S126) (noz : List S64) (weir spill cups : Int) (C : List S40) : Int → Nat → List S58
 | _,0 => []
 | n,d + 1 => colL rows noz weir spill cups C n 0 41 ++ rowL rows noz weir spill cups C (n + 1) d
theorem colL_len (cups : Int) (C : List S40) (n : Int) : ∀ (d : Nat) (h : Int),(colL rows noz weir spill cups C n h d).length ≤ d
 | 0,h => by simp [colL]
 | d + 1,h => by
  have := colL_len cups C n d (h + 1)
  simp only [colL,List.length_append]
  split <;> simp <;> omega
theorem rowL_len (cups : Int) (C : List S40) : ∀ (d : Nat) (n : Int),(rowL rows noz weir spill cups C n d).length ≤ 41 * d
 | 0,n => by simp [rowL]
 | d + 1,n => by
  have := rowL_len cups C d (n + 1)
  have := colL_len (rows := rows) (noz := noz) (weir := weir) (spill := spill) cups C n 41 0
  simp only [rowL,List.length_append]
  omega
theorem cl2 {cups : Int} {C : List S40} {out : List S58} {n h z0 z1 : Int} {S : List Int} (hS : S.length = C.length) (hC : C.length ≤ 100) (ho : out.length ≤ 1000) (hh : 0 ≤ h ∧ h ≤ 40) {r : Option (List S58 × Int)} {N0 : Nat} (a0 : Int) :
 (∀ k,N0 ≤ k → ca_Lowered.l1 k cups C (if agr S C then out ++ [(⟨n,h⟩ : S58)] else out) n noz (noz.length : Int) a0 (h + 1) rows draw noz weir spill z0 z1 = r) →
 ∀ (d k : Nat) (i : Int),0 ≤ i → i + d = C.length → N0 + d < k → agr S C = agr (S.drop i.toNat) (C.drop i.toNat) →
  ca_Lowered.l2 k cups C out n S noz (noz.length : Int) a0 h C (C.length : Int) i rows draw noz weir spill z0 z1 n h = r := by
 intro hr d
 induction d with
 | zero =>
  intro k i h0 h1 hk he
  obtain ⟨k,rfl⟩ := ksucc (by omega : 0 < k)
  simp only [ca_Lowered.l2]
  rw [if_neg (by omega),if_pos (by omega),w64 (n := h + 1) (by omega)]
  have e : agr S C = true := by rw [he,List.drop_of_length_le (by omega : S.length ≤ i.toNat)];rfl
  have := hr k (by omega)
  rw [if_pos e] at this
  exact this
 | succ d ih =>
  intro k i h0 h1 hk he
  obtain ⟨k,rfl⟩ := ksucc (by omega : 0 < k)
  simp only [ca_Lowered.l2]
  rw [if_pos (by omega),if_pos h0,if_pos (by omega),if_pos (by omega),c_in,Option.bind_some]
  rw [drop_int h0 (by omega),drop_span h0 (by omega)] at he
  by_cases c : (rd_T40 C i).f0 ≤ rd S i ∧ rd S i ≤ (rd_T40 C i).f1
  · rw [decide_eq_true c,if_pos rfl,w64 (n := i + 1) (by omega)]
    refine ih k (i + 1) (by omega) (by omega) (by omega) ?_
    rw [he,show (i + 1).toNat = i.toNat + 1 by omega]
    simp only [agr,decide_eq_true c,Bool.true_and]
  · rw [decide_eq_false c,if_neg (by decide),w64 (n := h + 1) (by omega)]
    have e : agr S C = false := by rw [he];simp only [agr,decide_eq_false c,Bool.false_and]
    have := hr k (by omega)
    rw [e,if_neg (by decide)] at this
    exact this
theorem cl1 (hB : OkB rows draw noz weir spill) {cups : Int} (c0 : 0 ≤ cups) (c1 : cups ≤ 10000) {C : List S40} (hC : C.length = noz.length) {n : Int} (n0 : 0 ≤ n) (n1 : n < noz.length) {r : Option (List S58 × Int)} {N0 : Nat} (hN : 410 ≤ N0) :
 ∀ (d : Nat) (h : Int) (out : List S58),0 ≤ h → h + d = 41 → out.length + d ≤ 1000 →
  (∀ k,N0 ≤ k → ca_Lowered.l0 k cups C (out ++ colL rows noz weir spill cups C n h d) noz (noz.length : Int) (n + 1) rows draw noz weir spill = r) →
  ∀ k,N0 + (d + 1) * (noz.length + 2) ≤ k → ca_Lowered.l1 k cups C out n noz (noz.length : Int) n h rows draw noz weir spill (rd_T64 noz n).f0 (rd_T64 noz n).f1 = r
 | 0,h,out,h0,h1,ho,hr,k,hk => by
  obtain ⟨k,rfl⟩ := ksucc (by omega : 0 < k)
  simp only [ca_Lowered.l1]
  rw [if_neg (by omega),w64 (n := n + 1) (by have := hB.n2;omega)]
  have := hr k (by omega)
  simpa [colL] using this
 | d + 1,h,out,h0,h1,ho,hr,k,hk => by
  have n2 := hB.n2
  have hk' : N0 + (d + 1) * (noz.length + 2) + (noz.length + 2) ≤ k := by
   have : (d + 1 + 1) * (noz.length + 2) = (d + 1) * (noz.length + 2) + (noz.length + 2) := Nat.succ_mul _ _
   omega
  obtain ⟨k,rfl⟩ := ksucc (by omega : 0 < k)
  simp only [ca_Lowered.l1]
  rw [if_pos (by omega)]
  have next : ∀ (o : List S58),o.length + d ≤ 1000 → o = out ++ (if hit rows noz weir spill cups C n h then [(⟨n,h⟩ : S58)] else []) →
   ∀ k,N0 + (d + 1) * (noz.length + 2) ≤ k → ca_Lowered.l1 k cups C o n noz (noz.length : Int) n (h + 1) rows draw noz weir spill (rd_T64 noz n).f0 (rd_T64 noz n).f1 = r := by
   intro o hol he
   refine cl1 hB c0 c1 hC n0 n1 hN d (h + 1) o (by omega) (by omega) hol ?_
   intro k hk
   have := hr k hk
   rw [he]
   simpa [colL,List.append_assoc] using this
  by_cases e : h = (rd_T64 noz n).f1
  · rw [if_pos e,w64 (n := h + 1) (by omega)]
    exact next out (by omega) (by simp [hit,e]) k (by omega)
  · rw [if_neg e]
    have hc : okC noz n h = true := okC_iff.2 ⟨⟨n0,by omega⟩,h0,by omega⟩
    have hB' := chgH_ok hB hc
    have S := shareL_in hB' c0
    rw [changed_eq hc (by omega),Option.bind_some,fill_eq hB' (by omega),Option.bind_some]
    rw [shares_eq hB' c0 c1 (by omega),Option.bind_some]
    refine cl2 (by rw [S.2,chgH_len,hC]) (by omega) (by omega) ⟨h0,by omega⟩ n (N0 := N0 + (d + 1) * (noz.length + 2)) ?_ C.length k 0 (by omega) (by omega) (by omega) rfl
    have hh : hit rows noz weir spill cups C n h = agr (shareL rows (chgH noz n h) weir spill cups) C := by simp [hit,e]
    refine next _ ?_ ?_
    · split <;> (try simp only [List.length_append,List.length_singleton]) <;> omega
    · rw [hh];cases agr (shareL rows (chgH noz n h) weir spill cups) C <;> simp
theorem cl0 (hB : OkB rows draw noz weir spill) {cups : Int} (c0 : 0 ≤ cups) (c1 : cups ≤ 10000) {C : List S40} (hC : C.length = noz.length) :
 ∀ (d : Nat) (n : Int) (out : List S58),0 ≤ n → n + d = noz.length → out.length + 41 * d ≤ 900 →
  ∀ k,420 + d * (43 * (noz.length + 2)) ≤ k → ca_Lowered.l0 k cups C out noz (noz.length : Int) n rows draw noz weir spill = some (out ++ rowL rows noz weir spill cups C n d,0)
 | 0,n,out,n0,n1,ho,k,hk => by
  obtain ⟨k,rfl⟩ := ksucc (by omega : 0 < k)
  simp only [ca_Lowered.l0]
  rw [if_neg (by omega)]
  simp [rowL]
 | d + 1,n,out,n0,n1,ho,k,hk => by
  have hk' : 420 + d * (43 * (noz.length + 2)) + 43 * (noz.length + 2) ≤ k := by
   have : (d + 1) * (43 * (noz.length + 2)) = d * (43 * (noz.length + 2)) + 43 * (noz.length + 2) := Nat.succ_mul _ _
   omega
  obtain ⟨k,rfl⟩ := ksucc (by omega : 0 < k)
  simp only [ca_Lowered.l0]
  rw [if_pos (by omega),if_pos n0,if_pos (by omega)]
  have cl := colL_len (rows := rows) (noz := noz) (weir := weir) (spill := spill) cups C n 41 0
  refine cl1 hB c0 c1 hC n0 (by omega) (N0 := 420 + d * (43 * (noz.length + 2))) (by omega) 41 0 out (by omega) (by omega) (by omega) ?_ k (by omega)
  intro k hk
  rw [cl0 hB c0 c1 hC d (n + 1) _ (by omega) (by omega) (by simp;omega) k hk]
  simp [rowL]
end
end Go.Proofs.YticlelgmmonloaaGreatDoor.C

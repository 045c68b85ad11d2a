/- A part of the proof: the walks of the functions that it reaches. TIGHT. -/
import Derived.Test.YtnnmnhpeblhiiaaGreatDoorMC10
set_option linter.unusedVariables false
set_option linter.unusedSimpArgs false
namespace Go.Proofs.YtnnmnhpeblhiiaaGreatDoor.C
open Go.RowKit Go.Proofs.YtnnmnhpeblhiiaaGreatDoorW.PrintWords Go.Proofs.YtnnmnhpeblhiiaaGreatDoorW.PrintLast Go.Proofs.YtnnmnhpeblhiiaaGreatDoorW.PrintMore
set_option linter.unusedVariables false
set_option linter.unusedSimpArgs false
set_option maxHeartbeats 16000000
set_option maxRecDepth 100000
section
attribute [local go_sem] max2_int min2_int max_two min_two
def q4_Out.l0 : Nat → Int → List Int → Int → List (S126) → Int → List (S48) → Int → Int → Option (List Int × Int)
 | 0,_,_,_,_,_,_,_,_ => none
 | k + 1,x1,x6,x7,x497000,x497001,x497002,x497003,x497004 => if x7 < (x497002.length : Int) then (if 0 ≤ x7 then (if 0 ≤ ((rd_T48 x497002 x7).f0) then (if ((rd_T48 x497002 x7).f0) < (x497000.length : Int) then (if x6.length < 17592186044416 then (q4_Out.l0 k x1 (x6 ++ [wrap64 (Int.tdiv (wrap64 (((rd_T126 x497000 ((rd_T48 x497002 x7).f0)).f2) * (mn 5 (mx 0 (wrap64 (x1 - ((rd_T48 x497002 x7).f1))))))) 5)]) (wrap64 (x7 + 1)) x497000 x497001 x497002 x497003 x497004) else (none)) else (none)) else (none)) else (none)) else (some (x6,wrap64 (x497004 * (mx 0 (wrap64 (x1 - x497003))))))
def q4_Out.f (k : Nat) (l0_0 : List (S126)) (a0_1 : Int) (l0_2 : List (S48)) (a0_3 : Int) (a0_4 : Int) (a1 : Int) : Option (List Int × Int) := q4_Out.l0 k a1 ([] : List Int) 0 l0_0 a0_1 l0_2 a0_3 a0_4
def q4_Out.T6 : Bool × List (List Nat × List Nat) := (true,[([],[]),([],[]),([1],[1]),([2],[2]),([],[]),([4],[4]),([3,5],[3,5]),([6],[6]),([7],[7]),([],[]),([],[]),([10],[10]),([9,11],[9,11]),([12],[12]),([13],[13]),([8,14],[8,14]),([15],[15]),([16],[16]),([0,17],[0,17]),([18,18,0,1,2,3,4,5,6,7,8,9,10,11,12,13,14,15,16,17,18],[0,18])])
def q4_Out.B6 : List Nat := [0,0,2,6,0,16,62,126,254,0,0,1024,3584,7680,15872,32766,65534,131070,262143,524287]
theorem q4_Out.tab6 : rtab .any (opsOf Tryz.f44 6) = q4_Out.T6 := by kernel_rfl
theorem q4_Out.bits6 : waitsOk q4_Out.T6.2 q4_Out.B6 = true := by kernel_rfl
def q4_Out.T7 : Bool × List (List Nat × List Nat) := (true,[([],[]),([],[]),([1],[1]),([],[]),([],[]),([4],[4]),([3,5],[3,5]),([6],[6]),([2,7],[2,7]),([0,0],[0]),([8,9,0,1,2,3,4,5,6,7,8,9],[8])])
def q4_Out.B7 : List Nat := [0,0,2,0,0,16,56,120,254,1,1023]
theorem q4_Out.tab7 : rtab .any (opsOf Tryz.f44 7) = q4_Out.T7 := by kernel_rfl
theorem q4_Out.bits7 : waitsOk q4_Out.T7.2 q4_Out.B7 = true := by kernel_rfl
theorem q4_Out.calls (k : Nat) (A0_0 : Option Addr) (c0_0 : Nat) (l0_0 : List (S126)) (a0_1 : Int) (A0_2 : Option Addr) (c0_2 : Nat) (l0_2 : List (S48)) (a0_3 : Int) (a0_4 : Int) (a1 : Int) (r1 : List Int) (r2 : Int) (w : World) (hr0_0 : Kd.C k126 w A0_0 l0_0.length l0_0) (hc0_0 : l0_0.length ≤ c0_0) (hr0_2 : Kd.C k48 w A0_2 l0_2.length l0_2) (hc0_2 : l0_2.length ≤ c0_2) (h : q4_Out.f k l0_0 a0_1 l0_2 a0_3 a0_4 a1 = some (r1,r2)) :
 Calls Tryz.prog 44 #[.agg #[.slice A0_0 l0_0.length c0_0,.int .i64 a0_1,.slice A0_2 l0_2.length c0_2,.int .i64 a0_3,.int .i64 a0_4],.int .i64 a1] w fun e w' => ∃ v0_ : Value,e = .returned (.tuple #[v0_,.int .i64 r2]) ∧ Kd.R (Kd.int .i64) 3 w' w.heap.size (fun _ => True) v0_ r1 ∧ Below w.heap.size w w' := by
 have hu27 := Tryz.underlying27
 have hu48 := Tryz.underlying48
 have HR0_0 := am hr0_0
 have HC0_0 := am hc0_0
 clear hr0_0 hc0_0
 have HR0_2 := am hr0_2
 have HC0_2 := am hc0_2
 clear hr0_2 hc0_2
 have HB := am (Below.refl w.heap.size w)
 have H : (q4_Out.l0 k a1 ([] : List Int) 0 l0_0 a0_1 l0_2 a0_3 a0_4) = some (r1,r2) := h
 clear h
 replace H' := am H
 go_enter Tryz.func44,Tryz.ntmps44
 go_wp2_with (first | ((refine gate_dst (N := 2) rfl ?_);refine box_event rfl (N := 2) rfl (cs := #[.slice A0_0 l0_0.length c0_0,.int .i64 a0_1,.slice A0_2 l0_2.length c0_2,.int .i64 a0_3,.int .i64 a0_4]) (t := 27) ?hr ?_;(case hr => go_simp;try rfl);intro gb496 hg w3 hbox hb;have BK496 := am (hbox);have GW496 := am (ge_new (HB.out) hg);have GE496 := am (ge_new (HB.out) hg);replace HB := am (below_step (HB.out) hb);clear hb hbox hg))
 go_loopg [6,7] k (fun kq v6 v7 w' => ∃ (x6_1 : List Int) (x7_1 : Int),v7 = .int .i64 x7_1 ∧ Aside0 (q4_Out.l0 kq a1 x6_1 x7_1 l0_0 a0_1 l0_2 a0_3 a0_4 = some (r1,r2)) ∧ Aside0 (kq ≤ k) ∧ Aside0 (Kd.R (Kd.int .i64) 3 w' w.heap.size (fun _ => True) v6 x6_1) ∧ Aside0 (w'.heap[gb496]? = some (.cells #[(.slice A0_0 l0_0.length c0_0),.int .i64 a0_1,(.slice A0_2 l0_2.length c0_2),.int .i64 a0_3,.int .i64 a0_4] 27 (0,0))) ∧ Aside0 (Below w.heap.size w w'))
 case atStart => exact ⟨(([] : List Int)),(0),(by first | rfl | (simp;done) | (simp [*];done)),H',⟨Nat.le_refl _⟩,⟨by first | exact Kd.R_nil _ _ _ _ _ | exact Kd.N_nil _ _ _ _ _ | exact Kd.V_nil _ _ _ _ _ | exact Kd.Q_nil _ _ _ _ _ | exact Kd.S_nil _ _ _ _ _⟩,⟨BK496.out⟩,⟨HB.out⟩⟩
 case round =>
  clear H'
  obtain ⟨x6_1,x7_1,rfl,HA,HK1,HO_6,BK496,HB⟩ := hrel
  cases gk with
  | zero => exact absurd HA.out (by simp [q4_Out.l0])
  | succ k1 =>
   have H := HA.out
   clear HA
   simp only [q4_Out.l0] at H
   by_cases c4 : x7_1 < (l0_2.length : Int)
   case neg =>
    rw [if_neg c4] at H
    have c4b0 : decide (x7_1 < (l0_2.length : Int)) = false := decide_eq_false c4
    clear c4
    obtain ⟨ji18,hji18⟩ : ∃ j_ : Int,(mx 0 (wrap64 (a1 - a0_3))) = j_ := ⟨_,rfl⟩
    replace H : (some (x6_1,wrap64 (a0_4 * (ji18)))) = some (r1,r2) := by first | (rw [hji18] at H;exact H) | (simp only [hji18] at H ⊢;exact H)
    (try (have hji18l : 0 ≤ ji18 := by (rw [← hji18];unfold mx;(repeat' split) <;> omega)))
    (try (have hji18m : 0 ≤ ji18 := by omega))
    have hji18_ : (if 0 < (wrap64 (a1 - a0_3)) then (wrap64 (a1 - a0_3)) else 0) = ji18 := hji18
    simp only [Option.some.injEq,Prod.mk.injEq] at H
    obtain ⟨rfl,rfl⟩ := H
    obtain ⟨hcz19_0,hcz19_1,hcz19_2,hcz19_3,hcz19_4⟩ := cO5 BK496.out
    try go_wp2
    replace HO_6 := am (Kd.R_drew HO_6.out)
    replace BK496 := am (blk_drew BK496.out)
    replace HB := am (below_drew1 HB.out)
    refine start_ (n := 11) (S := fun w' => w'.cell? ⟨gb496,0,none⟩ = some (.slice A0_0 l0_0.length c0_0) ∧ w'.cell? ⟨gb496,1,none⟩ = some (.int .i64 a0_1) ∧ w'.cell? ⟨gb496,2,none⟩ = some (.slice A0_2 l0_2.length c0_2) ∧ w'.cell? ⟨gb496,3,none⟩ = some (.int .i64 a0_3) ∧ w'.cell? ⟨gb496,4,none⟩ = some (.int .i64 a0_4)) (ds := []) (ba 11 0) (by kernel_rfl) rfl rfl ⟨(blk_cell BK496.out 0).trans rfl,(blk_cell BK496.out 1).trans rfl,(blk_cell BK496.out 2).trans rfl,(blk_cell BK496.out 3).trans rfl,(blk_cell BK496.out 4).trans rfl⟩ (fun hHeld => ?_);refine with_tabW q4_Out.tab7 q4_Out.bits7 (fun HT_ HW_ => ?_)
    generalize wr.drew = w20 at HO_6 BK496 HB hHeld ⊢
    refine pure_ (i := 0) (N := some 40) (v := ?_) (a' := ?_) (ba 11 1) rfl rfl (any_of HT_.out (by kernel_rfl)) (fun _ _ _ h => h) (Or.inl ⟨by rfl,?_⟩) ?_ ?_
    rotate_left
    · intro w'
      go_simp
      with_reducible rfl
    rotate_left
    · simp only [Act.put,NRM]
      rfl
    refine pure_ (i := 1) (N := some 41) (v := ?_) (a' := ?_) (ba 11 3) rfl rfl (any_of HT_.out (by kernel_rfl)) (fun _ _ _ h => h) (Or.inl ⟨by rfl,?_⟩) ?_ ?_
    rotate_left
    · intro w'
      go_simp
      with_reducible rfl
    rotate_left
    · simp only [Act.put,NRM]
      rfl
    refine pure_ (i := 3) (N := some 43) (v := ?_) (a' := ?_) (ba 11 11) rfl rfl (any_of HT_.out (by kernel_rfl)) (fun _ _ _ h => h) (Or.inl ⟨by rfl,?_⟩) ?_ ?_
    rotate_left
    · intro w'
      go_simp
      with_reducible rfl
    rotate_left
    · simp only [Act.put,NRM]
      rfl
    refine pure_ (i := 4) (N := some 44) (v := ?_) (a' := ?_) (ba 11 27) rfl rfl (any_of HT_.out (by kernel_rfl)) (fun _ _ _ h => h) (Or.inl ⟨by rfl,?_⟩) ?_ ?_
    rotate_left
    · intro w'
      go_simp
      with_reducible rfl
    rotate_left
    · simp only [Act.put,NRM]
      rfl
    refine pure_ (i := 9) (N := some 4) (v := ?_) (a' := ?_) (ba 11 539) rfl rfl (any_of HT_.out (by kernel_rfl)) (fun _ _ _ h => h) (Or.inl ⟨by rfl,?_⟩) ?_ ?_
    rotate_left
    · intro w'
      go_simp
      with_reducible rfl
    rotate_left
    · simp only [Act.put,NRM]
      rfl
    refine take_ (i := 2) (N := some 42) (v := ?_) (a' := ?_) (ba 11 543) rfl rfl (take_ofW HT_.out HW_.out (by kernel_rfl)) (fun _ _ _ h => h) (Or.inl ⟨by rfl,?_⟩) hHeld ?_ ?_
    rotate_left
    · rintro w' ⟨s0,s1,s2,s3,s4⟩
      go_simp
      with_reducible rfl
    rotate_left
    · simp only [Act.put,NRM]
      rfl
    refine take_ (i := 5) (N := some 45) (v := ?_) (a' := ?_) (ba 11 575) rfl rfl (take_ofW HT_.out HW_.out (by kernel_rfl)) (fun _ _ _ h => h) (Or.inl ⟨by rfl,?_⟩) hHeld ?_ ?_
    rotate_left
    · rintro w' ⟨s0,s1,s2,s3,s4⟩
      go_simp
      with_reducible rfl
    rotate_left
    · simp only [Act.put,NRM]
      rfl
    refine pure_ (i := 6) (N := some 46) (v := ?_) (a' := ?_) (ba 11 639) rfl rfl (any_of HT_.out (by kernel_rfl)) (fun _ _ _ h => h) (Or.inl ⟨by rfl,?_⟩) ?_ ?_
    rotate_left
    · intro w'
      go_simp
      with_reducible rfl
    rotate_left
    · simp only [Act.put,NRM]
      rfl
    refine pure_ (i := 7) (N := some 47) (v := ?_) (a' := ?_) (ba 11 767) rfl rfl (any_of HT_.out (by kernel_rfl)) (fun _ _ _ h => h) (Or.inl ⟨by rfl,?_⟩) ?_ ?_
    rotate_left
    · intro w'
      go_simp
      with_reducible rfl
    rotate_left
    · simp only [Act.put,NRM]
      rfl
    refine pure_ (i := 8) (N := some 48) (v := ?_) (a' := ?_) (ba 11 1023) rfl rfl (any_of HT_.out (by kernel_rfl)) (fun _ _ _ h => h) (Or.inl ⟨by rfl,?_⟩) ?_ ?_
    rotate_left
    · intro w'
      go_simp
      with_reducible rfl
    rotate_left
    · simp only [Act.put,NRM]
      rfl
    refine pure_ (i := 10) (N := some 5) (v := ?_) (a' := ?_) (ba 11 2047) rfl rfl (any_of HT_.out (by kernel_rfl)) (fun _ _ _ h => h) (Or.inl ⟨by rfl,?_⟩) ?_ ?_
    rotate_left
    · intro w'
      go_simp
      with_reducible rfl
    rotate_left
    · simp only [Act.put,NRM]
      rfl
    refine done_ (done_of HT_.out (by kernel_rfl)) ?_
    try go_wp2
    go_ret2
    exact ⟨_,by first | rfl | (simp [errW_none,errW_some] <;> rfl) | (simp only [← hji18];first | rfl | (simp [errW_none,errW_some] <;> rfl)) | (simp [*,errW_none,errW_some] <;> rfl),by (with_reducible repeat (first | apply Kd.R_alloc | apply Kd.R_drewN | apply Kd.R_drew));exact HO_6.out,HB.out⟩
   rw [if_pos c4] at H
   have c4b0 : decide (x7_1 < (l0_2.length : Int)) = true := decide_eq_true c4
   clear c4
   by_cases c5 : 0 ≤ x7_1
   case neg =>
    rw [if_neg c5] at H
    exact absurd H (by simp)
   rw [if_pos c5] at H
   have c5b0 : decide (0 ≤ x7_1) = true := decide_eq_true c5
   clear c5
   by_cases c6 : 0 ≤ ((rd_T48 l0_2 x7_1).f0)
   case neg =>
    rw [if_neg c6] at H
    exact absurd H (by simp)
   rw [if_pos c6] at H
   have c6b0 : decide (0 ≤ ((rd_T48 l0_2 x7_1).f0)) = true := decide_eq_true c6
   clear c6
   by_cases c7 : ((rd_T48 l0_2 x7_1).f0) < (l0_0.length : Int)
   case neg =>
    rw [if_neg c7] at H
    exact absurd H (by simp)
   rw [if_pos c7] at H
   have c7b0 : decide (((rd_T48 l0_2 x7_1).f0) < (l0_0.length : Int)) = true := decide_eq_true c7
   clear c7
   obtain ⟨ji8,hji8⟩ : ∃ j_ : Int,(mx 0 (wrap64 (a1 - ((rd_T48 l0_2 x7_1).f1)))) = j_ := ⟨_,rfl⟩
   replace H : (if x6_1.length < 17592186044416 then (q4_Out.l0 k1 a1 (x6_1 ++ [wrap64 (Int.tdiv (wrap64 (((rd_T126 l0_0 ((rd_T48 l0_2 x7_1).f0)).f2) * (mn 5 (ji8)))) 5)]) (wrap64 (x7_1 + 1)) l0_0 a0_1 l0_2 a0_3 a0_4) else (none)) = some (r1,r2) := by first | (rw [hji8] at H;exact H) | (simp only [hji8] at H ⊢;exact H)
   have hji8_ : (if 0 < (wrap64 (a1 - ((rd_T48 l0_2 x7_1).f1))) then (wrap64 (a1 - ((rd_T48 l0_2 x7_1).f1))) else 0) = ji8 := hji8
   obtain ⟨ji9,hji9⟩ : ∃ j_ : Int,(mn 5 (ji8)) = j_ := ⟨_,rfl⟩
   replace H : (if x6_1.length < 17592186044416 then (q4_Out.l0 k1 a1 (x6_1 ++ [wrap64 (Int.tdiv (wrap64 (((rd_T126 l0_0 ((rd_T48 l0_2 x7_1).f0)).f2) * (ji9))) 5)]) (wrap64 (x7_1 + 1)) l0_0 a0_1 l0_2 a0_3 a0_4) else (none)) = some (r1,r2) := by first | (rw [hji9] at H;exact H) | (simp only [hji9] at H ⊢;exact H)
   have hji9_ : (if (ji8) < 5 then (ji8) else 5) = ji9 := hji9
   by_cases c10 : x6_1.length < 17592186044416
   case neg =>
    rw [if_neg c10] at H
    exact absurd H (by simp)
   rw [if_pos c10] at H
   have LMc10 := am c10
   clear c10
   obtain ⟨y500,hy500⟩ : ∃ y_ : List Int,y_ = (x6_1 ++ [wrap64 (Int.tdiv (wrap64 (((rd_T126 l0_0 ((rd_T48 l0_2 x7_1).f0)).f2) * (ji9))) 5)]) := ⟨_,rfl⟩
   replace H : (q4_Out.l0 k1 a1 y500 (wrap64 (x7_1 + 1)) l0_0 a0_1 l0_2 a0_3 a0_4) = some (r1,r2) := by first | (rw [hy500];with_reducible exact H) | (have H2_ := (Option.bind_some _ _).symm.trans H;rw [hy500];with_reducible exact H2_) | (have H2_ := (Option.bind_some _ _).symm.trans H;with_reducible exact H2_) | with_reducible exact H | (rw [hy500];exact H) | exact H
   have Ny500 := am hy500
   clear hy500
   replace H' := am H
   obtain ⟨hcz11_0,hcz11_1,hcz11_2,hcz11_3,hcz11_4⟩ := cO5 BK496.out
   have p497 : 0 ≤ (x7_1 : Int) := of_decide_eq_true (by assumption)
   have q497 : x7_1 < (l0_2.length : Int) := of_decide_eq_true (by assumption)
   obtain ⟨ad497,e497,hx497_0,hx497_1⟩ := at_T48 HR0_2.out x7_1 p497 q497
   cases e497
   replace hx497_0 := (HB.out.cell (wbl hx497_0)).trans hx497_0
   replace hx497_1 := (HB.out.cell (wbl hx497_1)).trans hx497_1
   replace p497 := eq_true p497
   replace q497 := eq_true q497
   try go_wp2_with (first | ((refine gate_dst (N := 8) rfl ?_);refine box_event rfl (N := 8) rfl (cs := #[.int .i64 0,.int .i64 0]) (t := 48) ?hr ?_;(case hr => go_simp;try rfl);intro gb498 hg w12 hbox hb;have BK498 := am (hbox);have GW498 := am (ge_new (HB.out) hg);have GE498 := am (ge_new (HB.out) hg);have NB496_498 := am (ne_new BK496.out hg);have NB498_496 := am (ne_new2 BK496.out hg);replace HO_6 := am (Kd.R_below HO_6.out hb);replace BK496 := (kmv hb BK496);replace HB := am (below_step (HB.out) hb);clear hb hbox hg;have hnb13 := NB498_496.out;have hnc13 := NB496_498.out;obtain ⟨hcz14_0,hcz14_1⟩ := cO2 BK498.out;have hfz14_0 := blk_frozen BK498.out 0;have hfz14_1 := blk_frozen BK498.out 1))
   have n0_ : Aside0 (Kd.R (Kd.int .i64) 3 ((w12.setCell ⟨gb498,0,none⟩ (.int .i64 ((rd_T48 l0_2 x7_1).f0))).setCell ⟨gb498,1,none⟩ (.int .i64 ((rd_T48 l0_2 x7_1).f1))) w.heap.size (fun _ => True) u6 x6_1) := ⟨by (with_reducible repeat (first | apply Kd.R_alloc | apply Kd.R_drewN | apply Kd.R_drew));exact Kd.R_mono (Kd.R_far (p := ⟨gb498,1,none⟩) (Kd.R_far (p := ⟨gb498,0,none⟩) (Kd.R_types HO_6.out BK498.out (by decide)) (fun _ hk => hk.2) (.int .i64 ((rd_T48 l0_2 x7_1).f0))) (fun _ hk => hk.2) (.int .i64 ((rd_T48 l0_2 x7_1).f1))) (fun _ hk => trivial)⟩
   have n1_ : Aside0 (((w12.setCell ⟨gb498,0,none⟩ (.int .i64 ((rd_T48 l0_2 x7_1).f0))).setCell ⟨gb498,1,none⟩ (.int .i64 ((rd_T48 l0_2 x7_1).f1))).heap[gb496]? = some (.cells #[.slice A0_0 l0_0.length c0_0,.int .i64 a0_1,.slice (some ad497) l0_2.length c0_2,.int .i64 a0_3,.int .i64 a0_4] 27 (0,0))) := ⟨(blk_far (blk_far BK496.out NB496_498.out _) NB496_498.out _)⟩
   have n2_ : Aside0 (((w12.setCell ⟨gb498,0,none⟩ (.int .i64 ((rd_T48 l0_2 x7_1).f0))).setCell ⟨gb498,1,none⟩ (.int .i64 ((rd_T48 l0_2 x7_1).f1))).heap[gb498]? = some (.cells #[.int .i64 ((rd_T48 l0_2 x7_1).f0),.int .i64 ((rd_T48 l0_2 x7_1).f1)] 48 (0,0))) := ⟨(blk_put (cs := #[.int .i64 ((rd_T48 l0_2 x7_1).f0),.int .i64 0]) (blk_put (cs := #[.int .i64 0,.int .i64 0]) BK498.out 0 _ rfl) 1 _ rfl)⟩
   have n3_ : Aside0 (Below w.heap.size w ((w12.setCell ⟨gb498,0,none⟩ (.int .i64 ((rd_T48 l0_2 x7_1).f0))).setCell ⟨gb498,1,none⟩ (.int .i64 ((rd_T48 l0_2 x7_1).f1)))) := ⟨by repeat (first | (with_reducible first | exact HB.out | refine below_set ?_ (Aside0.out (by assumption)) | apply below_alloc | apply pw_below_drewN) | exact HB.out)⟩
   (try clear HO_6)
   (try clear BK496)
   (try clear BK498)
   (try clear HB)
   generalize ((w12.setCell ⟨gb498,0,none⟩ (.int .i64 ((rd_T48 l0_2 x7_1).f0))).setCell ⟨gb498,1,none⟩ (.int .i64 ((rd_T48 l0_2 x7_1).f1))) = w15 at n0_ n1_ n2_ n3_ ⊢
   have HO_6 := n0_
   have BK496 := n1_
   have BK498 := n2_
   have HB := n3_
   clear n0_ n1_ n2_ n3_
   replace HO_6 := am (Kd.R_drew HO_6.out)
   replace BK496 := am (blk_drew BK496.out)
   replace BK498 := am (blk_drew BK498.out)
   replace HB := am (below_drew1 HB.out)
   have p499 : 0 ≤ (((rd_T48 l0_2 x7_1).f0) : Int) := of_decide_eq_true (by assumption)
   have q499 : ((rd_T48 l0_2 x7_1).f0) < (l0_0.length : Int) := of_decide_eq_true (by assumption)
   obtain ⟨ad499,e499,hx499_0,hx499_1,hx499_2⟩ := at_T126 HR0_0.out ((rd_T48 l0_2 x7_1).f0) p499 q499
   have hw499_2 := hx499_2
   have hw499_1 := hx499_1
   have hw499_0 := hx499_0
   cases e499
   replace hx499_0 := (HB.out.cell (wbl hx499_0)).trans hx499_0
   replace hx499_1 := (HB.out.cell (wbl hx499_1)).trans hx499_1
   replace hx499_2 := (HB.out.cell (wbl hx499_2)).trans hx499_2
   replace p499 := eq_true p499
   replace q499 := eq_true q499
   refine start_ (n := 20) (S := fun w' => w'.cell? ⟨gb496,0,none⟩ = some (.slice (some ad499) l0_0.length c0_0) ∧ w'.cell? ⟨gb496,1,none⟩ = some (.int .i64 a0_1) ∧ w'.cell? ⟨gb496,2,none⟩ = some (.slice (some ad497) l0_2.length c0_2) ∧ w'.cell? ⟨gb496,3,none⟩ = some (.int .i64 a0_3) ∧ w'.cell? ⟨gb496,4,none⟩ = some (.int .i64 a0_4) ∧ w'.cell? ⟨gb498,0,none⟩ = some (.int .i64 ((rd_T48 l0_2 x7_1).f0)) ∧ w'.cell? ⟨gb498,1,none⟩ = some (.int .i64 ((rd_T48 l0_2 x7_1).f1)) ∧ w'.cell? (ad499.add ((((rd_T48 l0_2 x7_1).f0)).toNat * 3)) = some (.int .i64 ((rd_T126 l0_0 ((rd_T48 l0_2 x7_1).f0)).f0)) ∧ w'.cell? ⟨(ad499.add ((((rd_T48 l0_2 x7_1).f0)).toNat * 3)).block,(ad499.add ((((rd_T48 l0_2 x7_1).f0)).toNat * 3)).off + 1,none⟩ = some (.int .i64 ((rd_T126 l0_0 ((rd_T48 l0_2 x7_1).f0)).f1)) ∧ w'.cell? ⟨(ad499.add ((((rd_T48 l0_2 x7_1).f0)).toNat * 3)).block,(ad499.add ((((rd_T48 l0_2 x7_1).f0)).toNat * 3)).off + 2,none⟩ = some (.int .i64 ((rd_T126 l0_0 ((rd_T48 l0_2 x7_1).f0)).f2))) (ds := []) (ba 20 0) (by kernel_rfl) rfl rfl ⟨(blk_cell BK496.out 0).trans rfl,(blk_cell BK496.out 1).trans rfl,(blk_cell BK496.out 2).trans rfl,(blk_cell BK496.out 3).trans rfl,(blk_cell BK496.out 4).trans rfl,(blk_cell BK498.out 0).trans rfl,(blk_cell BK498.out 1).trans rfl,((HB.out.cell (wbl hw499_0)).trans hw499_0),((HB.out.cell (wbl hw499_1)).trans hw499_1),((HB.out.cell (wbl hw499_2)).trans hw499_2)⟩ (fun hHeld => ?_);refine with_tabW q4_Out.tab6 q4_Out.bits6 (fun HT_ HW_ => ?_)
   generalize w15.drew = w16 at HO_6 BK496 BK498 HB hx499_0 hx499_1 hx499_2 hHeld ⊢
   refine pure_ (i := 0) (N := some 21) (v := ?_) (a' := ?_) (ba 20 1) rfl rfl (any_of HT_.out (by kernel_rfl)) (fun _ _ _ h => h) (Or.inl ⟨by rfl,?_⟩) ?_ ?_
   rotate_left
   · intro w'
     go_simp
     with_reducible rfl
   rotate_left
   · simp only [Act.put,NRM]
     rfl
   refine pure_ (i := 1) (N := some 22) (v := ?_) (a' := ?_) (ba 20 3) rfl rfl (any_of HT_.out (by kernel_rfl)) (fun _ _ _ h => h) (Or.inl ⟨by rfl,?_⟩) ?_ ?_
   rotate_left
   · intro w'
     go_simp
     with_reducible rfl
   rotate_left
   · simp only [Act.put,NRM]
     rfl
   refine pure_ (i := 2) (N := some 23) (v := ?_) (a' := ?_) (ba 20 7) rfl rfl (any_of HT_.out (by kernel_rfl)) (fun _ _ _ h => h) (Or.inl ⟨by rfl,?_⟩) ?_ ?_
   rotate_left
   · intro w'
     go_simp
     with_reducible rfl
   rotate_left
   · simp only [Act.put,NRM]
     rfl
   refine pure_ (i := 4) (N := some 25) (v := ?_) (a' := ?_) (ba 20 23) rfl rfl (any_of HT_.out (by kernel_rfl)) (fun _ _ _ h => h) (Or.inl ⟨by rfl,?_⟩) ?_ ?_
   rotate_left
   · intro w'
     go_simp
     with_reducible rfl
   rotate_left
   · simp only [Act.put,NRM]
     rfl
   refine pure_ (i := 9) (N := some 30) (v := ?_) (a' := ?_) (ba 20 535) rfl rfl (any_of HT_.out (by kernel_rfl)) (fun _ _ _ h => h) (Or.inl ⟨by rfl,?_⟩) ?_ ?_
   rotate_left
   · intro w'
     go_simp
     with_reducible rfl
   rotate_left
   · simp only [Act.put,NRM]
     rfl
   refine pure_ (i := 10) (N := some 31) (v := ?_) (a' := ?_) (ba 20 1559) rfl rfl (any_of HT_.out (by kernel_rfl)) (fun _ _ _ h => h) (Or.inl ⟨by rfl,?_⟩) ?_ ?_
   rotate_left
   · intro w'
     go_simp
     with_reducible rfl
   rotate_left
   · simp only [Act.put,NRM]
     rfl
   refine take_ (i := 3) (N := some 24) (v := ?_) (a' := ?_) (ba 20 1567) rfl rfl (take_ofW HT_.out HW_.out (by kernel_rfl)) (fun _ _ _ h => h) (Or.inl ⟨by rfl,?_⟩) hHeld ?_ ?_
   rotate_left
   · rintro w' ⟨s0,s1,s2,s3,s4,s5,s6,s7,s8,s9⟩
     go_simp
     with_reducible rfl
   rotate_left
   · simp only [Act.put,NRM]
     rfl
   refine take_ (i := 5) (N := some 26) (v := ?_) (a' := ?_) (ba 20 1599) rfl rfl (take_ofW HT_.out HW_.out (by kernel_rfl)) (fun _ _ _ h => h) (Or.inl ⟨by rfl,?_⟩) hHeld ?_ ?_
   rotate_left
   · rintro w' ⟨s0,s1,s2,s3,s4,s5,s6,s7,s8,s9⟩
     go_simp
     with_reducible rfl
   rotate_left
   · simp only [Act.put,NRM]
     rfl
   refine pure_ (i := 6) (N := some 27) (v := ?_) (a' := ?_) (ba 20 1663) rfl rfl (any_of HT_.out (by kernel_rfl)) (fun _ _ _ h => h) (Or.inl ⟨by rfl,?_⟩) ?_ ?_
   rotate_left
   · intro w'
     go_simp
     with_reducible rfl
   rotate_left
   · simp only [Act.put,NRM]
     rfl
   refine pure_ (i := 7) (N := some 28) (v := ?_) (a' := ?_) (ba 20 1791) rfl rfl (any_of HT_.out (by kernel_rfl)) (fun _ _ _ h => h) (Or.inl ⟨by rfl,?_⟩) ?_ ?_
   rotate_left
   · intro w'
     go_simp
     with_reducible rfl
   rotate_left
   · simp only [Act.put,NRM]
     rfl
   refine take_ (i := 8) (N := some 29) (v := ?_) (a' := ?_) (ba 20 2047) rfl rfl (take_ofW HT_.out HW_.out (by kernel_rfl)) (fun _ _ _ h => h) (Or.inl ⟨by rfl,?_⟩) hHeld ?_ ?_
   rotate_left
   · rintro w' ⟨s0,s1,s2,s3,s4,s5,s6,s7,s8,s9⟩
     go_simp
     with_reducible rfl
   rotate_left
   · simp only [Act.put,NRM]
     rfl
   refine take_ (i := 11) (N := some 32) (v := ?_) (a' := ?_) (ba 20 4095) rfl rfl (take_ofW HT_.out HW_.out (by kernel_rfl)) (fun _ _ _ h => h) (Or.inl ⟨by rfl,?_⟩) hHeld ?_ ?_
   rotate_left
   · rintro w' ⟨s0,s1,s2,s3,s4,s5,s6,s7,s8,s9⟩
     go_simp
     with_reducible rfl
   rotate_left
   · simp only [Act.put,NRM]
     rfl
   refine pure_ (i := 12) (N := some 33) (v := ?_) (a' := ?_) (ba 20 8191) rfl rfl (any_of HT_.out (by kernel_rfl)) (fun _ _ _ h => h) (Or.inl ⟨by rfl,?_⟩) ?_ ?_
   rotate_left
   · intro w'
     go_simp
     with_reducible rfl
   rotate_left
   · simp only [Act.put,NRM]
     rfl
   refine pure_ (i := 13) (N := some 34) (v := ?_) (a' := ?_) (ba 20 16383) rfl rfl (any_of HT_.out (by kernel_rfl)) (fun _ _ _ h => h) (Or.inl ⟨by rfl,?_⟩) ?_ ?_
   rotate_left
   · intro w'
     go_simp
     with_reducible rfl
   rotate_left
   · simp only [Act.put,NRM]
     rfl
   refine pure_ (i := 14) (N := some 35) (v := ?_) (a' := ?_) (ba 20 32767) rfl rfl (any_of HT_.out (by kernel_rfl)) (fun _ _ _ h => h) (Or.inl ⟨by rfl,?_⟩) ?_ ?_
   rotate_left
   · intro w'
     go_simp
     with_reducible rfl
   rotate_left
   · simp only [Act.put,NRM]
     rfl
   refine pure_ (i := 15) (N := some 36) (v := ?_) (a' := ?_) (ba 20 65535) rfl rfl (any_of HT_.out (by kernel_rfl)) (fun _ _ _ h => h) (Or.inl ⟨by rfl,?_⟩) ?_ ?_
   rotate_left
   · intro w'
     go_simp
     with_reducible rfl
   rotate_left
   · simp only [Act.put,NRM]
     rfl
   refine pure_ (i := 16) (N := some 37) (v := ?_) (a' := ?_) (ba 20 131071) rfl rfl (any_of HT_.out (by kernel_rfl)) (fun _ _ _ h => h) (Or.inl ⟨by rfl,?_⟩) ?_ ?_
   rotate_left
   · intro w'
     go_simp
     with_reducible rfl
   rotate_left
   · simp only [Act.put,NRM]
     rfl
   refine one_ (i := 17) (N := some 38) (ba 20 262143) rfl rfl (one_of HT_.out (by kernel_rfl)) (by decide) (fun K hK => ?_)
   refine value_ (w1 := ?_) (v := ?_) (by rfl) rfl ?_ ?_
   rotate_left 2
   · go_simp
     constructor
     · rfl
     · rfl
   refine hK.out _ _ ⟨(blk_cell (blk_alloc BK496.out _) 0).trans rfl,(blk_cell (blk_alloc BK496.out _) 1).trans rfl,(blk_cell (blk_alloc BK496.out _) 2).trans rfl,(blk_cell (blk_alloc BK496.out _) 3).trans rfl,(blk_cell (blk_alloc BK496.out _) 4).trans rfl,(blk_cell (blk_alloc BK498.out _) 0).trans rfl,(blk_cell (blk_alloc BK498.out _) 1).trans rfl,(World.cell?_alloc_lt _ _ _ (World.block_lt_of_cell? _ _ (((HB.out.cell (wbl hw499_0)).trans hw499_0)))).trans (((HB.out.cell (wbl hw499_0)).trans hw499_0)),(World.cell?_alloc_lt _ _ _ (World.block_lt_of_cell? _ _ (((HB.out.cell (wbl hw499_1)).trans hw499_1)))).trans (((HB.out.cell (wbl hw499_1)).trans hw499_1)),(World.cell?_alloc_lt _ _ _ (World.block_lt_of_cell? _ _ (((HB.out.cell (wbl hw499_2)).trans hw499_2)))).trans (((HB.out.cell (wbl hw499_2)).trans hw499_2))⟩ (fun hHeld => ?_)
   clear hK K
   refine norm_ (a' := ?_) ?_ ?_
   rotate_left
   · show Act.put _ (some 38) _ = _
     simp only [Act.put,NRM]
     rfl
   refine one_ (i := 18) (N := some 39) (ba 20 524287) rfl rfl (one_of HT_.out (by kernel_rfl)) (by decide) (fun K hK => ?_)
   refine Kd.R_append_step (Kd.int .i64) (w0 := w) w.heap.size (by rfl) (.tmp 21) (.tmp 38) 28 3 (.int .i64 0) 8 rfl Tryz.underlying28 info3 rfl (by decide) (by omega) u6 x6_1 (wrap64 (Int.tdiv (wrap64 (((rd_T126 l0_0 ((rd_T48 l0_2 x7_1).f0)).f2) * (ji9))) 5)) [.int .i64 (wrap64 (Int.tdiv (wrap64 (((rd_T126 l0_0 ((rd_T48 l0_2 x7_1).f0)).f2) * (ji9))) 5))] (fun _ => True) (fun _ => False) rfl rfl ?aP (fun _ hk => hk.elim) ?aF ?aO ?aB ?aS ?aL ?_
   (case aP => exact rfl)
   (case aB => exact (HB.out))
   (case aF => exact (fun _ _ => trivial))
   (case aO => exact HO_6.out)
   (case aS => exact (below_size (HB.out)))
   (case aL => have := LMc10.out;omega)
   intro v501 w17 ho hb hg hat
   rw [← Ny500.out] at ho
   have n0_ := am (blk_grown (g := gb496) (o := .cells #[.slice (some ad499) l0_0.length c0_0,.int .i64 a0_1,.slice (some ad497) l0_2.length c0_2,.int .i64 a0_3,.int .i64 a0_4] 27 (0,0)) BK496.out hg (Kd.R_ne HO_6.out BK496.out (by decide)))
   have n1_ := am (blk_grown (g := gb498) (o := .cells #[.int .i64 ((rd_T48 l0_2 x7_1).f0),.int .i64 ((rd_T48 l0_2 x7_1).f1)] 48 (0,0)) BK498.out hg (Kd.R_ne HO_6.out BK498.out (by decide)))
   have n2_ := am (hb)
   have n3_ := am (ho)
   clear BK496
   clear BK498
   clear HB
   clear HO_6
   have BK496 := n0_
   have BK498 := n1_
   have HB := n2_
   have HO502 := n3_
   clear n0_ n1_ n2_ n3_
   clear ho hb hg hat
   refine hK.out _ _ ⟨(blk_cell BK496.out 0).trans rfl,(blk_cell BK496.out 1).trans rfl,(blk_cell BK496.out 2).trans rfl,(blk_cell BK496.out 3).trans rfl,(blk_cell BK496.out 4).trans rfl,(blk_cell BK498.out 0).trans rfl,(blk_cell BK498.out 1).trans rfl,((HB.out.cell (wbl hw499_0)).trans hw499_0),((HB.out.cell (wbl hw499_1)).trans hw499_1),((HB.out.cell (wbl hw499_2)).trans hw499_2)⟩ (fun hHeld => ?_)
   clear hK K
   refine norm_ (a' := ?_) ?_ ?_
   rotate_left
   · show Act.put _ (some 39) _ = _
     simp only [Act.put,NRM]
     rfl
   refine pure_ (i := 19) (N := some 6) (v := ?_) (a' := ?_) (ba 20 1048575) rfl rfl (any_of HT_.out (by kernel_rfl)) (fun _ _ _ h => h) (Or.inl ⟨by rfl,?_⟩) ?_ ?_
   rotate_left
   · intro w'
     go_simp
     with_reducible rfl
   rotate_left
   · simp only [Act.put,NRM]
     rfl
   refine done_ (done_of HT_.out (by kernel_rfl)) ?_
   try go_wp2
   go_roundg k1
   case measure => have := HK1.out;omega
   case rel => exact ⟨(y500),(wrap64 (x7_1 + 1)),(by first | rfl | (simp;done) | (simp [*];done)),H',⟨by have := HK1.out;omega⟩,⟨by (with_reducible repeat (first | apply Kd.R_alloc | apply Kd.R_drewN | apply Kd.R_drew));exact HO502.out⟩,⟨BK496.out⟩,⟨HB.out⟩⟩
def q4_Total.l0 : Nat → List Int → Int → Int → Option (Int)
 | 0,_,_,_ => none
 | k + 1,x5,x6,x7 => if x7 < (x5.length : Int) then (if 0 ≤ x7 then (q4_Total.l0 k x5 (wrap64 (x6 + (rd x5 x7))) (wrap64 (x7 + 1))) else (none)) else (some x6)
def q4_Total.f (k : Nat) (l0_0 : List (S126)) (a0_1 : Int) (l0_2 : List (S48)) (a0_3 : Int) (a0_4 : Int) (a1 : Int) : Option (Int) := (q4_Out.f k l0_0 a0_1 l0_2 a0_3 a0_4 a1).bind fun bt504 => (q4_Total.l0 k bt504.1 bt504.2 0)
theorem q4_Total.calls (k : Nat) (A0_0 : Option Addr) (c0_0 : Nat) (l0_0 : List (S126)) (a0_1 : Int) (A0_2 : Option Addr) (c0_2 : Nat) (l0_2 : List (S48)) (a0_3 : Int) (a0_4 : Int) (a1 : Int) (r : Int) (w : World) (hr0_0 : Kd.C k126 w A0_0 l0_0.length l0_0) (hc0_0 : l0_0.length ≤ c0_0) (hr0_2 : Kd.C k48 w A0_2 l0_2.length l0_2) (hc0_2 : l0_2.length ≤ c0_2) (h : q4_Total.f k l0_0 a0_1 l0_2 a0_3 a0_4 a1 = some r) :
 Calls Tryz.prog 114 #[.agg #[.slice A0_0 l0_0.length c0_0,.int .i64 a0_1,.slice A0_2 l0_2.length c0_2,.int .i64 a0_3,.int .i64 a0_4],.int .i64 a1] w fun e w' => e = .returned (.int .i64 r) ∧ Below w.heap.size w w' := by
 have hu27 := Tryz.underlying27
 have HR0_0 := am hr0_0
 have HC0_0 := am hc0_0
 clear hr0_0 hc0_0
 have HR0_2 := am hr0_2
 have HC0_2 := am hc0_2
 clear hr0_2 hc0_2
 have HB := am (Below.refl w.heap.size w)
 have H : ((q4_Out.f k l0_0 a0_1 l0_2 a0_3 a0_4 a1).bind fun bt504 => (q4_Total.l0 k bt504.1 bt504.2 0)) = some r := h
 clear h
 replace H := obm H
 obtain ⟨⟨t504,t507⟩,A30,H⟩ := H
 replace H : (q4_Total.l0 k t504 t507 0) = some r := H
 have A3 := am A30
 clear A30
 replace H' := am H
 go_enter Tryz.func114,Tryz.ntmps114
 go_wp2_with (first | ((refine gate_dst (N := 2) rfl ?_);refine box_event rfl (N := 2) rfl (cs := #[.slice A0_0 l0_0.length c0_0,.int .i64 a0_1,.slice A0_2 l0_2.length c0_2,.int .i64 a0_3,.int .i64 a0_4]) (t := 27) ?hr ?_;(case hr => go_simp;try rfl);intro gb503 hg w4 hbox hb;have BK503 := am (hbox);have GW503 := am (ge_new (HB.out) hg);have GE503 := am (ge_new (HB.out) hg);replace HB := am (below_step (HB.out) hb);clear hb hbox hg;obtain ⟨hcz5_0,hcz5_1,hcz5_2,hcz5_3,hcz5_4⟩ := cO5 BK503.out) | ((with_reducible refine gate_callee (f := 44) rfl ?_);refine goesL_ (some 11) rfl rfl Tryz.func44 (by kernel_rfl) rfl #[.agg #[.slice A0_0 l0_0.length c0_0,.int .i64 a0_1,.slice A0_2 l0_2.length c0_2,.int .i64 a0_3,.int .i64 a0_4],.int .i64 a1] rfl (by (try simp only [List.map_toArray,List.map_cons,List.map_nil]);first | done | rfl | (simp only [List.length_drop,List.length_take];rfl)) ?_;(refine (q4_Out.calls k _ _ l0_0 a0_1 _ _ l0_2 a0_3 a0_4 a1 t504 t507 _ ?side1 ?side2 ?side3 ?side4 A3.out).mono ?_);(case side1 => exact kC HR0_0.out HB.out);(case side2 => exact HC0_0.out);(case side3 => exact kC HR0_2.out HB.out);(case side4 => exact HC0_2.out);rintro e w6 ⟨v505,rfl,ho0,hb⟩;refine ⟨_,rfl,?_⟩;have HO506 := am (Kd.R_lower ho0 (below_size (HB.out)));replace BK503 := (kmv hb BK503);replace HB := am (below_step (HB.out) hb);(try clear hb);(try clear hb2);(try clear hk);(try clear hi);(try clear ho0)))
 go_loopg [6,7] k (fun kq v6 v7 w' => ∃ (x6_1 : Int) (x7_1 : Int),v6 = .int .i64 x6_1 ∧ v7 = .int .i64 x7_1 ∧ Aside0 (q4_Total.l0 kq t504 x6_1 x7_1 = some r) ∧ Aside0 (kq ≤ k) ∧ Aside0 (Kd.R (Kd.int .i64) 3 w' w.heap.size (fun _ => True) v505 t504) ∧ Aside0 (w'.heap[gb503]? = some (.cells #[(.slice A0_0 l0_0.length c0_0),.int .i64 a0_1,(.slice A0_2 l0_2.length c0_2),.int .i64 a0_3,.int .i64 a0_4] 27 (0,0))) ∧ Aside0 (Below w.heap.size w w'))
 case atStart => exact ⟨(t507),(0),(by first | rfl | (simp;done) | (simp [*];done)),(by first | rfl | (simp;done) | (simp [*];done)),H',⟨Nat.le_refl _⟩,⟨by (with_reducible repeat (first | apply Kd.R_alloc | apply Kd.R_drewN | apply Kd.R_drew));exact HO506.out⟩,⟨BK503.out⟩,⟨HB.out⟩⟩
 case round =>
  clear H'
  obtain ⟨x6_1,x7_1,rfl,rfl,HA,HK1,HO_5,BK503,HB⟩ := hrel
  cases gk with
  | zero => exact absurd HA.out (by simp [q4_Total.l0])
  | succ k1 =>
   have H := HA.out
   clear HA
   simp only [q4_Total.l0] at H
   by_cases c7 : x7_1 < (t504.length : Int)
   case neg =>
    rw [if_neg c7] at H
    have c7b0 : decide (x7_1 < (t504.length : Int)) = false := decide_eq_false c7
    clear c7
    obtain rfl := Option.some.inj H
    obtain ⟨Ao10,co10,eo10⟩ := Kd.R_slice HO_5.out
    subst eo10
    go_wp2
    go_ret
    exact ⟨by first | rfl | (simp [*] <;> rfl),HB.out⟩
   rw [if_pos c7] at H
   have c7b0 : decide (x7_1 < (t504.length : Int)) = true := decide_eq_true c7
   clear c7
   by_cases c8 : 0 ≤ x7_1
   case neg =>
    rw [if_neg c8] at H
    exact absurd H (by simp)
   rw [if_pos c8] at H
   have c8b0 : decide (0 ≤ x7_1) = true := decide_eq_true c8
   clear c8
   replace H' := am H
   obtain ⟨Ao9,co9,eo9⟩ := Kd.R_slice HO_5.out
   subst eo9
   have p508 : 0 ≤ (x7_1 : Int) := of_decide_eq_true (by assumption)
   have q508 : x7_1 < (t504.length : Int) := of_decide_eq_true (by assumption)
   obtain ⟨ad508,e508,hx508_0⟩ := Kd.at_int (Kd.R_reads' HO_5.out).2.2 x7_1 p508 q508
   cases e508
   replace p508 := eq_true p508
   replace q508 := eq_true q508
   go_wp2
   go_roundg k1
   case measure => have := HK1.out;omega
   case rel => exact ⟨(wrap64 (x6_1 + (rd t504 x7_1))),(wrap64 (x7_1 + 1)),(by first | rfl | (simp;done) | (simp [*];done)),(by first | rfl | (simp;done) | (simp [*];done)),H',⟨by have := HK1.out;omega⟩,⟨by (with_reducible repeat (first | apply Kd.R_alloc | apply Kd.R_drewN | apply Kd.R_drew));exact HO_5.out⟩,⟨BK503.out⟩,⟨HB.out⟩⟩
def q4_Stands.l0 : Nat → Int → Int → List (S126) → Int → List (S48) → Int → Int → Option (Int)
 | 0,_,_,_,_,_,_,_ => none
 | k + 1,x1,x5,x510000,x510001,x510002,x510003,x510004 => (q4_Total.f k x510000 x510001 x510002 x510003 x510004 x5).bind fun t510 => (if t510 > x1 then (q4_Stands.l0 k x1 (wrap64 (x5 - 1)) x510000 x510001 x510002 x510003 x510004) else (some x5))
def q4_Stands.f (k : Nat) (l0_0 : List (S126)) (a0_1 : Int) (l0_2 : List (S48)) (a0_3 : Int) (a0_4 : Int) (a1 : Int) : Option (Int) := q4_Stands.l0 k a1 40 l0_0 a0_1 l0_2 a0_3 a0_4
theorem q4_Stands.calls (k : Nat) (A0_0 : Option Addr) (c0_0 : Nat) (l0_0 : List (S126)) (a0_1 : Int) (A0_2 : Option Addr) (c0_2 : Nat) (l0_2 : List (S48)) (a0_3 : Int) (a0_4 : Int) (a1 : Int) (r : Int) (w : World) (hr0_0 : Kd.C k126 w A0_0 l0_0.length l0_0) (hc0_0 : l0_0.length ≤ c0_0) (hr0_2 : Kd.C k48 w A0_2 l0_2.length l0_2) (hc0_2 : l0_2.length ≤ c0_2) (h : q4_Stands.f k l0_0 a0_1 l0_2 a0_3 a0_4 a1 = some r) :
 Calls Tryz.prog 113 #[.agg #[.slice A0_0 l0_0.length c0_0,.int .i64 a0_1,.slice A0_2 l0_2.length c0_2,.int .i64 a0_3,.int .i64 a0_4],.int .i64 a1] w fun e w' => e = .returned (.int .i64 r) ∧ Below w.heap.size w w' := by
 have hu27 := Tryz.underlying27
 have HR0_0 := am hr0_0
 have HC0_0 := am hc0_0
 clear hr0_0 hc0_0
 have HR0_2 := am hr0_2
 have HC0_2 := am hc0_2
 clear hr0_2 hc0_2
 have HB := am (Below.refl w.heap.size w)
 have H : (q4_Stands.l0 k a1 40 l0_0 a0_1 l0_2 a0_3 a0_4) = some r := h
 clear h
 replace H' := am H
 go_enter Tryz.func113,Tryz.ntmps113
 go_wp2_with (first | ((refine gate_dst (N := 2) rfl ?_);refine box_event rfl (N := 2) rfl (cs := #[.slice A0_0 l0_0.length c0_0,.int .i64 a0_1,.slice A0_2 l0_2.length c0_2,.int .i64 a0_3,.int .i64 a0_4]) (t := 27) ?hr ?_;(case hr => go_simp;try rfl);intro gb509 hg w3 hbox hb;have BK509 := am (hbox);have GW509 := am (ge_new (HB.out) hg);have GE509 := am (ge_new (HB.out) hg);replace HB := am (below_step (HB.out) hb);clear hb hbox hg))
 go_loopg [5] k (fun kq v5 w' => ∃ (x5_1 : Int),v5 = .int .i64 x5_1 ∧ Aside0 (q4_Stands.l0 kq a1 x5_1 l0_0 a0_1 l0_2 a0_3 a0_4 = some r) ∧ Aside0 (kq ≤ k) ∧ Aside0 (w'.heap[gb509]? = some (.cells #[(.slice A0_0 l0_0.length c0_0),.int .i64 a0_1,(.slice A0_2 l0_2.length c0_2),.int .i64 a0_3,.int .i64 a0_4] 27 (0,0))) ∧ Aside0 (Below w.heap.size w w'))
 case atStart => exact ⟨(40),(by first | rfl | (simp;done) | (simp [*];done)),H',⟨Nat.le_refl _⟩,⟨BK509.out⟩,⟨HB.out⟩⟩
 case round =>
  clear H'
  obtain ⟨x5_1,rfl,HA,HK1,BK509,HB⟩ := hrel
  cases gk with
  | zero => exact absurd HA.out (by simp [q4_Stands.l0])
  | succ k1 =>
   have H := HA.out
   clear HA
   simp only [q4_Stands.l0] at H
   replace H := obm H
   obtain ⟨t510,A40,H⟩ := H
   replace H : (if t510 > a1 then (q4_Stands.l0 k1 a1 (wrap64 (x5_1 - 1)) l0_0 a0_1 l0_2 a0_3 a0_4) else (some x5_1)) = some r := H
   have A4 := am A40
   clear A40
   by_cases c5 : t510 > a1
   · rw [if_pos c5] at H
     have c5b0 : decide (a1 < t510) = true := decide_eq_true c5
     clear c5
     replace H' := am H
     obtain ⟨hcz6_0,hcz6_1,hcz6_2,hcz6_3,hcz6_4⟩ := cO5 BK509.out
     go_wp2_with (first | ((with_reducible refine gate_callee (f := 114) rfl ?_);refine goesL_ (some 8) rfl rfl Tryz.func114 (by kernel_rfl) rfl #[.agg #[.slice A0_0 l0_0.length c0_0,.int .i64 a0_1,.slice A0_2 l0_2.length c0_2,.int .i64 a0_3,.int .i64 a0_4],.int .i64 x5_1] rfl (by (try simp only [List.map_toArray,List.map_cons,List.map_nil]);first | done | rfl | (simp only [List.length_drop,List.length_take];rfl)) ?_;(refine (q4_Total.calls k1 _ _ l0_0 a0_1 _ _ l0_2 a0_3 a0_4 x5_1 t510 _ ?side1 ?side2 ?side3 ?side4 A4.out).mono ?_);(case side1 => exact kC HR0_0.out HB.out);(case side2 => exact HC0_0.out);(case side3 => exact kC HR0_2.out HB.out);(case side4 => exact HC0_2.out);rintro e w7 ⟨rfl,hb⟩;refine ⟨_,rfl,?_⟩;replace BK509 := (kmv hb BK509);replace HB := am (below_step (HB.out) hb);(try clear hb);(try clear hb2);(try clear hk);(try clear hi)))
     go_roundg k1
     case measure => have := HK1.out;omega
     case rel => exact ⟨(wrap64 (x5_1 - 1)),(by first | rfl | (simp;done) | (simp [*];done)),H',⟨by have := HK1.out;omega⟩,⟨BK509.out⟩,⟨HB.out⟩⟩
   · rw [if_neg c5] at H
     have c5b0 : decide (a1 < t510) = false := decide_eq_false c5
     clear c5
     obtain rfl := Option.some.inj H
     obtain ⟨hcz8_0,hcz8_1,hcz8_2,hcz8_3,hcz8_4⟩ := cO5 BK509.out
     go_wp2_with (first | ((with_reducible refine gate_callee (f := 114) rfl ?_);refine goesL_ (some 8) rfl rfl Tryz.func114 (by kernel_rfl) rfl #[.agg #[.slice A0_0 l0_0.length c0_0,.int .i64 a0_1,.slice A0_2 l0_2.length c0_2,.int .i64 a0_3,.int .i64 a0_4],.int .i64 x5_1] rfl (by (try simp only [List.map_toArray,List.map_cons,List.map_nil]);first | done | rfl | (simp only [List.length_drop,List.length_take];rfl)) ?_;(refine (q4_Total.calls k1 _ _ l0_0 a0_1 _ _ l0_2 a0_3 a0_4 x5_1 t510 _ ?side1 ?side2 ?side3 ?side4 A4.out).mono ?_);(case side1 => exact kC HR0_0.out HB.out);(case side2 => exact HC0_0.out);(case side3 => exact kC HR0_2.out HB.out);(case side4 => exact HC0_2.out);rintro e w9 ⟨rfl,hb⟩;refine ⟨_,rfl,?_⟩;replace BK509 := (kmv hb BK509);replace HB := am (below_step (HB.out) hb);(try clear hb);(try clear hb2);(try clear hk);(try clear hi)))
     go_ret
     exact ⟨by first | rfl | (simp [*] <;> rfl),HB.out⟩
end
end Go.Proofs.YtnnmnhpeblhiiaaGreatDoor.C

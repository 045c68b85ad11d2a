/- A part of the proof: the walks of the functions that it reaches. TIGHT. -/
import Derived.Test.YticlelgmmonloaaGreatDoorM17
set_option linter.unusedVariables false
set_option linter.unusedSimpArgs false
namespace Go.Proofs.YticlelgmmonloaaGreatDoor.C
open Go.RowKit Go.Proofs.YticlelgmmonloaaGreatDoorW.PrintWords Go.Proofs.YticlelgmmonloaaGreatDoorW.PrintLast Go.Proofs.YticlelgmmonloaaGreatDoorW.PrintMore
set_option linter.unusedVariables false
set_option linter.unusedSimpArgs false
set_option maxHeartbeats 16000000
set_option maxRecDepth 100000
section
attribute [local go_sem] max2_int min2_int max_two min_two
def q4_Bounds.l0 : Nat → List Int → Int → List Int → Int → List (S40) → Int → Option ((List (S40)) × Int × Int)
 | 0,_,_,_,_,_,_ => none
 | k + 1,x6,x7,x8,x9,x10,x11 => if x11 < (x6.length : Int) then (if 0 ≤ x11 then (if x11 < (x8.length : Int) then (if x10.length < 8796093022208 then (q4_Bounds.l0 k x6 x7 x8 x9 (x10 ++ [(⟨rd x6 x11,rd x8 x11⟩ : S40)]) (wrap64 (x11 + 1))) else (none)) else (none)) else (none)) else (some (x10,x7,x9))
def q4_Bounds.f (k : Nat) (l0_0 : List (S126)) (a0_1 : Int) (l0_2 : List (S64)) (a0_3 : Int) (a0_4 : Int) (a1_0 : Int) (a1_1 : Int) : Option ((List (S40)) × Int × Int) := (q4_Shares.f k l0_0 a0_1 l0_2 a0_3 a0_4 a1_0).bind fun bt580 => ((q4_Shares.f k l0_0 a0_1 l0_2 a0_3 a0_4 a1_1).bind fun bt584 => (q4_Bounds.l0 k bt580.1 bt580.2 bt584.1 bt584.2 ([] : List (S40)) 0))
def q4_Bounds.T7 : Bool × List (List Nat × List Nat) := (true,[([],[]),([],[]),([],[]),([1,2],[1,2]),([3],[3]),([],[]),([],[]),([5,6],[5,6]),([7],[7]),([4,8],[4,8]),([9],[9]),([0,10],[0,10]),([11,11,0,1,2,3,4,5,6,7,8,9,10,11],[0,11])])
def q4_Bounds.B7 : List Nat := [0,0,0,6,14,0,0,96,224,510,1022,2047,4095]
theorem q4_Bounds.tab7 : rtab .any (opsOf Tryz.f27 7) = q4_Bounds.T7 := by kernel_rfl
theorem q4_Bounds.bits7 : waitsOk q4_Bounds.T7.2 q4_Bounds.B7 = true := by kernel_rfl
theorem q4_Bounds.calls (k : Nat) (A0_0 : Option Addr) (c0_0 : Nat) (l0_0 : List (S126)) (a0_1 : Int) (A0_2 : Option Addr) (c0_2 : Nat) (l0_2 : List (S64)) (a0_3 : Int) (a0_4 : Int) (a1_0 : Int) (a1_1 : Int) (r1 : List (S40)) (r2 : Int) (r3 : Int) (w : World) (hr0_0 : Kd.C k126 w A0_0 l0_0.length l0_0) (hc0_0 : l0_0.length ≤ c0_0) (hr0_2 : Kd.C k64 w A0_2 l0_2.length l0_2) (hc0_2 : l0_2.length ≤ c0_2) (h : q4_Bounds.f k l0_0 a0_1 l0_2 a0_3 a0_4 a1_0 a1_1 = some (r1,r2,r3)) :
 Calls Tryz.prog 27 #[.agg #[.slice A0_0 l0_0.length c0_0,.int .i64 a0_1,.slice A0_2 l0_2.length c0_2,.int .i64 a0_3,.int .i64 a0_4],.agg #[.int .i64 a1_0,.int .i64 a1_1]] w fun e w' => ∃ v0_ : Value,e = .returned (.tuple #[v0_,.agg #[.int .i64 r2,.int .i64 r3]]) ∧ Kd.R k40 40 w' w.heap.size (fun _ => True) v0_ r1 ∧ Below w.heap.size w w' := by
 have hu27 := Tryz.underlying27
 have hu40 := Tryz.underlying40
 have HR0_0 := am hr0_0
 have HC0_0 := am hc0_0
 clear hr0_0 hc0_0
 have HR0_2 := am hr0_2
 have HC0_2 := am hc0_2
 clear hr0_2 hc0_2
 have HB := am (Below.refl w.heap.size w)
 have H : ((q4_Shares.f k l0_0 a0_1 l0_2 a0_3 a0_4 a1_0).bind fun bt580 => ((q4_Shares.f k l0_0 a0_1 l0_2 a0_3 a0_4 a1_1).bind fun bt584 => (q4_Bounds.l0 k bt580.1 bt580.2 bt584.1 bt584.2 ([] : List (S40)) 0))) = some (r1,r2,r3) := h
 clear h
 replace H := obm H
 obtain ⟨⟨t580,t583⟩,A30,H⟩ := H
 replace H : ((q4_Shares.f k l0_0 a0_1 l0_2 a0_3 a0_4 a1_1).bind fun bt584 => (q4_Bounds.l0 k t580 t583 bt584.1 bt584.2 ([] : List (S40)) 0)) = some (r1,r2,r3) := H
 have A3 := am A30
 clear A30
 replace H := obm H
 obtain ⟨⟨t584,t587⟩,A40,H⟩ := H
 replace H : (q4_Bounds.l0 k t580 t583 t584 t587 ([] : List (S40)) 0) = some (r1,r2,r3) := H
 have A4 := am A40
 clear A40
 replace H' := am H
 go_enter Tryz.func27,Tryz.ntmps27
 go_wp2_with (first | ((with_reducible refine gate_dst (N := 2) rfl ?_);refine box_event ?hg (N := 2) ?hd (cs := #[.slice A0_0 l0_0.length c0_0,.int .i64 a0_1,.slice A0_2 l0_2.length c0_2,.int .i64 a0_3,.int .i64 a0_4]) (t := 27) ?hr ?_;(case hd => rfl);(case hg => rfl);(case hr => go_simp;try rfl);intro gb577 hg w5 hbox hb;have BK577 := am (hbox);have GW577 := am (ge_new (by repeat (first | (with_reducible first | exact HB.out | apply below_alloc | apply pw_below_drewN) | exact HB.out)) hg);have GE577 := am (ge_new (by repeat (first | (with_reducible first | exact HB.out | apply below_alloc | apply pw_below_drewN) | exact HB.out)) hg);replace HB := am (below_step (by repeat (first | (with_reducible first | exact HB.out | apply below_alloc | apply pw_below_drewN) | exact HB.out)) hb);clear hb hbox hg) | ((with_reducible refine gate_dst (N := 3) rfl ?_);refine box_event ?hg (N := 3) ?hd (cs := #[.int .i64 a1_0,.int .i64 a1_1]) (t := 40) ?hr ?_;(case hd => rfl);(case hg => rfl);(case hr => go_simp;try rfl);intro gb578 hg w6 hbox hb;have BK578 := am (hbox);have GW578 := am (ge_new (by repeat (first | (with_reducible first | exact HB.out | refine below_set ?_ GE577.out | apply below_alloc | apply pw_below_drewN) | exact HB.out)) hg);have GE578 := am (ge_new (by repeat (first | (with_reducible first | exact HB.out | refine below_set ?_ GE577.out | apply below_alloc | apply pw_below_drewN) | exact HB.out)) hg);have NB577_578 := am ((by rw [hg];exact Nat.ne_of_lt (blk_lt (g := gb577) (o := .cells #[.slice A0_0 l0_0.length c0_0,.int .i64 a0_1,.slice A0_2 l0_2.length c0_2,.int .i64 a0_3,.int .i64 a0_4] 27 (0,0)) (by (with_reducible repeat (first | refine blk_drewN ?_ _ | refine blk_drew ?_ | refine blk_alloc ?_ _));exact BK577.out)) : gb577 ≠ gb578));have NB578_577 := am ((by rw [hg];exact Nat.ne_of_gt (blk_lt (g := gb577) (o := .cells #[.slice A0_0 l0_0.length c0_0,.int .i64 a0_1,.slice A0_2 l0_2.length c0_2,.int .i64 a0_3,.int .i64 a0_4] 27 (0,0)) (by (with_reducible repeat (first | refine blk_drewN ?_ _ | refine blk_drew ?_ | refine blk_alloc ?_ _));exact BK577.out)) : gb578 ≠ gb577));replace BK577 := am (blk_below (g := gb577) (o := .cells #[.slice A0_0 l0_0.length c0_0,.int .i64 a0_1,.slice A0_2 l0_2.length c0_2,.int .i64 a0_3,.int .i64 a0_4] 27 (0,0)) (by (with_reducible repeat (first | refine blk_drewN ?_ _ | refine blk_drew ?_ | refine blk_alloc ?_ _));exact BK577.out) hb);replace HB := am (below_step (by repeat (first | (with_reducible first | exact HB.out | refine below_set ?_ GE577.out | apply below_alloc | apply pw_below_drewN) | exact HB.out)) hb);clear hb hbox hg) | ((with_reducible refine gate_dst (N := 5) rfl ?_);refine box_event ?hg (N := 5) ?hd (cs := #[.int .i64 0,.int .i64 0]) (t := 40) ?hr ?_;(case hd => rfl);(case hg => rfl);(case hr => go_simp;try rfl);intro gb579 hg w7 hbox hb;have BK579 := am (hbox);have GW579 := am (ge_new (by repeat (first | (with_reducible first | exact HB.out | refine below_set ?_ (Aside0.out (by assumption)) | apply below_alloc | apply pw_below_drewN) | exact HB.out)) hg);have GE579 := am (ge_new (by repeat (first | (with_reducible first | exact HB.out | refine below_set ?_ (Aside0.out (by assumption)) | apply below_alloc | apply pw_below_drewN) | exact HB.out)) hg);have NB577_579 := am ((by rw [hg];exact Nat.ne_of_lt (blk_lt (g := gb577) (o := .cells #[.slice A0_0 l0_0.length c0_0,.int .i64 a0_1,.slice A0_2 l0_2.length c0_2,.int .i64 a0_3,.int .i64 a0_4] 27 (0,0)) (by (with_reducible repeat (first | refine blk_drewN ?_ _ | refine blk_drew ?_ | refine blk_alloc ?_ _));exact BK577.out)) : gb577 ≠ gb579));have NB579_577 := am ((by rw [hg];exact Nat.ne_of_gt (blk_lt (g := gb577) (o := .cells #[.slice A0_0 l0_0.length c0_0,.int .i64 a0_1,.slice A0_2 l0_2.length c0_2,.int .i64 a0_3,.int .i64 a0_4] 27 (0,0)) (by (with_reducible repeat (first | refine blk_drewN ?_ _ | refine blk_drew ?_ | refine blk_alloc ?_ _));exact BK577.out)) : gb579 ≠ gb577));have NB578_579 := am ((by rw [hg];exact Nat.ne_of_lt (blk_lt (g := gb578) (o := .cells #[.int .i64 a1_0,.int .i64 a1_1] 40 (0,0)) (by (with_reducible repeat (first | refine blk_drewN ?_ _ | refine blk_drew ?_ | refine blk_alloc ?_ _));exact BK578.out)) : gb578 ≠ gb579));have NB579_578 := am ((by rw [hg];exact Nat.ne_of_gt (blk_lt (g := gb578) (o := .cells #[.int .i64 a1_0,.int .i64 a1_1] 40 (0,0)) (by (with_reducible repeat (first | refine blk_drewN ?_ _ | refine blk_drew ?_ | refine blk_alloc ?_ _));exact BK578.out)) : gb579 ≠ gb578));replace BK577 := am (blk_below (g := gb577) (o := .cells #[.slice A0_0 l0_0.length c0_0,.int .i64 a0_1,.slice A0_2 l0_2.length c0_2,.int .i64 a0_3,.int .i64 a0_4] 27 (0,0)) (by (with_reducible repeat (first | refine blk_drewN ?_ _ | refine blk_drew ?_ | refine blk_alloc ?_ _));exact BK577.out) hb);replace BK578 := am (blk_below (g := gb578) (o := .cells #[.int .i64 a1_0,.int .i64 a1_1] 40 (0,0)) (by (with_reducible repeat (first | refine blk_drewN ?_ _ | refine blk_drew ?_ | refine blk_alloc ?_ _));exact BK578.out) hb);replace HB := am (below_step (by repeat (first | (with_reducible first | exact HB.out | refine below_set ?_ (Aside0.out (by assumption)) | apply below_alloc | apply pw_below_drewN) | exact HB.out)) hb);clear hb hbox hg;have hnb8 := NB577_578.out;have hnc8 := NB578_577.out;have hnb9 := NB577_579.out;have hnc9 := NB579_577.out;obtain ⟨hcz10_0,hcz10_1,hcz10_2,hcz10_3,hcz10_4⟩ := cO5 BK577.out;have hfz10_0 := blk_frozen BK577.out 0;have hfz10_1 := blk_frozen BK577.out 1;have hfz10_2 := blk_frozen BK577.out 2;have hfz10_3 := blk_frozen BK577.out 3;have hfz10_4 := blk_frozen BK577.out 4;have hnb11 := NB578_579.out;have hnc11 := NB579_578.out;obtain ⟨hcz12_0,hcz12_1⟩ := cO2 BK578.out;have hfz12_0 := blk_frozen BK578.out 0;have hfz12_1 := blk_frozen BK578.out 1) | ((with_reducible refine gate_callee (f := 19) rfl ?_);refine goesL_ (some 16) rfl rfl Tryz.func19 (by kernel_rfl) rfl #[.agg #[.slice A0_0 l0_0.length c0_0,.int .i64 a0_1,.slice A0_2 l0_2.length c0_2,.int .i64 a0_3,.int .i64 a0_4],.int .i64 a1_0] rfl (by (try simp only [List.map_toArray,List.map_cons,List.map_nil]);first | done | rfl | (simp only [List.length_drop,List.length_take];rfl)) ?_;(with_reducible refine (q4_Shares.calls k _ _ l0_0 a0_1 _ _ l0_2 a0_3 a0_4 a1_0 t580 t583 _ ?side1 ?side2 ?side3 ?side4 A3.out).mono ?_);(case side1 => repeat (first | exact (kC HR0_0.out HB.out) | (with_reducible refine Kd.C_alloc ?_ _) | (with_reducible refine Kd.C_drewN ?_ _) | (with_reducible refine Kd.C_drew ?_)));(case side2 => exact HC0_0.out);(case side3 => repeat (first | exact (kC HR0_2.out HB.out) | (with_reducible refine Kd.C_alloc ?_ _) | (with_reducible refine Kd.C_drewN ?_ _) | (with_reducible refine Kd.C_drew ?_)));(case side4 => exact HC0_2.out);rintro e w13 ⟨v581,rfl,ho0,hb⟩;refine ⟨_,rfl,?_⟩;have HO582 := am (Kd.R_lower ho0 (below_size (by repeat (first | (with_reducible first | exact HB.out | refine below_set ?_ (Aside0.out (by assumption)) | apply below_alloc | apply pw_below_drewN) | exact HB.out))));replace BK577 := am (blk_below (g := gb577) (o := .cells #[.slice A0_0 l0_0.length c0_0,.int .i64 a0_1,.slice A0_2 l0_2.length c0_2,.int .i64 a0_3,.int .i64 a0_4] 27 (0,0)) (by (with_reducible repeat (first | refine blk_drewN ?_ _ | refine blk_drew ?_ | refine blk_alloc ?_ _));exact BK577.out) hb);replace BK578 := am (blk_below (g := gb578) (o := .cells #[.int .i64 a1_0,.int .i64 a1_1] 40 (0,0)) (by (with_reducible repeat (first | refine blk_drewN ?_ _ | refine blk_drew ?_ | refine blk_alloc ?_ _));exact BK578.out) hb);replace BK579 := am (blk_below (g := gb579) (o := .cells #[.int .i64 0,.int .i64 0] 40 (0,0)) (by (with_reducible repeat (first | refine blk_drewN ?_ _ | refine blk_drew ?_ | refine blk_alloc ?_ _));exact BK579.out) hb);replace HB := am (below_step (by repeat (first | (with_reducible first | exact HB.out | refine below_set ?_ (Aside0.out (by assumption)) | apply below_alloc | apply pw_below_drewN) | exact HB.out)) hb);(try clear hb);(try clear hb2);(try clear hk);(try clear hi);(try clear ho0);obtain ⟨hcz14_0,hcz14_1,hcz14_2,hcz14_3,hcz14_4⟩ := cO5 BK577.out;have hfz14_0 := blk_frozen BK577.out 0;have hfz14_1 := blk_frozen BK577.out 1;have hfz14_2 := blk_frozen BK577.out 2;have hfz14_3 := blk_frozen BK577.out 3;have hfz14_4 := blk_frozen BK577.out 4;obtain ⟨hcz15_0,hcz15_1⟩ := cO2 BK578.out;have hfz15_0 := blk_frozen BK578.out 0;have hfz15_1 := blk_frozen BK578.out 1) | ((with_reducible refine gate_callee (f := 19) rfl ?_);refine goesL_ (some 23) rfl rfl Tryz.func19 (by kernel_rfl) rfl #[.agg #[.slice A0_0 l0_0.length c0_0,.int .i64 a0_1,.slice A0_2 l0_2.length c0_2,.int .i64 a0_3,.int .i64 a0_4],.int .i64 a1_1] rfl (by (try simp only [List.map_toArray,List.map_cons,List.map_nil]);first | done | rfl | (simp only [List.length_drop,List.length_take];rfl)) ?_;(with_reducible refine (q4_Shares.calls k _ _ l0_0 a0_1 _ _ l0_2 a0_3 a0_4 a1_1 t584 t587 _ ?side1 ?side2 ?side3 ?side4 A4.out).mono ?_);(case side1 => repeat (first | exact (kC HR0_0.out HB.out) | (with_reducible refine Kd.C_alloc ?_ _) | (with_reducible refine Kd.C_drewN ?_ _) | (with_reducible refine Kd.C_drew ?_)));(case side2 => exact HC0_0.out);(case side3 => repeat (first | exact (kC HR0_2.out HB.out) | (with_reducible refine Kd.C_alloc ?_ _) | (with_reducible refine Kd.C_drewN ?_ _) | (with_reducible refine Kd.C_drew ?_)));(case side4 => exact HC0_2.out);rintro e w16 ⟨v585,rfl,ho0,hb⟩;refine ⟨_,rfl,?_⟩;have HO586 := am (Kd.R_lower (Kd.R_new' ho0 (Kd.R_lt (by (with_reducible repeat (first | apply Kd.R_alloc | apply Kd.R_drewN | apply Kd.R_drew));exact HO582.out))) (below_size (by repeat (first | (with_reducible first | exact HB.out | refine below_set ?_ (Aside0.out (by assumption)) | apply below_alloc | apply pw_below_drewN) | exact HB.out))));replace HO582 := am (Kd.R_elder' (by (with_reducible repeat (first | apply Kd.R_alloc | apply Kd.R_drewN | apply Kd.R_drew));exact HO582.out) (Kd.R_base ho0) hb);replace BK577 := am (blk_below (g := gb577) (o := .cells #[.slice A0_0 l0_0.length c0_0,.int .i64 a0_1,.slice A0_2 l0_2.length c0_2,.int .i64 a0_3,.int .i64 a0_4] 27 (0,0)) (by (with_reducible repeat (first | refine blk_drewN ?_ _ | refine blk_drew ?_ | refine blk_alloc ?_ _));exact BK577.out) hb);replace BK578 := am (blk_below (g := gb578) (o := .cells #[.int .i64 a1_0,.int .i64 a1_1] 40 (0,0)) (by (with_reducible repeat (first | refine blk_drewN ?_ _ | refine blk_drew ?_ | refine blk_alloc ?_ _));exact BK578.out) hb);replace BK579 := am (blk_below (g := gb579) (o := .cells #[.int .i64 0,.int .i64 0] 40 (0,0)) (by (with_reducible repeat (first | refine blk_drewN ?_ _ | refine blk_drew ?_ | refine blk_alloc ?_ _));exact BK579.out) hb);replace HB := am (below_step (by repeat (first | (with_reducible first | exact HB.out | refine below_set ?_ (Aside0.out (by assumption)) | apply below_alloc | apply pw_below_drewN) | exact HB.out)) hb);(try clear hb);(try clear hb2);(try clear hk);(try clear hi);(try clear ho0)))
 go_loopg [10,11] k (fun kq v10 v11 w' => ∃ (x10_1 : List (S40)) (x11_1 : Int),v11 = .int .i64 x11_1 ∧ Aside0 (q4_Bounds.l0 kq t580 t583 t584 t587 x10_1 x11_1 = some (r1,r2,r3)) ∧ Aside0 (kq ≤ k) ∧ Aside0 (Kd.R (Kd.int .i64) 3 w' w.heap.size (fun k_ => some k_ ≠ (v585 : Value).ownBlock) v581 t580) ∧ Aside0 (Kd.R (Kd.int .i64) 3 w' w.heap.size (fun k_ => some k_ ≠ (v581 : Value).ownBlock) v585 t584) ∧ Aside0 (Kd.R k40 40 w' w.heap.size (fun k_ => k_ ≠ gb578 ∧ k_ ≠ gb579) v10 x10_1) ∧ Aside0 (w'.heap[gb577]? = some (.cells #[(.slice A0_0 l0_0.length c0_0),.int .i64 a0_1,(.slice A0_2 l0_2.length c0_2),.int .i64 a0_3,.int .i64 a0_4] 27 (0,0))) ∧ Aside0 (w'.heap[gb578]? = some (.cells #[.int .i64 a1_0,.int .i64 a1_1] 40 (0,0))) ∧ Aside0 (w'.heap[gb579]? = some (.cells #[.int .i64 0,.int .i64 0] 40 (0,0))) ∧ Aside0 (Below w.heap.size w w'))
 case atStart => exact ⟨(([] : List (S40))),(0),(by first | rfl | (simp;done) | (simp [*];done)),H',⟨Nat.le_refl _⟩,⟨by (with_reducible repeat (first | apply Kd.R_alloc | apply Kd.R_drewN | apply Kd.R_drew));exact Kd.R_mono HO582.out (fun _ hk => hk.2)⟩,⟨by (with_reducible repeat (first | apply Kd.R_alloc | apply Kd.R_drewN | apply Kd.R_drew));exact Kd.R_mono HO586.out (fun _ hk => hk.2)⟩,⟨by first | exact Kd.R_nil _ _ _ _ _ | exact Kd.N_nil _ _ _ _ _ | exact Kd.V_nil _ _ _ _ _ | exact Kd.Q_nil _ _ _ _ _ | exact Kd.S_nil _ _ _ _ _⟩,⟨by (with_reducible repeat (first | refine blk_drewN ?_ _ | refine blk_drew ?_ | refine blk_alloc ?_ _));exact BK577.out⟩,⟨by (with_reducible repeat (first | refine blk_drewN ?_ _ | refine blk_drew ?_ | refine blk_alloc ?_ _));exact BK578.out⟩,⟨by (with_reducible repeat (first | refine blk_drewN ?_ _ | refine blk_drew ?_ | refine blk_alloc ?_ _));exact BK579.out⟩,⟨by repeat (first | (with_reducible first | exact HB.out | refine below_set ?_ (Aside0.out (by assumption)) | apply below_alloc | apply pw_below_drewN) | exact HB.out)⟩⟩
 case round =>
  clear H'
  try clear c1
  try clear c2
  try clear p2
  try clear c8
  try clear c9
  try clear c11
  try clear hcz10_0
  try clear hcz10_1
  try clear hcz10_2
  try clear hcz10_3
  try clear hcz10_4
  try clear hcz12_0
  try clear hcz12_1
  try clear hcz14_0
  try clear hcz14_1
  try clear hcz14_2
  try clear hcz14_3
  try clear hcz14_4
  try clear hcz15_0
  try clear hcz15_1
  try clear hfz10_0
  try clear hfz10_1
  try clear hfz10_2
  try clear hfz10_3
  try clear hfz10_4
  try clear hfz12_0
  try clear hfz12_1
  try clear hfz14_0
  try clear hfz14_1
  try clear hfz14_2
  try clear hfz14_3
  try clear hfz14_4
  try clear hfz15_0
  try clear hfz15_1
  obtain ⟨x10_1,x11_1,rfl,HA,HK1,HO_6,HO_8,HO_10,BK577,BK578,BK579,HB⟩ := hrel
  cases gk with
  | zero => exact absurd HA.out (by simp [q4_Bounds.l0])
  | succ k1 =>
   have H := HA.out
   clear HA
   simp only [q4_Bounds.l0] at H
   by_cases c17 : x11_1 < (t580.length : Int)
   case neg =>
    rw [if_neg c17] at H
    have c17b0 : decide (x11_1 < (t580.length : Int)) = false := decide_eq_false c17
    clear c17
    simp only [Option.some.injEq,Prod.mk.injEq] at H
    obtain ⟨rfl,rfl,rfl⟩ := H
    obtain ⟨Ao25,co25,eo25⟩ := Kd.R_slice HO_6.out
    subst eo25
    have hnb26 := NB579_577.out
    have hnc26 := NB577_579.out
    have hnb27 := NB579_578.out
    have hnc27 := NB578_579.out
    obtain ⟨hcz28_0,hcz28_1⟩ := cO2 BK579.out
    have hfz28_0 := blk_frozen BK579.out 0
    have hfz28_1 := blk_frozen BK579.out 1
    go_wp2
    refine bodyPost_ret (results_tc rfl _ _ gb579 40 #[.int .i64 t583,.int .i64 t587] (0,0) _ rfl (by (with_reducible repeat (first | refine blk_drewN ?_ _ | refine blk_drew ?_ | refine blk_alloc ?_ _));refine blk_put (cs := #[.int .i64 t583,.int .i64 0]) ?_ 1 _ rfl;(with_reducible repeat (first | refine blk_drewN ?_ _ | refine blk_drew ?_ | refine blk_alloc ?_ _));refine blk_put (cs := #[.int .i64 0,.int .i64 0]) ?_ 0 _ rfl;(with_reducible repeat (first | refine blk_drewN ?_ _ | refine blk_drew ?_ | refine blk_alloc ?_ _));exact BK579.out) Tryz.underlying40 rfl (by kernel_rfl)) rfl ?_
    exact ⟨_,by first | rfl | (simp [*] <;> rfl),by (with_reducible repeat (first | apply Kd.R_alloc | apply Kd.R_drewN | apply Kd.R_drew));exact Kd.R_mono (Kd.R_far (p := ⟨gb579,1,none⟩) (Kd.R_far (p := ⟨gb579,0,none⟩) (Kd.R_mono HO_10.out (fun k_ hk => (⟨hk,hk.2⟩ : _ ∧ k_ ≠ gb579))) (fun _ hk => hk.2) (.int .i64 t583)) (fun _ hk => hk.2) (.int .i64 t587)) (fun _ hk => trivial),by repeat (first | (with_reducible first | exact HB.out | refine below_set ?_ (Aside0.out (by assumption)) | apply below_alloc | apply pw_below_drewN) | exact HB.out)⟩
   rw [if_pos c17] at H
   have c17b0 : decide (x11_1 < (t580.length : Int)) = true := decide_eq_true c17
   clear c17
   by_cases c18 : 0 ≤ x11_1
   case neg =>
    rw [if_neg c18] at H
    exact absurd H (by simp)
   rw [if_pos c18] at H
   have c18b0 : decide (0 ≤ x11_1) = true := decide_eq_true c18
   clear c18
   by_cases c19 : x11_1 < (t584.length : Int)
   case neg =>
    rw [if_neg c19] at H
    exact absurd H (by simp)
   rw [if_pos c19] at H
   have c19b0 : decide (x11_1 < (t584.length : Int)) = true := decide_eq_true c19
   clear c19
   by_cases c20 : x10_1.length < 8796093022208
   case neg =>
    rw [if_neg c20] at H
    exact absurd H (by simp)
   rw [if_pos c20] at H
   have LMc20 := am c20
   clear c20
   obtain ⟨y590,hy590⟩ : ∃ y_ : List (S40),y_ = (x10_1 ++ [(⟨rd t580 x11_1,rd t584 x11_1⟩ : S40)]) := ⟨_,rfl⟩
   replace H : (q4_Bounds.l0 k1 t580 t583 t584 t587 y590 (wrap64 (x11_1 + 1))) = some (r1,r2,r3) := by first | (rw [hy590];with_reducible exact H) | (have H2_ := (Option.bind_some _ _).symm.trans H;rw [hy590];with_reducible exact H2_) | (have H2_ := (Option.bind_some _ _).symm.trans H;with_reducible exact H2_) | with_reducible exact H | (rw [hy590];exact H) | exact H
   have Ny590 := am hy590
   clear hy590
   replace H' := am H
   obtain ⟨Ao21,co21,eo21⟩ := Kd.R_slice HO_6.out
   subst eo21
   try go_wp2
   replace HO_6 := am (Kd.R_drew HO_6.out)
   replace HO_8 := am (Kd.R_drew HO_8.out)
   replace HO_10 := am (Kd.R_drew HO_10.out)
   replace BK577 := am (blk_drew BK577.out)
   replace BK578 := am (blk_drew BK578.out)
   replace BK579 := am (blk_drew BK579.out)
   replace HB := am (below_drew1 HB.out)
   have p588 : 0 ≤ (x11_1 : Int) := of_decide_eq_true (by assumption)
   have q588 : x11_1 < (t580.length : Int) := of_decide_eq_true (by assumption)
   obtain ⟨ad588,e588,hx588_0⟩ := Kd.at_int (Kd.R_reads' HO_6.out).2.2 x11_1 p588 q588
   cases e588
   replace p588 := eq_true p588
   replace q588 := eq_true q588
   obtain ⟨Ao23,co23,eo23⟩ := Kd.R_slice HO_8.out
   (first | subst eo23 | (injection eo23 with f1_ f2_ f3_;have f4_ := f1_.symm;have f5_ := f3_.symm;clear f1_ f2_ f3_;subst f4_;subst f5_))
   have p589 : 0 ≤ (x11_1 : Int) := of_decide_eq_true (by assumption)
   have q589 : x11_1 < (t584.length : Int) := of_decide_eq_true (by assumption)
   obtain ⟨ad589,e589,hx589_0⟩ := Kd.at_int (Kd.R_reads' HO_8.out).2.2 x11_1 p589 q589
   cases e589
   replace p589 := eq_true p589
   replace q589 := eq_true q589
   refine start_ (n := 13) (S := fun w' => w'.cell? (ad588.add (x11_1).toNat) = some (.int .i64 (rd t580 x11_1)) ∧ w'.cell? (ad589.add (x11_1).toNat) = some (.int .i64 (rd t584 x11_1))) (ds := [10,11]) (ba 13 0) (by kernel_rfl) rfl rfl ⟨hx588_0,hx589_0⟩ (fun hHeld => ?_);refine with_tabW q4_Bounds.tab7 q4_Bounds.bits7 (fun HT_ HW_ => ?_)
   generalize wr.drew = w22 at HO_6 HO_8 HO_10 BK577 BK578 BK579 HB hx588_0 hx589_0 hHeld ⊢
   refine pure_ (i := 0) (N := some 32) (v := ?_) (a' := ?_) (ba 13 1) rfl rfl (any_of HT_.out (by kernel_rfl)) (fun _ _ _ h => h) (Or.inl ⟨by rfl,?_⟩) ?_ ?_
   rotate_left
   · intro w'
     go_simp
     with_reducible rfl
   rotate_left
   · simp only [Act.put,NRM]
     rfl
   refine pure_ (i := 1) (N := some 33) (v := ?_) (a' := ?_) (ba 13 3) rfl rfl (any_of HT_.out (by kernel_rfl)) (fun _ _ _ h => h) (Or.inl ⟨by rfl,?_⟩) ?_ ?_
   rotate_left
   · intro w'
     go_simp
     with_reducible rfl
   rotate_left
   · simp only [Act.put,NRM]
     rfl
   refine pure_ (i := 2) (N := some 34) (v := ?_) (a' := ?_) (ba 13 7) rfl rfl (any_of HT_.out (by kernel_rfl)) (fun _ _ _ h => h) (Or.inl ⟨by rfl,?_⟩) ?_ ?_
   rotate_left
   · intro w'
     go_simp
     with_reducible rfl
   rotate_left
   · simp only [Act.put,NRM]
     rfl
   refine pure_ (i := 3) (N := some 35) (v := ?_) (a' := ?_) (ba 13 15) rfl rfl (any_of HT_.out (by kernel_rfl)) (fun _ _ _ h => h) (Or.inl ⟨by rfl,?_⟩) ?_ ?_
   rotate_left
   · intro w'
     go_simp
     with_reducible rfl
   rotate_left
   · simp only [Act.put,NRM]
     rfl
   refine pure_ (i := 5) (N := some 37) (v := ?_) (a' := ?_) (ba 13 47) rfl rfl (any_of HT_.out (by kernel_rfl)) (fun _ _ _ h => h) (Or.inl ⟨by rfl,?_⟩) ?_ ?_
   rotate_left
   · intro w'
     go_simp
     with_reducible rfl
   rotate_left
   · simp only [Act.put,NRM]
     rfl
   refine pure_ (i := 6) (N := some 38) (v := ?_) (a' := ?_) (ba 13 111) rfl rfl (any_of HT_.out (by kernel_rfl)) (fun _ _ _ h => h) (Or.inl ⟨by rfl,?_⟩) ?_ ?_
   rotate_left
   · intro w'
     go_simp
     with_reducible rfl
   rotate_left
   · simp only [Act.put,NRM]
     rfl
   refine pure_ (i := 7) (N := some 39) (v := ?_) (a' := ?_) (ba 13 239) rfl rfl (any_of HT_.out (by kernel_rfl)) (fun _ _ _ h => h) (Or.inl ⟨by rfl,?_⟩) ?_ ?_
   rotate_left
   · intro w'
     go_simp
     with_reducible rfl
   rotate_left
   · simp only [Act.put,NRM]
     rfl
   refine take_ (i := 4) (N := some 36) (v := ?_) (a' := ?_) (ba 13 255) rfl rfl (take_ofW HT_.out HW_.out (by kernel_rfl)) (fun _ _ _ h => h) (Or.inl ⟨by rfl,?_⟩) hHeld ?_ ?_
   rotate_left
   · rintro w' ⟨s0,s1⟩
     go_simp
     with_reducible rfl
   rotate_left
   · simp only [Act.put,NRM]
     rfl
   refine take_ (i := 8) (N := some 40) (v := ?_) (a' := ?_) (ba 13 511) rfl rfl (take_ofW HT_.out HW_.out (by kernel_rfl)) (fun _ _ _ h => h) (Or.inl ⟨by rfl,?_⟩) hHeld ?_ ?_
   rotate_left
   · rintro w' ⟨s0,s1⟩
     go_simp
     with_reducible rfl
   rotate_left
   · simp only [Act.put,NRM]
     rfl
   refine pure_ (i := 9) (N := some 41) (v := ?_) (a' := ?_) (ba 13 1023) rfl rfl (any_of HT_.out (by kernel_rfl)) (fun _ _ _ h => h) (Or.inl ⟨by rfl,?_⟩) ?_ ?_
   rotate_left
   · intro w'
     go_simp
     with_reducible rfl
   rotate_left
   · simp only [Act.put,NRM]
     rfl
   refine last_ (i := 10) (N := some 42) (ba 13 2047) rfl rfl (one_of HT_.out (by kernel_rfl)) (by decide) (fun K hK => ?_)
   refine value_ (w1 := ?_) (v := ?_) (by rfl) rfl ?_ ?_
   rotate_left 2
   · go_simp
     constructor
     · rfl
     · rfl
   refine hK.out _ _ ?_
   clear hK K
   refine norm_ (a' := ?_) ?_ ?_
   rotate_left
   · show Act.put _ (some 42) _ = _
     simp only [Act.put,NRM]
     rfl
   refine last_ (i := 11) (N := some 43) (ba 13 4095) rfl rfl (one_of HT_.out (by kernel_rfl)) (by decide) (fun K hK => ?_)
   refine Kd.R_append_step k40 (w0 := w) w.heap.size (by rfl) (.tmp 32) (.tmp 42) 45 40 (.agg #[(.int .i64 0),(.int .i64 0)]) 16 rfl Tryz.underlying45 info40 rfl (by decide) (by omega) u10 x10_1 (⟨rd t580 x11_1,rd t584 x11_1⟩ : S40) [.int .i64 (rd t580 x11_1),.int .i64 (rd t584 x11_1)] (fun k_ => k_ ≠ gb578 ∧ k_ ≠ gb579) (fun _ => False) rfl rfl ?aP (fun _ hk => hk.elim) ?aF ?aO ?aB ?aS ?aL ?_
   (case aP => exact k40_mkM _ _ _ (⟨rd t580 x11_1,rd t584 x11_1⟩ : S40))
   (case aB => exact (by repeat (first | (with_reducible first | exact HB.out | refine below_set ?_ (Aside0.out (by assumption)) | apply below_alloc | apply pw_below_drewN) | exact HB.out)))
   (case aF => exact (fun k_ hk => ⟨Kd.freshB (g := gb578) (o := .cells #[.int .i64 a1_0,.int .i64 a1_1] 40 (0,0)) (by (with_reducible repeat (first | refine blk_drewN ?_ _ | refine blk_drew ?_ | refine blk_alloc ?_ _));exact BK578.out) k_ hk,Kd.freshB (g := gb579) (o := .cells #[.int .i64 0,.int .i64 0] 40 (0,0)) (by (with_reducible repeat (first | refine blk_drewN ?_ _ | refine blk_drew ?_ | refine blk_alloc ?_ _));exact BK579.out) k_ hk⟩))
   (case aO => exact (by (with_reducible repeat (first | apply Kd.R_alloc | apply Kd.R_drewN | apply Kd.R_drew));exact HO_10.out))
   (case aS => exact (below_size (by repeat (first | (with_reducible first | exact HB.out | refine below_set ?_ (Aside0.out (by assumption)) | apply below_alloc | apply pw_below_drewN) | exact HB.out))))
   (case aL => have := LMc20.out;omega)
   intro v591 w24 ho hb hg hat
   rw [← Ny590.out] at ho
   have n0_ := am (Kd.R_over' (by (with_reducible repeat (first | apply Kd.R_alloc | apply Kd.R_drewN | apply Kd.R_drew));exact HO_6.out) (Kd.R_typed (by (with_reducible repeat (first | apply Kd.R_alloc | apply Kd.R_drewN | apply Kd.R_drew));exact HO_10.out)) (by decide) hg)
   have n1_ := am (Kd.R_over' (by (with_reducible repeat (first | apply Kd.R_alloc | apply Kd.R_drewN | apply Kd.R_drew));exact HO_8.out) (Kd.R_typed (by (with_reducible repeat (first | apply Kd.R_alloc | apply Kd.R_drewN | apply Kd.R_drew));exact HO_10.out)) (by decide) hg)
   have n2_ := am (blk_grown (g := gb577) (o := .cells #[.slice A0_0 l0_0.length c0_0,.int .i64 a0_1,.slice A0_2 l0_2.length c0_2,.int .i64 a0_3,.int .i64 a0_4] 27 (0,0)) (by (with_reducible repeat (first | refine blk_drewN ?_ _ | refine blk_drew ?_ | refine blk_alloc ?_ _));exact BK577.out) hg (Kd.R_ne HO_10.out BK577.out (by decide)))
   have n3_ := am (blk_grown (g := gb578) (o := .cells #[.int .i64 a1_0,.int .i64 a1_1] 40 (0,0)) (by (with_reducible repeat (first | refine blk_drewN ?_ _ | refine blk_drew ?_ | refine blk_alloc ?_ _));exact BK578.out) hg (Kd.R_away HO_10.out (fun _ hk => hk.1)))
   have n4_ := am (blk_grown (g := gb579) (o := .cells #[.int .i64 0,.int .i64 0] 40 (0,0)) (by (with_reducible repeat (first | refine blk_drewN ?_ _ | refine blk_drew ?_ | refine blk_alloc ?_ _));exact BK579.out) hg (Kd.R_away HO_10.out (fun _ hk => hk.2)))
   have n5_ := am (hb)
   have n6_ := am (ho)
   clear HO_6
   clear HO_8
   clear BK577
   clear BK578
   clear BK579
   clear HB
   clear HO_10
   have HO_6 := n0_
   have HO_8 := n1_
   have BK577 := n2_
   have BK578 := n3_
   have BK579 := n4_
   have HB := n5_
   have HO592 := n6_
   clear n0_ n1_ n2_ n3_ n4_ n5_ n6_
   clear ho hb hg hat
   refine hK.out _ _ ?_
   clear hK K
   refine norm_ (a' := ?_) ?_ ?_
   rotate_left
   · show Act.put _ (some 43) _ = _
     simp only [Act.put,NRM]
     rfl
   refine pure_ (i := 12) (N := some 10) (v := ?_) (a' := ?_) (ba 13 8191) rfl rfl (any_of HT_.out (by kernel_rfl)) (fun _ _ _ h => h) (Or.inl ⟨by rfl,?_⟩) ?_ ?_
   rotate_left
   · intro w'
     go_simp
     with_reducible rfl
   rotate_left
   · simp only [Act.put,NRM]
     rfl
   refine done_ (done_of HT_.out (by kernel_rfl)) ?_
   try go_wp2
   go_roundg k1
   case measure => have := HK1.out;omega
   case rel => exact ⟨(y590),(wrap64 (x11_1 + 1)),(by first | rfl | (simp;done) | (simp [*];done)),H',⟨by have := HK1.out;omega⟩,⟨by (with_reducible repeat (first | apply Kd.R_alloc | apply Kd.R_drewN | apply Kd.R_drew));exact HO_6.out⟩,⟨by (with_reducible repeat (first | apply Kd.R_alloc | apply Kd.R_drewN | apply Kd.R_drew));exact HO_8.out⟩,⟨by (with_reducible repeat (first | apply Kd.R_alloc | apply Kd.R_drewN | apply Kd.R_drew));exact HO592.out⟩,⟨by (with_reducible repeat (first | refine blk_drewN ?_ _ | refine blk_drew ?_ | refine blk_alloc ?_ _));exact BK577.out⟩,⟨by (with_reducible repeat (first | refine blk_drewN ?_ _ | refine blk_drew ?_ | refine blk_alloc ?_ _));exact BK578.out⟩,⟨by (with_reducible repeat (first | refine blk_drewN ?_ _ | refine blk_drew ?_ | refine blk_alloc ?_ _));exact BK579.out⟩,⟨by repeat (first | (with_reducible first | exact HB.out | refine below_set ?_ (Aside0.out (by assumption)) | apply below_alloc | apply pw_below_drewN) | exact HB.out)⟩⟩
end
end Go.Proofs.YticlelgmmonloaaGreatDoor.C

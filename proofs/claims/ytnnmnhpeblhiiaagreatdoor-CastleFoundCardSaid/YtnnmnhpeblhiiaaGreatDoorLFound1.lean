/- A part of the proof: the walks of the functions that it reaches. TIGHT. -/
import Derived.Test.YtnnmnhpeblhiiaaGreatDoorM16
set_option linter.unusedVariables false
set_option linter.unusedSimpArgs false
namespace Go.Proofs.YtnnmnhpeblhiiaaGreatDoor.C
open Go.RowKit Go.Proofs.YtnnmnhpeblhiiaaGreatDoorW.PrintWords Go.Proofs.YtnnmnhpeblhiiaaGreatDoorW.PrintLast Go.Proofs.YtnnmnhpeblhiiaaGreatDoorW.PrintMore
set_option linter.unusedVariables false
set_option linter.unusedSimpArgs false
set_option maxHeartbeats 16000000
set_option maxRecDepth 100000
section
attribute [local go_sem] max2_int min2_int max_two min_two
theorem eqA44 (d : Nat) (w : World) (x0 y0 : Int) (x1 y1 : Int) :
 (Op.equalIn (d + 2) 44 (.agg #[.int .i64 x0,.int .i64 x1]) (.agg #[.int .i64 y0,.int .i64 y1])).run Tryz.prog w = .ok (x0 == y0 && (x1 == y1)) w := by
 refine eqA_of Tryz.underlying44 (by kernel_rfl) ?_
 refine eqf_cons (by rfl) (by go_simp;rfl) (by go_simp;rfl) (by go_simp) ?_
 exact eqf_last (by rfl) (by go_simp;rfl) (by go_simp;rfl) (by go_simp)
def ca_changed.f (l0_0 : List (S126)) (a0_1 : Int) (l0_2 : List (S48)) (a0_3 : Int) (a0_4 : Int) (a1_0 : Int) (a1_1 : Int) : Option ((List (S48))) := (sl_Clone_Z.f l0_2).bind fun t220 => (if 0 ≤ a1_0 then (if a1_0 < (t220.length : Int) then (some (t220.set (a1_0 : Int).toNat (⟨(rd_T48 t220 a1_0).f0,a1_1⟩ : S48))) else (none)) else (none))
theorem ca_changed.calls (A0_0 : Option Addr) (c0_0 : Nat) (l0_0 : List (S126)) (a0_1 : Int) (A0_2 : Option Addr) (c0_2 : Nat) (l0_2 : List (S48)) (a0_3 : Int) (a0_4 : Int) (a1_0 : Int) (a1_1 : Int) (r : List (S48)) (w : World) (hr0_0 : Kd.C k126 w A0_0 l0_0.length l0_0) (hc0_0 : l0_0.length ≤ c0_0) (hr0_2 : Kd.C k48 w A0_2 l0_2.length l0_2) (hc0_2 : l0_2.length ≤ c0_2) (h : ca_changed.f l0_0 a0_1 l0_2 a0_3 a0_4 a1_0 a1_1 = some r) :
 Calls Tryz.prog 78 #[.agg #[.slice A0_0 l0_0.length c0_0,.int .i64 a0_1,.slice A0_2 l0_2.length c0_2,.int .i64 a0_3,.int .i64 a0_4],.agg #[.int .i64 a1_0,.int .i64 a1_1]] w fun e w' => ∃ v0_ : Value,e = .returned (.agg #[.slice A0_0 l0_0.length c0_0,.int .i64 a0_1,v0_,.int .i64 a0_3,.int .i64 a0_4]) ∧ Kd.R k48 48 w' w.heap.size (fun _ => True) v0_ r ∧ Below w.heap.size w w' := by
 have hu27 := Tryz.underlying27
 have hu44 := Tryz.underlying44
 have HR0_0 := am hr0_0
 have HC0_0 := am hc0_0
 clear hr0_0 hc0_0
 have HR0_2 := am hr0_2
 have HC0_2 := am hc0_2
 clear hr0_2 hc0_2
 have HB := am (Below.refl w.heap.size w)
 have H : ((sl_Clone_Z.f l0_2).bind fun t220 => (if 0 ≤ a1_0 then (if a1_0 < (t220.length : Int) then (some (t220.set (a1_0 : Int).toNat (⟨(rd_T48 t220 a1_0).f0,a1_1⟩ : S48))) else (none)) else (none))) = some r := h
 clear h
 replace H := obm H
 obtain ⟨t220,A30,H⟩ := H
 replace H : (if 0 ≤ a1_0 then (if a1_0 < (t220.length : Int) then (some (t220.set (a1_0 : Int).toNat (⟨(rd_T48 t220 a1_0).f0,a1_1⟩ : S48))) else (none)) else (none)) = some r := H
 have A3 := am A30
 clear A30
 by_cases c4 : 0 ≤ a1_0
 case neg =>
  rw [if_neg c4] at H
  exact absurd H (by simp)
 rw [if_pos c4] at H
 have c4b0 : decide (0 ≤ a1_0) = true := decide_eq_true c4
 clear c4
 by_cases c5 : a1_0 < (t220.length : Int)
 case neg =>
  rw [if_neg c5] at H
  exact absurd H (by simp)
 rw [if_pos c5] at H
 have c5b0 : decide (a1_0 < (t220.length : Int)) = true := decide_eq_true c5
 clear c5
 obtain ⟨y223,hy223⟩ : ∃ y_ : List (S48),y_ = (t220.set (a1_0 : Int).toNat (⟨(rd_T48 t220 a1_0).f0,a1_1⟩ : S48)) := ⟨_,rfl⟩
 replace H : (some y223) = some r := by first | (rw [hy223];with_reducible exact H) | (have H2_ := (Option.bind_some _ _).symm.trans H;rw [hy223];with_reducible exact H2_) | (have H2_ := (Option.bind_some _ _).symm.trans H;with_reducible exact H2_) | with_reducible exact H | (rw [hy223];exact H) | exact H
 have Ny223 := am hy223
 clear hy223
 obtain rfl := Option.some.inj H
 go_enter Tryz.func78,Tryz.ntmps78
 go_wp2_with (first | ((refine gate_dst (N := 2) rfl ?_);refine box_event rfl (N := 2) rfl (cs := #[.slice A0_0 l0_0.length c0_0,.int .i64 a0_1,.slice A0_2 l0_2.length c0_2,.int .i64 a0_3,.int .i64 a0_4]) (t := 27) ?hr ?_;(case hr => go_simp;try rfl);intro gb217 hg w7 hbox hb;have BK217 := am (hbox);have GW217 := am (ge_new (HB.out) hg);have GE217 := am (ge_new (HB.out) hg);replace HB := am (below_step (HB.out) hb);clear hb hbox hg) | ((refine gate_dst (N := 3) rfl ?_);refine box_event rfl (N := 3) rfl (cs := #[.int .i64 a1_0,.int .i64 a1_1]) (t := 44) ?hr ?_;(case hr => go_simp;try rfl);intro gb218 hg w8 hbox hb;have BK218 := am (hbox);have GW218 := am (ge_new (HB.out) hg);have GE218 := am (ge_new (HB.out) hg);have NB217_218 := am (ne_new BK217.out hg);have NB218_217 := am (ne_new2 BK217.out hg);replace BK217 := (kmv hb BK217);replace HB := am (below_step (HB.out) hb);clear hb hbox hg) | ((refine gate_dst (N := 4) rfl ?_);refine box_event rfl (N := 4) rfl (cs := #[.slice none 0 0,.int .i64 0,.slice none 0 0,.int .i64 0,.int .i64 0]) (t := 27) ?hr ?_;(case hr => go_simp;try rfl);intro gb219 hg w9 hbox hb;have BK219 := am (hbox);have GW219 := am (ge_new (HB.out) hg);have GE219 := am (ge_new (HB.out) hg);have NB217_219 := am (ne_new BK217.out hg);have NB219_217 := am (ne_new2 BK217.out hg);have NB218_219 := am (ne_new BK218.out hg);have NB219_218 := am (ne_new2 BK218.out hg);replace BK217 := (kmv hb BK217);replace BK218 := (kmv hb BK218);replace HB := am (below_step (HB.out) hb);clear hb hbox hg;have hnb10 := NB217_218.out;have hnc10 := NB218_217.out;have hnb11 := NB217_219.out;have hnc11 := NB219_217.out;obtain ⟨hcz12_0,hcz12_1,hcz12_2,hcz12_3,hcz12_4⟩ := cO5 BK217.out;have hfz12_0 := blk_frozen BK217.out 0;have hfz12_1 := blk_frozen BK217.out 1;have hfz12_2 := blk_frozen BK217.out 2;have hfz12_3 := blk_frozen BK217.out 3;have hfz12_4 := blk_frozen BK217.out 4) | ((with_reducible refine gate_callee (f := 107) rfl ?_);refine goesL_ (some 7) rfl rfl Tryz.func107 (by kernel_rfl) rfl #[.slice A0_2 l0_2.length c0_2] rfl (by (try simp only [List.map_toArray,List.map_cons,List.map_nil]);first | done | rfl | (simp only [List.length_drop,List.length_take];rfl)) ?_;(refine (sl_Clone_Z.calls _ _ l0_2 t220 _ ?side1 ?side2 A3.out).mono ?_);(case side1 => exact kC HR0_2.out HB.out);(case side2 => exact HC0_2.out);rintro e w13 ⟨v221,rfl,ho0,hb⟩;refine ⟨_,rfl,?_⟩;have HO222 := am (Kd.R_lower ho0 (below_size (HB.out)));replace BK217 := (kmv hb BK217);replace BK218 := (kmv hb BK218);replace BK219 := (kmv hb BK219);replace HB := am (below_step (HB.out) hb);(try clear hb);(try clear hb2);(try clear hk);(try clear hi);(try clear ho0);obtain ⟨Ao14,co14,eo14⟩ := Kd.R_slice HO222.out;subst eo14;obtain ⟨hcz15_0,hcz15_1,hcz15_2,hcz15_3,hcz15_4⟩ := cO5 BK217.out;have hfz15_0 := blk_frozen BK217.out 0;have hfz15_1 := blk_frozen BK217.out 1;have hfz15_2 := blk_frozen BK217.out 2;have hfz15_3 := blk_frozen BK217.out 3;have hfz15_4 := blk_frozen BK217.out 4) | ((with_reducible refine gate_store (t := 25) (p := 8) rfl ?_);refine store_event (t := 25) (p := 8) (v := ?vo_w16) (w1 := (w13.setCell ⟨gb217,2,none⟩ (.slice Ao14 t220.length co14))) ?hg ?ho ?hn ?hr ?_;(case ho => rfl);(case hg => rfl);(case hn => rfl);(case hr => go_simp;try rfl);intro w16 hw;have n0_ : Aside0 (Kd.R k48 48 w16 w.heap.size (fun _ => True) (.slice Ao14 t220.length co14) t220) := ⟨(by rw [hw];exact (Kd.R_mono (Kd.R_far (p := ⟨gb217,2,none⟩) (Kd.R_types HO222.out BK217.out (by decide)) (fun _ hk => hk.2) (.slice Ao14 t220.length co14)) (fun _ hk => trivial)))⟩;have n1_ : Aside0 (w16.heap[gb217]? = some (.cells #[.slice A0_0 l0_0.length c0_0,.int .i64 a0_1,.slice Ao14 t220.length co14,.int .i64 a0_3,.int .i64 a0_4] 27 (0,0))) := ⟨(by rw [hw];exact (blk_put (cs := #[.slice A0_0 l0_0.length c0_0,.int .i64 a0_1,.slice A0_2 l0_2.length c0_2,.int .i64 a0_3,.int .i64 a0_4]) BK217.out 2 _ rfl))⟩;have n2_ : Aside0 (w16.heap[gb218]? = some (.cells #[.int .i64 a1_0,.int .i64 a1_1] 44 (0,0))) := ⟨(by rw [hw];exact (blk_far BK218.out NB218_217.out _))⟩;have n3_ : Aside0 (w16.heap[gb219]? = some (.cells #[.slice none 0 0,.int .i64 0,.slice none 0 0,.int .i64 0,.int .i64 0] 27 (0,0))) := ⟨(by rw [hw];exact (blk_far BK219.out NB219_217.out _))⟩;have n4_ : Aside0 (Below w.heap.size w w16) := ⟨(by rw [hw];exact (by repeat (first | (with_reducible first | exact HB.out | refine below_set ?_ (Aside0.out (by assumption)) | apply below_alloc | apply pw_below_drewN) | exact HB.out)))⟩;clear hw;clear HO222;clear BK217;clear BK218;clear BK219;clear HB;have HO222 := n0_;have BK217 := n1_;have BK218 := n2_;have BK219 := n3_;have HB := n4_;clear n0_ n1_ n2_ n3_ n4_;obtain ⟨hcz17_0,hcz17_1,hcz17_2,hcz17_3,hcz17_4⟩ := cO5 BK217.out;have hfz17_0 := blk_frozen BK217.out 0;have hfz17_1 := blk_frozen BK217.out 1;have hfz17_2 := blk_frozen BK217.out 2;have hfz17_3 := blk_frozen BK217.out 3;have hfz17_4 := blk_frozen BK217.out 4;have hnb18 := NB218_219.out;have hnc18 := NB219_218.out;obtain ⟨hcz19_0,hcz19_1⟩ := cO2 BK218.out;have p6 : 0 ≤ (a1_0 : Int) := of_decide_eq_true (by assumption);have q6 : (a1_0 : Int) < ((t220.length : Int) : Int) := of_decide_eq_true (by assumption);obtain ⟨go6,co6,eo6,gb6,gl6,cl6,HG6⟩ := Kd.R_form HO222.out (by omega);(first | cases eo6 | (injection eo6 with ea_ en_ ec_;(first | subst ea_ | (injection ea_ with ea_;subst ea_));subst ec_;clear en_));have GB6 := am gb6;have GG6 := am HG6;clear gb6 gl6 HG6;obtain ⟨ce6,hcl6,hM6,hcc6,hfr6⟩ := Kd.R_elem HO222.out z48 (a1_0 : Int) p6 q6;obtain rfl := k48_openM hM6;have hx6_0 : w16.cell? ⟨go6,(a1_0 : Int).toNat * 2,none⟩ = some (.int .i64 ((rd_T48 t220 a1_0).f0)) := hcc6 0 _ rfl;have hx6_1 : w16.cell? ⟨go6,(a1_0 : Int).toNat * 2 + 1,none⟩ = some (.int .i64 ((rd_T48 t220 a1_0).f1)) := hcc6 1 _ rfl;have hf6_0 : w16.frozen? ⟨go6,(a1_0 : Int).toNat * 2,none⟩ = false := hfr6 0;have hf6_1 : w16.frozen? ⟨go6,(a1_0 : Int).toNat * 2 + 1,none⟩ = false := hfr6 1;clear hcl6 hcc6 hfr6 hM6;replace p6 := eq_true p6;replace q6 := eq_true q6;have HX20 := am (show Kd.R k48 48 w16 w.heap.size (fun _ => True) (.slice (some ⟨go6,0,none⟩) t220.length co14) t220 from HO222.out);obtain ⟨ce20,hcl20,hM20,hcc20,hfr20⟩ := Kd.R_elem HX20.out z48 (a1_0 : Int) (of_decide_eq_true (by assumption)) (by have h_ : (a1_0 : Int) < ((t220.length : Int) : Int) := of_decide_eq_true (by assumption);first | exact h_ | (have e_ := (Kd.R_reads' HO222.out).1;omega) | simpa using h_);obtain rfl := k48_openM hM20;have HP20 := Kd.R_seg HX20.out (a1_0 : Int) (of_decide_eq_true (by assumption)) (by have h_ : (a1_0 : Int) < ((t220.length : Int) : Int) := of_decide_eq_true (by assumption);first | exact h_ | (have e_ := (Kd.R_reads' HO222.out).1;omega) | simpa using h_) (seg := [.int .i64 a1_1]) (j := 1) hcl20 hcc20 (show 2 ≤ 2 from by decide) (x' := (⟨(rd_T48 t220 a1_0).f0,a1_1⟩ : S48)) (k48_mkM _ _ _ (⟨(rd_T48 t220 a1_0).f0,a1_1⟩ : S48) ) (fun _ hk => hk);have hx20_1 := hcc20 1 _ rfl;(try simp only [show (k48).sz = 2 from rfl,Nat.mul_one,Nat.add_zero] at hx20_1);have hf20_1 := hfr20 1;(try simp only [show (k48).sz = 2 from rfl,Nat.mul_one,Nat.add_zero] at hf20_1);clear hcl20 hcc20 hfr20 hM20) | ((with_reducible refine gate_store (t := 3) (p := 16) rfl ?_);refine store_event (t := 3) (p := 16) (v := ?vo_w21) (w1 := (w16.setCell ⟨go6,(a1_0 : Int).toNat * 2 + 1,none⟩ (.int .i64 a1_1))) ?hg ?ho ?hn ?hr ?_;(case ho => rfl);(case hg => rfl);(case hn => rfl);(case hr => go_simp;try rfl);intro w21 hw;have hg : w16.grownBy w21 (some go6) := (by rw [hw];exact HP20.2);have hp_ : Kd.R k48 48 w21 w.heap.size (fun _ => True) (.slice (some ⟨go6,0,none⟩) t220.length co14) y223 := (by rw [hw,Ny223.out];exact HP20.1);clear HP20;replace BK217 := am (blk_grown (g := gb217) (o := .cells #[.slice A0_0 l0_0.length c0_0,.int .i64 a0_1,.slice (some ⟨go6,0,none⟩) t220.length co14,.int .i64 a0_3,.int .i64 a0_4] 27 (0,0)) BK217.out hg (Kd.R_ne HO222.out BK217.out (by decide)));replace BK218 := am (blk_grown (g := gb218) (o := .cells #[.int .i64 a1_0,.int .i64 a1_1] 44 (0,0)) BK218.out hg (Kd.R_ne HO222.out BK218.out (by decide)));replace BK219 := am (blk_grown (g := gb219) (o := .cells #[.slice none 0 0,.int .i64 0,.slice none 0 0,.int .i64 0,.int .i64 0] 27 (0,0)) BK219.out hg (Kd.R_ne HO222.out BK219.out (by decide)));replace HO222 := am (hp_);replace HB := am ((by rw [hw];exact below_set (HB.out) GB6.out : Below w.heap.size w w21));clear hg hw hp_;obtain ⟨hcz22_0,hcz22_1,hcz22_2,hcz22_3,hcz22_4⟩ := cO5 BK217.out;have hfz22_0 := blk_frozen BK217.out 0;have hfz22_1 := blk_frozen BK217.out 1;have hfz22_2 := blk_frozen BK217.out 2;have hfz22_3 := blk_frozen BK217.out 3;have hfz22_4 := blk_frozen BK217.out 4;obtain ⟨hcz23_0,hcz23_1,hcz23_2,hcz23_3,hcz23_4⟩ := cO5 BK219.out;have hfz23_0 := blk_frozen BK219.out 0;have hfz23_1 := blk_frozen BK219.out 1;have hfz23_2 := blk_frozen BK219.out 2;have hfz23_3 := blk_frozen BK219.out 3;have hfz23_4 := blk_frozen BK219.out 4))
 refine bodyPost_ret (results_cell_row rfl _ _ gb219 27 #[.slice A0_0 l0_0.length c0_0,.int .i64 a0_1,.slice (some ⟨go6,0,none⟩) t220.length co14,.int .i64 a0_3,.int .i64 a0_4] (0,0) _ rfl (blk_put (cs := #[.slice A0_0 l0_0.length c0_0,.int .i64 a0_1,.slice (some ⟨go6,0,none⟩) t220.length co14,.int .i64 a0_3,.int .i64 0]) (blk_put (cs := #[.slice A0_0 l0_0.length c0_0,.int .i64 a0_1,.slice (some ⟨go6,0,none⟩) t220.length co14,.int .i64 0,.int .i64 0]) (blk_put (cs := #[.slice A0_0 l0_0.length c0_0,.int .i64 a0_1,.slice none 0 0,.int .i64 0,.int .i64 0]) (blk_put (cs := #[.slice A0_0 l0_0.length c0_0,.int .i64 0,.slice none 0 0,.int .i64 0,.int .i64 0]) (blk_put (cs := #[.slice none 0 0,.int .i64 0,.slice none 0 0,.int .i64 0,.int .i64 0]) BK219.out 0 _ rfl) 1 _ rfl) 2 _ rfl) 3 _ rfl) 4 _ rfl) Tryz.underlying27 rfl (by kernel_rfl)) rfl ?_
 exact ⟨_,by first | rfl | (simp [*] <;> rfl),by (with_reducible repeat (first | apply Kd.R_alloc | apply Kd.R_drewN | apply Kd.R_drew));exact Kd.R_mono (Kd.R_far (p := ⟨gb219,4,none⟩) (Kd.R_far (p := ⟨gb219,3,none⟩) (Kd.R_far (p := ⟨gb219,2,none⟩) (Kd.R_far (p := ⟨gb219,1,none⟩) (Kd.R_far (p := ⟨gb219,0,none⟩) (Kd.R_types HO222.out BK219.out (by decide)) (fun _ hk => hk.2) (.slice A0_0 l0_0.length c0_0)) (fun _ hk => hk.2) (.int .i64 a0_1)) (fun _ hk => hk.2) (.slice (some ⟨go6,0,none⟩) t220.length co14)) (fun _ hk => hk.2) (.int .i64 a0_3)) (fun _ hk => hk.2) (.int .i64 a0_4)) (fun _ hk => trivial),by repeat (first | (with_reducible first | exact HB.out | refine below_set ?_ (Aside0.out (by assumption)) | apply below_alloc | apply pw_below_drewN) | exact HB.out)⟩
def ca_Lowered_1.f (a0_0 : Int) (a0_1 : Int) : Option (Bool) := (isSpan_isFlow.f a0_0 a0_1).bind fun t1057 => (some (!t1057))
theorem ca_Lowered_1.calls (a0_0 : Int) (a0_1 : Int) (r : Bool) (w : World) (h : ca_Lowered_1.f a0_0 a0_1 = some r) :
 Calls Tryz.prog 75 #[.agg #[.int .i64 a0_0,.int .i64 a0_1]] w fun e w' => e = .returned (.bool r) ∧ Below w.heap.size w w' := by
 have hu54 := Tryz.underlying54
 have HB := am (Below.refl w.heap.size w)
 have H : ((isSpan_isFlow.f a0_0 a0_1).bind fun t1057 => (some (!t1057))) = some r := h
 clear h
 replace H := obm H
 obtain ⟨t1057,A20,H⟩ := H
 replace H : (some (!t1057)) = some r := H
 have A2 := am A20
 clear A20
 obtain rfl := Option.some.inj H
 go_enter Tryz.func75,Tryz.ntmps75
 go_wp2_with (first | ((refine gate_dst (N := 1) rfl ?_);refine box_event rfl (N := 1) rfl (cs := #[.int .i64 a0_0,.int .i64 a0_1]) (t := 54) ?hr ?_;(case hr => go_simp;try rfl);intro gb1056 hg w3 hbox hb;have BK1056 := am (hbox);have GW1056 := am (ge_new (HB.out) hg);have GE1056 := am (ge_new (HB.out) hg);replace HB := am (below_step (HB.out) hb);clear hb hbox hg;obtain ⟨hcz4_0,hcz4_1⟩ := cO2 BK1056.out) | ((with_reducible refine gate_callee (f := 76) rfl ?_);refine goesL_ (some 4) rfl rfl Tryz.func76 (by kernel_rfl) rfl #[.agg #[.int .i64 a0_0,.int .i64 a0_1],.func (.func 67) #[] #[]] rfl (by (try simp only [List.map_toArray,List.map_cons,List.map_nil]);first | done | rfl | (simp only [List.length_drop,List.length_take];rfl)) ?_;(with_reducible refine (isSpan_isFlow.calls a0_0 a0_1  t1057 _ A2.out).mono ?_);rintro e w5 ⟨rfl,hb⟩;refine ⟨_,rfl,?_⟩;replace BK1056 := (kmv hb BK1056);replace HB := am (below_step (HB.out) hb);(try clear hb);(try clear hb2);(try clear hk);(try clear hi)))
 go_ret
 exact ⟨by first | rfl | (simp [*] <;> rfl),HB.out⟩
end
def Pred_Lowered (q : S54 → Option Bool) (w : World) (xs : List S54) : Prop := ∀ (x : S54) (b : Bool) (W : World) , x ∈ xs → q x = some b → Below w.heap.size w W → 
 Calls Tryz.prog 75 #[.agg #[.int .i64 x.f0,.int .i64 x.f1]] W fun e W' => e = .returned (.bool b) ∧ Below W.heap.size W W'
theorem idx_Lowered (q : S54 → Option Bool) (A : Option Addr) (c : Nat) (xs : List S54) (r : Int) (w : World) (hr : Kd.C k54 w A xs.length xs) (hp : Pred_Lowered q w xs) (h : idxM q xs 0 = some r) :
 Calls Tryz.prog 115 #[.slice A xs.length c,.func (.func 75) #[] #[]] w fun e w' => e = .returned (.int .i64 r) ∧ Below w.heap.size w w' := by
 have huE := Tryz.underlying54
 have HR := am hr
 have HP := am hp
 have HQ := am (show idxM q (xs.drop (0 : Int).toNat) 0 = some r from h)
 have hm : xs.length ≤ 9223372036854775807 := Kd.C_max hr
 clear hr hp h
 go_enter Tryz.func115,Tryz.ntmps115
 go_wp2
 go_loopw [5,8] (fun v5 v8 w' => ∃ i : Int,0 ≤ i ∧ i ≤ xs.length ∧ v8 = .int .i64 i ∧ Aside0 (idxM q (xs.drop i.toNat) i = some r) ∧ Aside0 (Below w.heap.size w w')) (fun _ v8 _ => xs.length - (intOf v8).toNat)
 case atStart => exact ⟨0,by omega,by omega,rfl,HQ,⟨Below.refl _ _⟩⟩
 case round =>
  clear HQ
  obtain ⟨i,p1,hi,rfl,HQ,HB⟩ := hrel
  by_cases hlt : i < (xs.length : Int)
  case neg =>
   go_wp2
   go_ret
   exact ⟨ret_int_eq (idxM_end (by omega) HQ.out),HB.out⟩
  obtain ⟨ad,e1,hx0,hx1⟩ := at_T54 HR.out i p1 hlt
  cases e1
  replace hx0 := (HB.out.cell (wbl hx0)).trans hx0
  replace hx1 := (HB.out.cell (wbl hx1)).trans hx1
  rcases idxM_step z54 p1 hlt HQ.out with ⟨hq,he⟩ | ⟨hq,hn⟩
  · have H1 := am hq
    have X1 := am (getD_mem z54 p1 hlt)
    have H2 := am he
    clear hq he
    go_wp2_with (go_at_call 75;refine (HP.out (xs.getD i.toNat z54) _ _ X1.out H1.out HB.out).mono ?_;rintro e W' ⟨rfl,hb⟩)
    go_ret
    exact ⟨ret_int_eq H2.out,below_then HB.out HB.out.size hb⟩
  · have H1 := am hq
    have X1 := am (getD_mem z54 p1 hlt)
    have H2 := am hn
    clear hq hn
    go_wp2_with (go_at_call 75;refine (HP.out (xs.getD i.toNat z54) _ _ X1.out H1.out HB.out).mono ?_;rintro e W' ⟨rfl,hb⟩)
    go_roundw
    case rel => exact ⟨i + 1,by omega,by omega,by go_num,H2,⟨below_then HB.out HB.out.size hb⟩⟩
    case measure => simp [intOf];omega
theorem any_Lowered (q : S54 → Option Bool) (A : Option Addr) (c : Nat) (xs : List S54) (r : Bool) (w : World) (hr : Kd.C k54 w A xs.length xs) (hp : Pred_Lowered q w xs) (h : anyM q xs = some r) :
 Calls Tryz.prog 77 #[.slice A xs.length c,.func (.func 75) #[] #[]] w fun e w' => e = .returned (.bool r) ∧ Below w.heap.size w w' := by
 obtain ⟨j,hj,hd⟩ := idxM_of_anyM q xs 0 r (by omega) h
 have H1 := am hj
 have H2 := am hd
 have HR := am hr
 have HP := am hp
 clear hr hp h hj hd
 go_enter Tryz.func77,Tryz.ntmps77
 go_wp2_with (go_at_call 115;refine (idx_Lowered q _ _ xs j _ HR.out HP.out H1.out).mono ?_;rintro e W' ⟨rfl,hb⟩)
 go_ret
 exact ⟨ret_bool_eq H2.out,hb⟩
def cf_Lowered.f (l0 : List S54) : Option Bool := anyM (fun x => ca_Lowered_1.f x.f0 x.f1) l0
theorem cf_Lowered.calls (A0 : Option Addr) (c0 : Nat) (l0 : List S54) (r : Bool) (w : World) (hr0 : Kd.C k54 w A0 l0.length l0) (hc0 : l0.length ≤ c0) (h : cf_Lowered.f l0 = some r) :
 Calls Tryz.prog 77 #[.slice A0 l0.length c0,.func (.func 75) #[] #[]] w fun e w' => e = .returned (.bool r) ∧ Below w.heap.size w w' :=
 any_Lowered (fun x => ca_Lowered_1.f x.f0 x.f1) A0 c0 l0 r w hr0 (fun x b W hx hq hb => (ca_Lowered_1.calls _ _ b W hq).mono fun e W' ⟨he,hd⟩ => ⟨he,hd⟩) h
end Go.Proofs.YtnnmnhpeblhiiaaGreatDoor.C

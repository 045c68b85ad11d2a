/- A part of the proof: the walks of the functions that it reaches. TIGHT. -/
import Derived.Test.YticlelgmmonloaaGreatDoorM10
namespace Go.Proofs.YticlelgmmonloaaGreatDoor.C
open Go.RowKit Go.Proofs.YticlelgmmonloaaGreatDoorW.PrintWords Go.Proofs.YticlelgmmonloaaGreatDoorW.PrintLast Go.Proofs.YticlelgmmonloaaGreatDoorW.PrintMore
set_option linter.unusedVariables false
set_option linter.unusedSimpArgs false
set_option maxHeartbeats 16000000
set_option maxRecDepth 100000
section
attribute [local go_sem] max2_int min2_int max_two min_two
def ca_changed.f (l0_0 : List (S126)) (a0_1 : Int) (l0_2 : List (S64)) (a0_3 : Int) (a0_4 : Int) (a1_0 : Int) (a1_1 : Int) : Option ((List (S64))) := (sl_Clone_Z.f l0_2).bind fun t285 => (if 0 ≤ a1_0 then (if a1_0 < (t285.length : Int) then (some (t285.set (a1_0 : Int).toNat (⟨(rd_T64 t285 a1_0).f0,a1_1⟩ : S64))) else (none)) else (none))
theorem ca_changed.calls (A0_0 : Option Addr) (c0_0 : Nat) (l0_0 : List (S126)) (a0_1 : Int) (A0_2 : Option Addr) (c0_2 : Nat) (l0_2 : List (S64)) (a0_3 : Int) (a0_4 : Int) (a1_0 : Int) (a1_1 : Int) (r : List (S64)) (w : World) (hr0_0 : Kd.C k126 w A0_0 l0_0.length l0_0) (hc0_0 : l0_0.length ≤ c0_0) (hr0_2 : Kd.C k64 w A0_2 l0_2.length l0_2) (hc0_2 : l0_2.length ≤ c0_2) (h : ca_changed.f l0_0 a0_1 l0_2 a0_3 a0_4 a1_0 a1_1 = some r) :
 Calls Tryz.prog 74 #[.agg #[.slice A0_0 l0_0.length c0_0,.int .i64 a0_1,.slice A0_2 l0_2.length c0_2,.int .i64 a0_3,.int .i64 a0_4],.agg #[.int .i64 a1_0,.int .i64 a1_1]] w fun e w' => ∃ v0_ : Value,e = .returned (.agg #[.slice A0_0 l0_0.length c0_0,.int .i64 a0_1,v0_,.int .i64 a0_3,.int .i64 a0_4]) ∧ Kd.R k64 64 w' w.heap.size (fun _ => True) v0_ r ∧ Below w.heap.size w w' := by
 have hu27 := Tryz.underlying27
 have hu58 := Tryz.underlying58
 have HR0_0 := am hr0_0
 have HC0_0 := am hc0_0
 clear hr0_0 hc0_0
 have HR0_2 := am hr0_2
 have HC0_2 := am hc0_2
 clear hr0_2 hc0_2
 have HB := am (Below.refl w.heap.size w)
 have H : ((sl_Clone_Z.f l0_2).bind fun t285 => (if 0 ≤ a1_0 then (if a1_0 < (t285.length : Int) then (some (t285.set (a1_0 : Int).toNat (⟨(rd_T64 t285 a1_0).f0,a1_1⟩ : S64))) else (none)) else (none))) = some r := h
 clear h
 replace H := obm H
 obtain ⟨t285,A30,H⟩ := H
 (try dsimp only at H)
 have A3 := am A30
 clear A30
 by_cases c4 : 0 ≤ a1_0
 case neg =>
  rw [if_neg c4] at H
  exact absurd H (by simp)
 rw [if_pos c4] at H
 have c4b0 : decide (0 ≤ a1_0) = true := decide_eq_true c4
 clear c4
 by_cases c5 : a1_0 < (t285.length : Int)
 case neg =>
  rw [if_neg c5] at H
  exact absurd H (by simp)
 rw [if_pos c5] at H
 have c5b0 : decide (a1_0 < (t285.length : Int)) = true := decide_eq_true c5
 clear c5
 obtain ⟨y288,hy288⟩ : ∃ y_ : List (S64),y_ = (t285.set (a1_0 : Int).toNat (⟨(rd_T64 t285 a1_0).f0,a1_1⟩ : S64)) := ⟨_,rfl⟩
 replace H : (some y288) = some r := by first | (rw [hy288];with_reducible exact H) | (have H2_ := (Option.bind_some _ _).symm.trans H;rw [hy288];with_reducible exact H2_) | (have H2_ := (Option.bind_some _ _).symm.trans H;with_reducible exact H2_) | with_reducible exact H | (rw [hy288];exact H) | exact H
 have Ny288 := am hy288
 clear hy288
 obtain rfl := Option.some.inj H
 go_enter Tryz.func74,Tryz.ntmps74
 go_wp2_with (first | ((refine gate_dst (N := 2) rfl ?_);refine box_event rfl (N := 2) rfl (cs := #[.slice A0_0 l0_0.length c0_0,.int .i64 a0_1,.slice A0_2 l0_2.length c0_2,.int .i64 a0_3,.int .i64 a0_4]) (t := 27) ?hr ?_;(case hr => go_simp;try rfl);intro gb282 hg w7 hbox hb;have BK282 := am (hbox);have GE282 := am (ge_new (HB.out) hg);replace HB := am (below_step (HB.out) hb);clear hb hbox hg) | ((refine gate_dst (N := 3) rfl ?_);refine box_event rfl (N := 3) rfl (cs := #[.int .i64 a1_0,.int .i64 a1_1]) (t := 58) ?hr ?_;(case hr => go_simp;try rfl);intro gb283 hg w8 hbox hb;have BK283 := am (hbox);have GE283 := am (ge_new (HB.out) hg);have NB282_283 := am (ne_new BK282.out hg);have NB283_282 := am (ne_new2 BK282.out hg);replace BK282 := (kmv hb BK282);replace HB := am (below_step (HB.out) hb);clear hb hbox hg) | ((refine gate_dst (N := 4) rfl ?_);refine box_event rfl (N := 4) rfl (cs := #[.slice none 0 0,.int .i64 0,.slice none 0 0,.int .i64 0,.int .i64 0]) (t := 27) ?hr ?_;(case hr => go_simp;try rfl);intro gb284 hg w9 hbox hb;have BK284 := am (hbox);have GE284 := am (ge_new (HB.out) hg);have NB282_284 := am (ne_new BK282.out hg);have NB284_282 := am (ne_new2 BK282.out hg);have NB283_284 := am (ne_new BK283.out hg);have NB284_283 := am (ne_new2 BK283.out hg);replace BK282 := (kmv hb BK282);replace BK283 := (kmv hb BK283);replace HB := am (below_step (HB.out) hb);clear hb hbox hg;have hnb10 := NB282_283.out;have hnc10 := NB283_282.out;have hnb11 := NB282_284.out;have hnc11 := NB284_282.out;obtain ⟨hcz12_0,hcz12_1,hcz12_2,hcz12_3,hcz12_4⟩ := cO5 BK282.out;have hfz12_0 := blk_frozen BK282.out 0;have hfz12_1 := blk_frozen BK282.out 1;have hfz12_2 := blk_frozen BK282.out 2;have hfz12_3 := blk_frozen BK282.out 3;have hfz12_4 := blk_frozen BK282.out 4) | ((with_reducible refine gate_callee (f := 103) rfl ?_);refine goesL_ (some 7) rfl rfl Tryz.func103 (by kernel_rfl) rfl #[.slice A0_2 l0_2.length c0_2] rfl (by (try simp only [List.map_toArray,List.map_cons,List.map_nil]);first | done | rfl | (simp only [List.length_drop,List.length_take];rfl)) ?_;(refine (sl_Clone_Z.calls _ _ l0_2 t285 _ ?side1 ?side2 A3.out).mono ?_);(case side1 => exact kC HR0_2.out HB.out);(case side2 => exact HC0_2.out);rintro e w13 ⟨v286,rfl,ho0,hb⟩;refine ⟨_,rfl,?_⟩;have HO287 := am (Kd.R_lower ho0 (below_size (HB.out)));replace BK282 := (kmv hb BK282);replace BK283 := (kmv hb BK283);replace BK284 := (kmv hb BK284);replace HB := am (below_step (HB.out) hb);(try clear hb);(try clear hb2);(try clear hk);(try clear hi);(try clear ho0);obtain ⟨Ao14,co14,eo14⟩ := Kd.R_slice HO287.out;subst eo14;obtain ⟨hcz15_0,hcz15_1,hcz15_2,hcz15_3,hcz15_4⟩ := cO5 BK282.out;have hfz15_0 := blk_frozen BK282.out 0;have hfz15_1 := blk_frozen BK282.out 1;have hfz15_2 := blk_frozen BK282.out 2;have hfz15_3 := blk_frozen BK282.out 3;have hfz15_4 := blk_frozen BK282.out 4) | ((with_reducible refine gate_store (t := 25) (p := 8) rfl ?_);refine store_event (t := 25) (p := 8) (v := ?vo_w16) (w1 := (w13.setCell ⟨gb282,2,none⟩ (.slice Ao14 t285.length co14))) ?hg ?ho ?hn ?hr ?_;(case ho => rfl);(case hg => rfl);(case hn => rfl);(case hr => go_simp;try rfl);intro w16 hw;have n0_ : Aside0 (Kd.R k64 64 w16 w.heap.size (fun _ => True) (.slice Ao14 t285.length co14) t285) := ⟨(by rw [hw];exact (Kd.R_mono (Kd.R_far (p := ⟨gb282,2,none⟩) (Kd.R_types HO287.out BK282.out (by decide)) (fun _ hk => hk.2) (.slice Ao14 t285.length co14)) (fun _ hk => trivial)))⟩;have n1_ : Aside0 (w16.heap[gb282]? = some (.cells #[.slice A0_0 l0_0.length c0_0,.int .i64 a0_1,.slice Ao14 t285.length co14,.int .i64 a0_3,.int .i64 a0_4] 27 (0,0))) := ⟨(by rw [hw];exact (blk_put (cs := #[.slice A0_0 l0_0.length c0_0,.int .i64 a0_1,.slice A0_2 l0_2.length c0_2,.int .i64 a0_3,.int .i64 a0_4]) BK282.out 2 _ rfl))⟩;have n2_ : Aside0 (w16.heap[gb283]? = some (.cells #[.int .i64 a1_0,.int .i64 a1_1] 58 (0,0))) := ⟨(by rw [hw];exact (blk_far BK283.out NB283_282.out _))⟩;have n3_ : Aside0 (w16.heap[gb284]? = some (.cells #[.slice none 0 0,.int .i64 0,.slice none 0 0,.int .i64 0,.int .i64 0] 27 (0,0))) := ⟨(by rw [hw];exact (blk_far BK284.out NB284_282.out _))⟩;have n4_ : Aside0 (Below w.heap.size w w16) := ⟨(by rw [hw];exact (by repeat (first | (with_reducible first | exact HB.out | refine below_set ?_ (Aside0.out (by assumption)) | apply below_alloc | apply pw_below_drewN) | exact HB.out)))⟩;clear hw;clear HO287;clear BK282;clear BK283;clear BK284;clear HB;have HO287 := n0_;have BK282 := n1_;have BK283 := n2_;have BK284 := n3_;have HB := n4_;clear n0_ n1_ n2_ n3_ n4_;obtain ⟨hcz17_0,hcz17_1,hcz17_2,hcz17_3,hcz17_4⟩ := cO5 BK282.out;have hfz17_0 := blk_frozen BK282.out 0;have hfz17_1 := blk_frozen BK282.out 1;have hfz17_2 := blk_frozen BK282.out 2;have hfz17_3 := blk_frozen BK282.out 3;have hfz17_4 := blk_frozen BK282.out 4;have hnb18 := NB283_284.out;have hnc18 := NB284_283.out;obtain ⟨hcz19_0,hcz19_1⟩ := cO2 BK283.out;have p6 : 0 ≤ (a1_0 : Int) := of_decide_eq_true (by assumption);have q6 : (a1_0 : Int) < ((t285.length : Int) : Int) := of_decide_eq_true (by assumption);obtain ⟨go6,co6,eo6,gb6,gl6,cl6,HG6⟩ := Kd.R_form HO287.out (by omega);(first | cases eo6 | (injection eo6 with ea_ en_ ec_;(first | subst ea_ | (injection ea_ with ea_;subst ea_));subst ec_;clear en_));have GB6 := am gb6;have GG6 := am HG6;clear gb6 gl6 HG6;obtain ⟨ce6,hcl6,hM6,hcc6,hfr6⟩ := Kd.R_elem HO287.out z64 (a1_0 : Int) p6 q6;obtain rfl := k64_openM hM6;have hx6_0 : w16.cell? ⟨go6,(a1_0 : Int).toNat * 2,none⟩ = some (.int .i64 ((rd_T64 t285 a1_0).f0)) := hcc6 0 _ rfl;have hx6_1 : w16.cell? ⟨go6,(a1_0 : Int).toNat * 2 + 1,none⟩ = some (.int .i64 ((rd_T64 t285 a1_0).f1)) := hcc6 1 _ rfl;have hf6_0 : w16.frozen? ⟨go6,(a1_0 : Int).toNat * 2,none⟩ = false := hfr6 0;have hf6_1 : w16.frozen? ⟨go6,(a1_0 : Int).toNat * 2 + 1,none⟩ = false := hfr6 1;clear hcl6 hcc6 hfr6 hM6;replace p6 := eq_true p6;replace q6 := eq_true q6;have HX20 := am (show Kd.R k64 64 w16 w.heap.size (fun _ => True) (.slice (some ⟨go6,0,none⟩) t285.length co14) t285 from HO287.out);obtain ⟨ce20,hcl20,hM20,hcc20,hfr20⟩ := Kd.R_elem HX20.out z64 (a1_0 : Int) (of_decide_eq_true (by assumption)) (by have h_ : (a1_0 : Int) < ((t285.length : Int) : Int) := of_decide_eq_true (by assumption);first | exact h_ | (have e_ := (Kd.R_reads' HO287.out).1;omega) | simpa using h_);obtain rfl := k64_openM hM20;have HP20 := Kd.R_seg HX20.out (a1_0 : Int) (of_decide_eq_true (by assumption)) (by have h_ : (a1_0 : Int) < ((t285.length : Int) : Int) := of_decide_eq_true (by assumption);first | exact h_ | (have e_ := (Kd.R_reads' HO287.out).1;omega) | simpa using h_) (seg := [.int .i64 a1_1]) (j := 1) hcl20 hcc20 (show 2 ≤ 2 from by decide) (x' := (⟨(rd_T64 t285 a1_0).f0,a1_1⟩ : S64)) (k64_mkM _ _ _ (⟨(rd_T64 t285 a1_0).f0,a1_1⟩ : S64) ) (fun _ hk => hk);have hx20_1 := hcc20 1 _ rfl;(try simp only [show (k64).sz = 2 from rfl,Nat.mul_one,Nat.add_zero] at hx20_1);have hf20_1 := hfr20 1;(try simp only [show (k64).sz = 2 from rfl,Nat.mul_one,Nat.add_zero] at hf20_1);clear hcl20 hcc20 hfr20 hM20) | ((with_reducible refine gate_store (t := 3) (p := 16) rfl ?_);refine store_event (t := 3) (p := 16) (v := ?vo_w21) (w1 := (w16.setCell ⟨go6,(a1_0 : Int).toNat * 2 + 1,none⟩ (.int .i64 a1_1))) ?hg ?ho ?hn ?hr ?_;(case ho => rfl);(case hg => rfl);(case hn => rfl);(case hr => go_simp;try rfl);intro w21 hw;have hg : w16.grownBy w21 (some go6) := (by rw [hw];exact HP20.2);have hp_ : Kd.R k64 64 w21 w.heap.size (fun _ => True) (.slice (some ⟨go6,0,none⟩) t285.length co14) y288 := (by rw [hw,Ny288.out];exact HP20.1);clear HP20;replace BK282 := am (blk_grown (g := gb282) (o := .cells #[.slice A0_0 l0_0.length c0_0,.int .i64 a0_1,.slice (some ⟨go6,0,none⟩) t285.length co14,.int .i64 a0_3,.int .i64 a0_4] 27 (0,0)) BK282.out hg (Kd.R_ne HO287.out BK282.out (by decide)));replace BK283 := am (blk_grown (g := gb283) (o := .cells #[.int .i64 a1_0,.int .i64 a1_1] 58 (0,0)) BK283.out hg (Kd.R_ne HO287.out BK283.out (by decide)));replace BK284 := am (blk_grown (g := gb284) (o := .cells #[.slice none 0 0,.int .i64 0,.slice none 0 0,.int .i64 0,.int .i64 0] 27 (0,0)) BK284.out hg (Kd.R_ne HO287.out BK284.out (by decide)));replace HO287 := am (hp_);replace HB := am ((by rw [hw];exact below_set (HB.out) GB6.out : Below w.heap.size w w21));clear hg hw hp_;obtain ⟨hcz22_0,hcz22_1,hcz22_2,hcz22_3,hcz22_4⟩ := cO5 BK282.out;have hfz22_0 := blk_frozen BK282.out 0;have hfz22_1 := blk_frozen BK282.out 1;have hfz22_2 := blk_frozen BK282.out 2;have hfz22_3 := blk_frozen BK282.out 3;have hfz22_4 := blk_frozen BK282.out 4;obtain ⟨hcz23_0,hcz23_1,hcz23_2,hcz23_3,hcz23_4⟩ := cO5 BK284.out;have hfz23_0 := blk_frozen BK284.out 0;have hfz23_1 := blk_frozen BK284.out 1;have hfz23_2 := blk_frozen BK284.out 2;have hfz23_3 := blk_frozen BK284.out 3;have hfz23_4 := blk_frozen BK284.out 4))
 refine bodyPost_ret (results_cell_row rfl _ _ gb284 27 #[.slice A0_0 l0_0.length c0_0,.int .i64 a0_1,.slice (some ⟨go6,0,none⟩) t285.length co14,.int .i64 a0_3,.int .i64 a0_4] (0,0) _ rfl (blk_put (cs := #[.slice A0_0 l0_0.length c0_0,.int .i64 a0_1,.slice (some ⟨go6,0,none⟩) t285.length co14,.int .i64 a0_3,.int .i64 0]) (blk_put (cs := #[.slice A0_0 l0_0.length c0_0,.int .i64 a0_1,.slice (some ⟨go6,0,none⟩) t285.length co14,.int .i64 0,.int .i64 0]) (blk_put (cs := #[.slice A0_0 l0_0.length c0_0,.int .i64 a0_1,.slice none 0 0,.int .i64 0,.int .i64 0]) (blk_put (cs := #[.slice A0_0 l0_0.length c0_0,.int .i64 0,.slice none 0 0,.int .i64 0,.int .i64 0]) (blk_put (cs := #[.slice none 0 0,.int .i64 0,.slice none 0 0,.int .i64 0,.int .i64 0]) BK284.out 0 _ rfl) 1 _ rfl) 2 _ rfl) 3 _ rfl) 4 _ rfl) Tryz.underlying27 rfl (by kernel_rfl)) rfl ?_
 exact ⟨_,by first | rfl | (simp [*] <;> rfl),by (with_reducible repeat (first | apply Kd.R_alloc | apply Kd.R_drewN | apply Kd.R_drew));exact Kd.R_mono (Kd.R_far (p := ⟨gb284,4,none⟩) (Kd.R_far (p := ⟨gb284,3,none⟩) (Kd.R_far (p := ⟨gb284,2,none⟩) (Kd.R_far (p := ⟨gb284,1,none⟩) (Kd.R_far (p := ⟨gb284,0,none⟩) (Kd.R_types HO287.out BK284.out (by decide)) (fun _ hk => hk.2) (.slice A0_0 l0_0.length c0_0)) (fun _ hk => hk.2) (.int .i64 a0_1)) (fun _ hk => hk.2) (.slice (some ⟨go6,0,none⟩) t285.length co14)) (fun _ hk => hk.2) (.int .i64 a0_3)) (fun _ hk => hk.2) (.int .i64 a0_4)) (fun _ hk => trivial),by repeat (first | (with_reducible first | exact HB.out | refine below_set ?_ (Aside0.out (by assumption)) | apply below_alloc | apply pw_below_drewN) | exact HB.out)⟩
mutual
def ca_Gains.j0 : Nat → Int → Bool → List (S126) → Int → List (S64) → Int → Int → Int → Int → Option (List Int × Int × Int)
 | 0,_,_,_,_,_,_,_,_,_ => none
 | k + 1,x2,x37,x290000,x290001,x290002,x290003,x290004,x291000,x291001 => if x37 = true then (some (([] : List Int),0,2)) else ((ca_fill.f k x290000 x290001 x290002 x290003 x290004).bind fun bt307 => ((gf_shares.f k x290000 bt307.1 x290002 bt307.2.1 bt307.2.2.1 bt307.2.2.2 x2).bind fun bt313 => ((ca_changed.f x290000 x290001 x290002 x290003 x290004 x291000 x291001).bind fun t326 => ((ca_fill.f k x290000 x290001 t326 x290003 x290004).bind fun bt341 => ((gf_shares.f k x290000 bt341.1 t326 bt341.2.1 bt341.2.2.1 bt341.2.2.2 x2).bind fun bt347 => (ca_Gains.l0 k bt313.1 bt313.2 bt347.1 bt347.2 (bt347.1.length : Int) 0))))))
def ca_Gains.l0 : Nat → List Int → Int → List Int → Int → Int → Int → Option (List Int × Int × Int)
 | 0,_,_,_,_,_,_ => none
 | k + 1,x9,x10,x11,x12,x55,x56 => if x56 < x55 then (if 0 ≤ x56 then (if x56 < (x11.length : Int) then (if x56 < (x9.length : Int) then (ca_Gains.l0 k x9 x10 (x11.set (x56 : Int).toNat (wrap64 ((rd x11 x56) - (rd x9 x56)))) x12 x55 (wrap64 (x56 + 1))) else (none)) else (none)) else (none)) else (some (x11,wrap64 (x12 - x10),0))
end
def ca_Gains.f (k : Nat) (l0_0 : List (S126)) (a0_1 : Int) (l0_2 : List (S64)) (a0_3 : Int) (a0_4 : Int) (a1_0 : Int) (a1_1 : Int) (a2 : Int) : Option (List Int × Int × Int) := (ca_isBasin.f l0_0 a0_1 l0_2 a0_3 a0_4).bind fun t291 => (if t291 = true then ((ca_in.f a1_0 0 (wrap64 ((l0_2.length : Int) - 1))).bind fun t292 => (if t292 = true then ((ca_isHeight.f a1_1).bind fun t293 => (if t293 = true then ((ca_isFlow.f a2).bind fun t294 => (ca_Gains.j0 k a2 (!t294) l0_0 a0_1 l0_2 a0_3 a0_4 a1_0 a1_1)) else (ca_Gains.j0 k a2 true l0_0 a0_1 l0_2 a0_3 a0_4 a1_0 a1_1))) else (ca_Gains.j0 k a2 true l0_0 a0_1 l0_2 a0_3 a0_4 a1_0 a1_1))) else (ca_Gains.j0 k a2 true l0_0 a0_1 l0_2 a0_3 a0_4 a1_0 a1_1))
def ca_Gains.T8 : Bool × List (List Nat × List Nat) := (true,[([],[]),([],[]),([0,1],[0,1]),([2],[2]),([],[]),([],[]),([4,5],[4,5]),([6],[6]),([3,7],[3,7]),([0,1,0,1,2,3,4,5,6,7,8],[0,1]),([9,8,0,1,2,3,4,5,6,7,8],[8,9])])
def ca_Gains.B8 : List Nat := [0,0,3,7,0,0,48,112,255,511,1023]
theorem ca_Gains.tab8 : rtab .any (opsOf Tryz.f33 8) = ca_Gains.T8 := by kernel_rfl
theorem ca_Gains.bits8 : waitsOk ca_Gains.T8.2 ca_Gains.B8 = true := by kernel_rfl
theorem ca_Gains.calls (k : Nat) (A0_0 : Option Addr) (c0_0 : Nat) (l0_0 : List (S126)) (a0_1 : Int) (A0_2 : Option Addr) (c0_2 : Nat) (l0_2 : List (S64)) (a0_3 : Int) (a0_4 : Int) (a1_0 : Int) (a1_1 : Int) (a2 : Int) (r1 : List Int) (r2 : Int) (r3 : Int) (w : World) (hr0_0 : Kd.C k126 w A0_0 l0_0.length l0_0) (hc0_0 : l0_0.length ≤ c0_0) (hr0_2 : Kd.C k64 w A0_2 l0_2.length l0_2) (hc0_2 : l0_2.length ≤ c0_2) (h : ca_Gains.f k l0_0 a0_1 l0_2 a0_3 a0_4 a1_0 a1_1 a2 = some (r1,r2,r3)) (hz : r3 = 0) :
 Calls Tryz.prog 33 #[.agg #[.slice A0_0 l0_0.length c0_0,.int .i64 a0_1,.slice A0_2 l0_2.length c0_2,.int .i64 a0_3,.int .i64 a0_4],.agg #[.int .i64 a1_0,.int .i64 a1_1],.int .i64 a2] w fun e w' => ∃ v0_ : Value,e = .returned (.tuple #[v0_,.int .i64 r2,.int .i64 r3]) ∧ Kd.R (Kd.int .i64) 3 w' w.heap.size (fun _ => True) v0_ r1 ∧ Below w.heap.size w w' := by
 have hu27 := Tryz.underlying27
 have hu58 := Tryz.underlying58
 have HR0_0 := am hr0_0
 have HC0_0 := am hc0_0
 clear hr0_0 hc0_0
 have HR0_2 := am hr0_2
 have HC0_2 := am hc0_2
 clear hr0_2 hc0_2
 have HB := am (Below.refl w.heap.size w)
 have H : ((ca_isBasin.f l0_0 a0_1 l0_2 a0_3 a0_4).bind fun t291 => (if t291 = true then ((ca_in.f a1_0 0 (wrap64 ((l0_2.length : Int) - 1))).bind fun t292 => (if t292 = true then ((ca_isHeight.f a1_1).bind fun t293 => (if t293 = true then ((ca_isFlow.f a2).bind fun t294 => (ca_Gains.j0 k a2 (!t294) l0_0 a0_1 l0_2 a0_3 a0_4 a1_0 a1_1)) else (ca_Gains.j0 k a2 true l0_0 a0_1 l0_2 a0_3 a0_4 a1_0 a1_1))) else (ca_Gains.j0 k a2 true l0_0 a0_1 l0_2 a0_3 a0_4 a1_0 a1_1))) else (ca_Gains.j0 k a2 true l0_0 a0_1 l0_2 a0_3 a0_4 a1_0 a1_1))) = some (r1,r2,r3) := h
 clear h
 have HC4 := am H
 clear H
 go_enter Tryz.func33,Tryz.ntmps33
 go_upto_region 1 with (first | ((refine gate_dst (N := 3) rfl ?_);(try (refine gate_guard (by rfl) ?_;dsimp only));refine box_event rfl (N := 3) rfl (cs := #[.slice A0_0 l0_0.length c0_0,.int .i64 a0_1,.slice A0_2 l0_2.length c0_2,.int .i64 a0_3,.int .i64 a0_4]) (t := 27) ?hr ?_;(case hr => go_simp;try rfl);intro gb289 hg w5 hbox hb;have BK289 := am (hbox);have GE289 := am (ge_new (HB.out) hg);replace HB := am (below_step (HB.out) hb);clear hb hbox hg) | ((refine gate_dst (N := 4) rfl ?_);(try (refine gate_guard (by rfl) ?_;dsimp only));refine box_event rfl (N := 4) rfl (cs := #[.int .i64 a1_0,.int .i64 a1_1]) (t := 58) ?hr ?_;(case hr => go_simp;try rfl);intro gb290 hg w6 hbox hb;have BK290 := am (hbox);have GE290 := am (ge_new (HB.out) hg);have NB289_290 := am (ne_new BK289.out hg);have NB290_289 := am (ne_new2 BK289.out hg);replace BK289 := (kmv hb BK289);replace HB := am (below_step (HB.out) hb);clear hb hbox hg))
 (try simp only [Act.put,NR3])
 go_cut [37] (fun v37 wc => ∃ (kq : Nat) (x37_3 : Bool),v37 = .bool x37_3 ∧ Aside0 (ca_Gains.j0 kq a2 x37_3 l0_0 a0_1 l0_2 a0_3 a0_4 a1_0 a1_1 = some (r1,r2,r3)) ∧ Aside0 (kq ≤ k) ∧ Aside0 (wc.heap[gb289]? = some (.cells #[(.slice A0_0 l0_0.length c0_0),.int .i64 a0_1,(.slice A0_2 l0_2.length c0_2),.int .i64 a0_3,.int .i64 a0_4] 27 (0,0))) ∧ Aside0 (wc.heap[gb290]? = some (.cells #[.int .i64 a1_0,.int .i64 a1_1] 58 (0,0))) ∧ Aside0 (Below w.heap.size w wc))
 case first =>
  have H := HC4.out
  clear HC4
  replace H := obm H
  obtain ⟨t291,A70,H⟩ := H
  (try dsimp only at H)
  have A7 := am A70
  clear A70
  by_cases c8 : t291 = true
  case neg =>
   replace c8 := Bool.eq_false_iff.mpr c8
   subst c8
   have H1 : (ca_Gains.j0 k a2 true l0_0 a0_1 l0_2 a0_3 a0_4 a1_0 a1_1) = some (r1,r2,r3) := by rw [if_neg (show ¬ (false = true) by decide)] at H;exact H
   subst hz
   cases k <;> simp [ca_Gains.j0] at H1
  subst c8
  rw [if_pos rfl] at H
  replace H := obm H
  obtain ⟨t292,A90,H⟩ := H
  (try dsimp only at H)
  have A9 := am A90
  clear A90
  by_cases c10 : t292 = true
  case neg =>
   replace c10 := Bool.eq_false_iff.mpr c10
   subst c10
   have H1 : (ca_Gains.j0 k a2 true l0_0 a0_1 l0_2 a0_3 a0_4 a1_0 a1_1) = some (r1,r2,r3) := by rw [if_neg (show ¬ (false = true) by decide)] at H;exact H
   subst hz
   cases k <;> simp [ca_Gains.j0] at H1
  subst c10
  rw [if_pos rfl] at H
  replace H := obm H
  obtain ⟨t293,A110,H⟩ := H
  (try dsimp only at H)
  have A11 := am A110
  clear A110
  by_cases c12 : t293 = true
  case neg =>
   replace c12 := Bool.eq_false_iff.mpr c12
   subst c12
   have H1 : (ca_Gains.j0 k a2 true l0_0 a0_1 l0_2 a0_3 a0_4 a1_0 a1_1) = some (r1,r2,r3) := by rw [if_neg (show ¬ (false = true) by decide)] at H;exact H
   subst hz
   cases k <;> simp [ca_Gains.j0] at H1
  subst c12
  rw [if_pos rfl] at H
  replace H := obm H
  obtain ⟨t294,A130,H⟩ := H
  (try dsimp only at H)
  have A13 := am A130
  clear A130
  replace H' := am H
  have hnb14 := NB289_290.out
  have hnc14 := NB290_289.out
  obtain ⟨hcz15_0,hcz15_1,hcz15_2,hcz15_3,hcz15_4⟩ := cO5 BK289.out
  go_wp2_with (first | ((with_reducible refine gate_callee (f := 57) rfl ?_);refine goesL_ (some 15) rfl rfl Tryz.func57 (by kernel_rfl) rfl #[.agg #[.slice A0_0 l0_0.length c0_0,.int .i64 a0_1,.slice A0_2 l0_2.length c0_2,.int .i64 a0_3,.int .i64 a0_4]] rfl (by (try simp only [List.map_toArray,List.map_cons,List.map_nil]);first | done | rfl | (simp only [List.length_drop,List.length_take];rfl)) ?_;(refine (ca_isBasin.calls _ _ l0_0 a0_1 _ _ l0_2 a0_3 a0_4 true _ ?side1 ?side2 ?side3 ?side4 A7.out).mono ?_);(case side1 => exact kC HR0_0.out HB.out);(case side2 => exact HC0_0.out);(case side3 => exact kC HR0_2.out HB.out);(case side4 => exact HC0_2.out);rintro e w16 ⟨rfl,hb⟩;refine ⟨_,rfl,?_⟩;replace BK289 := (kmv hb BK289);replace BK290 := (kmv hb BK290);replace HB := am (below_step (HB.out) hb);(try clear hb);(try clear hb2);(try clear hk);(try clear hi);obtain ⟨hcz17_0,hcz17_1⟩ := cO2 BK290.out;obtain ⟨hcz18_0,hcz18_1,hcz18_2,hcz18_3,hcz18_4⟩ := cO5 BK289.out) | (go_at_call 73;(refine (ca_in.calls a1_0 0 (wrap64 ((l0_2.length : Int) - 1)) true _ A9.out).mono ?_);rintro e w' ⟨rfl,⟨nd,rfl⟩⟩) | (go_at_call 68;(refine (ca_isHeight.calls a1_1 true _ A11.out).mono ?_);rintro e w' ⟨rfl,⟨nd,rfl⟩⟩) | (go_at_call 58;(refine (ca_isFlow.calls a2 t294 _ A13.out).mono ?_);rintro e w' ⟨rfl,⟨nd,rfl⟩⟩))
  go_meet
  case rel => exact ⟨_,(!t294),(by first | rfl | (simp;done) | (simp [*];done)),H',⟨by first | omega | exact Nat.le_refl _⟩,⟨BK289.out⟩,⟨BK290.out⟩,⟨pw_below_drewN HB.out _⟩⟩
 case rest =>
  clear HC4
  obtain ⟨kq,x37_3,rfl,HA,HJ3,BK289,BK290,HB⟩ := hcut
  cases kq with
  | zero => exact absurd HA.out (by simp [ca_Gains.j0])
  | succ kj3 =>
   have H := HA.out
   clear HA
   simp only [ca_Gains.j0] at H
   by_cases c32 : x37_3 = true
   · subst c32
     have H1 : (some (([] : List Int),0,2)) = some (r1,r2,r3) := by rw [if_pos rfl] at H;exact H
     subst hz
     simp at H1
   · replace c32 := Bool.eq_false_iff.mpr c32
     subst c32
     rw [if_neg (show ¬ (false = true) by decide)] at H
     replace H := obm H
     obtain ⟨⟨t307,t308,t309,t310⟩,A330,H⟩ := H
     (try dsimp only at H)
     have A33 := am A330
     clear A330
     replace H := obm H
     obtain ⟨⟨t313,t316⟩,A340,H⟩ := H
     (try dsimp only at H)
     have A34 := am A340
     clear A340
     replace H := obm H
     obtain ⟨t326,A350,H⟩ := H
     (try dsimp only at H)
     have A35 := am A350
     clear A350
     replace H := obm H
     obtain ⟨⟨t341,t342,t343,t344⟩,A360,H⟩ := H
     (try dsimp only at H)
     have A36 := am A360
     clear A360
     replace H := obm H
     obtain ⟨⟨t347,t350⟩,A370,H⟩ := H
     (try dsimp only at H)
     have A37 := am A370
     clear A370
     replace H' := am H
     have hnb38 := NB289_290.out
     have hnc38 := NB290_289.out
     obtain ⟨hcz39_0,hcz39_1,hcz39_2,hcz39_3,hcz39_4⟩ := cO5 BK289.out
     go_wp2_with (first | ((with_reducible refine gate_callee (f := 59) rfl ?_);refine goesL_ (some 40) rfl rfl Tryz.func59 (by kernel_rfl) rfl #[.agg #[.slice A0_0 l0_0.length c0_0,.int .i64 a0_1,.slice A0_2 l0_2.length c0_2,.int .i64 a0_3,.int .i64 a0_4]] rfl (by (try simp only [List.map_toArray,List.map_cons,List.map_nil]);first | done | rfl | (simp only [List.length_drop,List.length_take];rfl)) ?_;(refine (ca_fill.calls kj3 _ _ l0_0 a0_1 _ _ l0_2 a0_3 a0_4 t307 t308 t309 t310 _ ?side1 ?side2 ?side3 ?side4 A33.out).mono ?_);(case side1 => exact kC HR0_0.out HB.out);(case side2 => exact HC0_0.out);(case side3 => exact kC HR0_2.out HB.out);(case side4 => exact HC0_2.out);rintro e w40 ⟨v311,rfl,ho0,hb⟩;refine ⟨_,rfl,?_⟩;have HO312 := am (Kd.S_lower ho0 (below_size (HB.out)));replace BK289 := (kmv hb BK289);replace BK290 := (kmv hb BK290);replace HB := am (below_step (HB.out) hb);(try clear hb);(try clear hb2);(try clear hk);(try clear hi);(try clear ho0);obtain ⟨Ao41,co41,eo41⟩ := Kd.S_slice HO312.out;subst eo41) | ((with_reducible refine gate_callee (f := 60) rfl ?_);refine goesL_ (some 42) rfl rfl Tryz.func60 (by kernel_rfl) rfl #[.agg #[.slice A0_0 l0_0.length c0_0,.int .i64 t307,.slice A0_2 l0_2.length c0_2,.int .i64 t308,.int .i64 t309,.slice Ao41 t310.length co41],.int .i64 a2] rfl (by (try simp only [List.map_toArray,List.map_cons,List.map_nil]);first | done | rfl | (simp only [List.length_drop,List.length_take];rfl)) ?_;(refine (gf_shares.calls kj3 _ _ l0_0 t307 _ _ l0_2 t308 t309 _ _ t310 a2 t313 t316 _ ?side1 ?side2 ?side3 ?side4 ?side5 ?side6 A34.out).mono ?_);(case side1 => exact kC HR0_0.out HB.out);(case side2 => exact HC0_0.out);(case side3 => exact kC HR0_2.out HB.out);(case side4 => exact HC0_2.out);(case side5 => repeat (first | exact (Kd.S_reads' HO312.out).2.2 | (with_reducible refine Kd.C_alloc ?_ _) | (with_reducible refine Kd.C_drewN ?_ _) | (with_reducible refine Kd.C_drew ?_)));(case side6 => exact (Kd.S_reads' HO312.out).2.1);rintro e w42 ⟨v314,rfl,ho0,hb⟩;refine ⟨_,rfl,?_⟩;have HO315 := am (Kd.R_lower ho0 (below_size (HB.out)));replace HO312 := am (Kd.S_elder' HO312.out (Kd.R_base ho0) hb);replace BK289 := (kmv hb BK289);replace BK290 := (kmv hb BK290);replace HB := am (below_step (HB.out) hb);(try clear hb);(try clear hb2);(try clear hk);(try clear hi);(try clear ho0);obtain ⟨hcz43_0,hcz43_1,hcz43_2,hcz43_3,hcz43_4⟩ := cO5 BK289.out;obtain ⟨hcz44_0,hcz44_1⟩ := cO2 BK290.out) | ((with_reducible refine gate_callee (f := 74) rfl ?_);refine goesL_ (some 48) rfl rfl Tryz.func74 (by kernel_rfl) rfl #[.agg #[.slice A0_0 l0_0.length c0_0,.int .i64 a0_1,.slice A0_2 l0_2.length c0_2,.int .i64 a0_3,.int .i64 a0_4],.agg #[.int .i64 a1_0,.int .i64 a1_1]] rfl (by (try simp only [List.map_toArray,List.map_cons,List.map_nil]);first | done | rfl | (simp only [List.length_drop,List.length_take];rfl)) ?_;(refine (ca_changed.calls _ _ l0_0 a0_1 _ _ l0_2 a0_3 a0_4 a1_0 a1_1 t326 _ ?side1 ?side2 ?side3 ?side4 A35.out).mono ?_);(case side1 => exact kC HR0_0.out HB.out);(case side2 => exact HC0_0.out);(case side3 => exact kC HR0_2.out HB.out);(case side4 => exact HC0_2.out);rintro e w45 ⟨v327,rfl,ho0,hb⟩;refine ⟨_,rfl,?_⟩;have HO328 := am (Kd.R_lower ho0 (below_size (HB.out)));replace HO312 := am (Kd.S_below HO312.out hb);replace HO315 := am (Kd.R_below HO315.out hb);replace BK289 := (kmv hb BK289);replace BK290 := (kmv hb BK290);replace HB := am (below_step (HB.out) hb);(try clear hb);(try clear hb2);(try clear hk);(try clear hi);(try clear ho0);obtain ⟨Ao46,co46,eo46⟩ := Kd.R_slice HO328.out;subst eo46) | ((with_reducible refine gate_callee (f := 59) rfl ?_);refine goesL_ (some 49) rfl rfl Tryz.func59 (by kernel_rfl) rfl #[.agg #[.slice A0_0 l0_0.length c0_0,.int .i64 a0_1,.slice Ao46 t326.length co46,.int .i64 a0_3,.int .i64 a0_4]] rfl (by (try simp only [List.map_toArray,List.map_cons,List.map_nil]);first | done | rfl | (simp only [List.length_drop,List.length_take];rfl)) ?_;(refine (ca_fill.calls kj3 _ _ l0_0 a0_1 _ _ t326 a0_3 a0_4 t341 t342 t343 t344 _ ?side1 ?side2 ?side3 ?side4 A36.out).mono ?_);(case side1 => exact kC HR0_0.out HB.out);(case side2 => exact HC0_0.out);(case side3 => repeat (first | exact (Kd.R_reads' HO328.out).2.2 | (with_reducible refine Kd.C_alloc ?_ _) | (with_reducible refine Kd.C_drewN ?_ _) | (with_reducible refine Kd.C_drew ?_)));(case side4 => exact (Kd.R_reads' HO328.out).2.1);rintro e w47 ⟨v345,rfl,ho0,hb⟩;refine ⟨_,rfl,?_⟩;have HO346 := am (Kd.S_lower (Kd.S_new' (Kd.S_new' ho0 (Kd.S_lt HO312.out)) (Kd.R_lt HO315.out)) (below_size (HB.out)));replace HO312 := am (Kd.S_elder' HO312.out (Kd.S_base ho0) hb);replace HO315 := am (Kd.R_below HO315.out hb);replace HO328 := am (Kd.R_below HO328.out hb);replace BK289 := (kmv hb BK289);replace BK290 := (kmv hb BK290);replace HB := am (below_step (HB.out) hb);(try clear hb);(try clear hb2);(try clear hk);(try clear hi);(try clear ho0);obtain ⟨Ao48,co48,eo48⟩ := Kd.S_slice HO346.out;subst eo48) | ((with_reducible refine gate_callee (f := 60) rfl ?_);refine goesL_ (some 51) rfl rfl Tryz.func60 (by kernel_rfl) rfl #[.agg #[.slice A0_0 l0_0.length c0_0,.int .i64 t341,.slice Ao46 t326.length co46,.int .i64 t342,.int .i64 t343,.slice Ao48 t344.length co48],.int .i64 a2] rfl (by (try simp only [List.map_toArray,List.map_cons,List.map_nil]);first | done | rfl | (simp only [List.length_drop,List.length_take];rfl)) ?_;(refine (gf_shares.calls kj3 _ _ l0_0 t341 _ _ t326 t342 t343 _ _ t344 a2 t347 t350 _ ?side1 ?side2 ?side3 ?side4 ?side5 ?side6 A37.out).mono ?_);(case side1 => exact kC HR0_0.out HB.out);(case side2 => exact HC0_0.out);(case side3 => repeat (first | exact (Kd.R_reads' HO328.out).2.2 | (with_reducible refine Kd.C_alloc ?_ _) | (with_reducible refine Kd.C_drewN ?_ _) | (with_reducible refine Kd.C_drew ?_)));(case side4 => exact (Kd.R_reads' HO328.out).2.1);(case side5 => repeat (first | exact (Kd.S_reads' HO346.out).2.2 | (with_reducible refine Kd.C_alloc ?_ _) | (with_reducible refine Kd.C_drewN ?_ _) | (with_reducible refine Kd.C_drew ?_)));(case side6 => exact (Kd.S_reads' HO346.out).2.1);rintro e w49 ⟨v348,rfl,ho0,hb⟩;refine ⟨_,rfl,?_⟩;have HO349 := am (Kd.R_lower (Kd.R_new' ho0 (Kd.R_lt HO315.out)) (below_size (HB.out)));replace HO312 := am (Kd.S_elder' HO312.out (Kd.R_base ho0) hb);replace HO315 := am (Kd.R_elder' HO315.out (Kd.R_base ho0) hb);replace HO328 := am (Kd.R_below HO328.out hb);replace HO346 := am (Kd.S_elder' HO346.out (Kd.R_base ho0) hb);replace BK289 := (kmv hb BK289);replace BK290 := (kmv hb BK290);replace HB := am (below_step (HB.out) hb);(try clear hb);(try clear hb2);(try clear hk);(try clear hi);(try clear ho0);obtain ⟨Ao50,co50,eo50⟩ := Kd.R_slice HO349.out;subst eo50))
     go_loopg [56] kj3 (fun kq v56 w' => ∃ (x11_2 : List Int) (x56_2 : Int),v56 = .int .i64 x56_2 ∧ Aside0 (ca_Gains.l0 kq t313 t316 x11_2 t350 (t347.length : Int) x56_2 = some (r1,r2,r3)) ∧ Aside0 (kq ≤ kj3) ∧ Aside0 (Kd.R (Kd.int .i64) 3 w' w.heap.size (fun k_ => some k_ ≠ ((.slice Ao50 t347.length co50) : Value).ownBlock) v314 t313) ∧ Aside0 (Kd.R (Kd.int .i64) 3 w' w.heap.size (fun k_ => some k_ ≠ (v314 : Value).ownBlock) (.slice Ao50 t347.length co50) x11_2) ∧ Aside0 (w'.heap[gb289]? = some (.cells #[(.slice A0_0 l0_0.length c0_0),.int .i64 a0_1,(.slice A0_2 l0_2.length c0_2),.int .i64 a0_3,.int .i64 a0_4] 27 (0,0))) ∧ Aside0 (w'.heap[gb290]? = some (.cells #[.int .i64 a1_0,.int .i64 a1_1] 58 (0,0))) ∧ Aside0 (Below w.heap.size w w'))
     case atStart => exact ⟨(t347),(0),(by first | rfl | (simp;done) | (simp [*];done)),H',⟨Nat.le_refl _⟩,⟨by (with_reducible repeat (first | apply Kd.R_alloc | apply Kd.R_drewN | apply Kd.R_drew));exact Kd.R_mono HO315.out (fun _ hk => hk.2)⟩,⟨by (with_reducible repeat (first | apply Kd.R_alloc | apply Kd.R_drewN | apply Kd.R_drew));exact Kd.R_mono HO349.out (fun _ hk => hk.2)⟩,⟨BK289.out⟩,⟨BK290.out⟩,⟨HB.out⟩⟩
     case round =>
      clear H'
      obtain ⟨x11_2,x56_2,rfl,HA,HK2,HO_9,HO_11,BK289,BK290,HB⟩ := hrel
      have hl11_2 := (Kd.R_reads' HO_11.out).1
      rw [hl11_2] at HO_11
      (try simp only [hl11_2])
      (try simp only [hl11_2] at BK289)
      (try simp only [hl11_2] at BK290)
      (try simp only [hl11_2] at HO_9)
      cases gk with
      | zero => exact absurd HA.out (by simp [ca_Gains.l0])
      | succ k2 =>
       have H := HA.out
       clear HA
       simp only [ca_Gains.l0] at H
       by_cases c51 : x56_2 < (t347.length : Int)
       case neg =>
        rw [if_neg c51] at H
        have c51b0 : decide (x56_2 < (t347.length : Int)) = false := decide_eq_false c51
        (try simp only [hl11_2] at c51b0)
        clear c51
        simp only [Option.some.injEq,Prod.mk.injEq] at H
        obtain ⟨rfl,rfl,rfl⟩ := H
        go_wp2
        go_ret3
        exact ⟨_,by first | rfl | (simp [*] <;> rfl),by (with_reducible repeat (first | apply Kd.R_alloc | apply Kd.R_drewN | apply Kd.R_drew));exact Kd.R_mono HO_11.out (fun _ hk => trivial),HB.out⟩
       rw [if_pos c51] at H
       have c51b0 : decide (x56_2 < (t347.length : Int)) = true := decide_eq_true c51
       (try simp only [hl11_2] at c51b0)
       clear c51
       by_cases c52 : 0 ≤ x56_2
       case neg =>
        rw [if_neg c52] at H
        exact absurd H (by simp)
       rw [if_pos c52] at H
       have c52b0 : decide (0 ≤ x56_2) = true := decide_eq_true c52
       clear c52
       by_cases c53 : x56_2 < (x11_2.length : Int)
       case neg =>
        rw [if_neg c53] at H
        exact absurd H (by simp)
       rw [if_pos c53] at H
       have c53b0 : decide (x56_2 < (x11_2.length : Int)) = true := decide_eq_true c53
       (try simp only [hl11_2] at c53b0)
       clear c53
       by_cases c54 : x56_2 < (t313.length : Int)
       case neg =>
        rw [if_neg c54] at H
        exact absurd H (by simp)
       rw [if_pos c54] at H
       have c54b0 : decide (x56_2 < (t313.length : Int)) = true := decide_eq_true c54
       (try simp only [hl11_2] at c54b0)
       clear c54
       obtain ⟨y353,hy353⟩ : ∃ y_ : List Int,y_ = (x11_2.set (x56_2 : Int).toNat (wrap64 ((rd x11_2 x56_2) - (rd t313 x56_2)))) := ⟨_,rfl⟩
       replace H : (ca_Gains.l0 k2 t313 t316 y353 t350 (t347.length : Int) (wrap64 (x56_2 + 1))) = some (r1,r2,r3) := by first | (rw [hy353];with_reducible exact H) | (have H2_ := (Option.bind_some _ _).symm.trans H;rw [hy353];with_reducible exact H2_) | (have H2_ := (Option.bind_some _ _).symm.trans H;with_reducible exact H2_) | with_reducible exact H | (rw [hy353];exact H) | exact H
       have Ny353 := am hy353
       clear hy353
       replace H' := am H
       try go_wp2
       replace HO_9 := am (Kd.R_drew HO_9.out)
       replace HO_11 := am (Kd.R_drew HO_11.out)
       replace BK289 := am (blk_drew BK289.out)
       replace BK290 := am (blk_drew BK290.out)
       replace HB := am (below_drew1 HB.out)
       have p351 : 0 ≤ (x56_2 : Int) := of_decide_eq_true (by assumption)
       have q351 : x56_2 < (x11_2.length : Int) := of_decide_eq_true (by assumption)
       obtain ⟨ad351,e351,hx351_0⟩ := Kd.at_int (Kd.R_reads' HO_11.out).2.2 x56_2 p351 q351
       cases e351
       replace p351 := eq_true p351
       replace q351 := eq_true q351
       obtain ⟨Ao57,co57,eo57⟩ := Kd.R_slice HO_9.out
       (first | subst eo57 | (injection eo57 with f1_ f2_ f3_;have f4_ := f1_.symm;have f5_ := f3_.symm;clear f1_ f2_ f3_;subst f4_;subst f5_))
       have p352 : 0 ≤ (x56_2 : Int) := of_decide_eq_true (by assumption)
       have q352 : x56_2 < (t313.length : Int) := of_decide_eq_true (by assumption)
       obtain ⟨ad352,e352,hx352_0⟩ := Kd.at_int (Kd.R_reads' HO_9.out).2.2 x56_2 p352 q352
       cases e352
       replace p352 := eq_true p352
       replace q352 := eq_true q352
       have p55 : 0 ≤ (x56_2 : Int) := of_decide_eq_true (by assumption)
       have q55 : (x56_2 : Int) < ((x11_2.length : Int) : Int) := of_decide_eq_true (by assumption)
       obtain ⟨go55,co55,eo55,gb55,gl55,cl55,HG55⟩ := Kd.R_form HO_11.out (by omega)
       (first | cases eo55 | (injection eo55 with ea_ en_ ec_;(first | subst ea_ | (injection ea_ with ea_;subst ea_));subst ec_;clear en_))
       have GB55 := am gb55
       have GG55 := am HG55
       clear gb55 gl55 HG55
       (first | simp only [add_plain] at hx351_0 | skip)
       obtain ⟨hx55_0,hf55_0⟩ := Kd.R_celln 0 HO_11.out (x56_2 : Int) p55 q55
       replace p55 := eq_true p55
       replace q55 := eq_true q55
       have HP58 := Kd.R_putn HO_11.out (x56_2 : Int) (wrap64 ((rd x11_2 x56_2) - (rd t313 x56_2)))
       rw [← Ny353.out] at HP58
       have HQ58 := am HP58
       clear HP58
       refine start_ (n := 11) (S := fun w' => w'.cell? ⟨go55,(x56_2).toNat,none⟩ = some (.int .i64 (rd x11_2 x56_2)) ∧ w'.cell? (ad352.add (x56_2).toNat) = some (.int .i64 (rd t313 x56_2))) (ds := [10]) (ba 11 0) (by kernel_rfl) rfl rfl ⟨hx351_0,hx352_0⟩ (fun hHeld => ?_);refine with_tabW ca_Gains.tab8 ca_Gains.bits8 (fun HT_ HW_ => ?_)
       generalize wr.drew = w56 at HO_9 HO_11 BK289 BK290 HB GG55 HQ58 hf55_0 hx351_0 hx352_0 hx55_0 hHeld ⊢
       refine pure_ (i := 0) (N := some 59) (v := ?_) (a' := ?_) (ba 11 1) rfl rfl (any_of HT_.out (by kernel_rfl)) (fun _ _ _ h => h) (Or.inl ⟨by rfl,?_⟩) ?_ ?_
       rotate_left
       · intro w'
         go_simp
         with_reducible rfl
       rotate_left
       · simp only [Act.put,NRM]
         rfl
       refine pure_ (i := 1) (N := some 60) (v := ?_) (a' := ?_) (ba 11 3) rfl rfl (any_of HT_.out (by kernel_rfl)) (fun _ _ _ h => h) (Or.inl ⟨by rfl,?_⟩) ?_ ?_
       rotate_left
       · intro w'
         go_simp
         with_reducible rfl
       rotate_left
       · simp only [Act.put,NRM]
         rfl
       refine pure_ (i := 2) (N := some 61) (v := ?_) (a' := ?_) (ba 11 7) rfl rfl (any_of HT_.out (by kernel_rfl)) (fun _ _ _ h => h) (Or.inl ⟨by rfl,?_⟩) ?_ ?_
       rotate_left
       · intro w'
         go_simp
         with_reducible rfl
       rotate_left
       · simp only [Act.put,NRM]
         rfl
       refine pure_ (i := 4) (N := some 63) (v := ?_) (a' := ?_) (ba 11 23) rfl rfl (any_of HT_.out (by kernel_rfl)) (fun _ _ _ h => h) (Or.inl ⟨by rfl,?_⟩) ?_ ?_
       rotate_left
       · intro w'
         go_simp
         with_reducible rfl
       rotate_left
       · simp only [Act.put,NRM]
         rfl
       refine pure_ (i := 5) (N := some 64) (v := ?_) (a' := ?_) (ba 11 55) rfl rfl (any_of HT_.out (by kernel_rfl)) (fun _ _ _ h => h) (Or.inl ⟨by rfl,?_⟩) ?_ ?_
       rotate_left
       · intro w'
         go_simp
         with_reducible rfl
       rotate_left
       · simp only [Act.put,NRM]
         rfl
       refine pure_ (i := 6) (N := some 65) (v := ?_) (a' := ?_) (ba 11 119) rfl rfl (any_of HT_.out (by kernel_rfl)) (fun _ _ _ h => h) (Or.inl ⟨by rfl,?_⟩) ?_ ?_
       rotate_left
       · intro w'
         go_simp
         with_reducible rfl
       rotate_left
       · simp only [Act.put,NRM]
         rfl
       refine take_ (i := 3) (N := some 62) (v := ?_) (a' := ?_) (ba 11 127) rfl rfl (take_ofW HT_.out HW_.out (by kernel_rfl)) (fun _ _ _ h => h) (Or.inl ⟨by rfl,?_⟩) hHeld ?_ ?_
       rotate_left
       · rintro w' ⟨s0,s1⟩
         go_simp
         with_reducible rfl
       rotate_left
       · simp only [Act.put,NRM]
         rfl
       refine take_ (i := 7) (N := some 66) (v := ?_) (a' := ?_) (ba 11 255) rfl rfl (take_ofW HT_.out HW_.out (by kernel_rfl)) (fun _ _ _ h => h) (Or.inl ⟨by rfl,?_⟩) hHeld ?_ ?_
       rotate_left
       · rintro w' ⟨s0,s1⟩
         go_simp
         with_reducible rfl
       rotate_left
       · simp only [Act.put,NRM]
         rfl
       refine pure_ (i := 8) (N := some 67) (v := ?_) (a' := ?_) (ba 11 511) rfl rfl (any_of HT_.out (by kernel_rfl)) (fun _ _ _ h => h) (Or.inl ⟨by rfl,?_⟩) ?_ ?_
       rotate_left
       · intro w'
         go_simp
         with_reducible rfl
       rotate_left
       · simp only [Act.put,NRM]
         rfl
       refine pure_ (i := 9) (N := some 68) (v := ?_) (a' := ?_) (ba 11 1023) rfl rfl (any_of HT_.out (by kernel_rfl)) (fun _ _ _ h => h) (Or.inl ⟨by rfl,?_⟩) ?_ ?_
       rotate_left
       · intro w'
         go_simp
         with_reducible rfl
       rotate_left
       · simp only [Act.put,NRM]
         rfl
       refine last_ (i := 10) (N := none) (ba 11 2047) rfl rfl (one_of HT_.out (by kernel_rfl)) (by decide) (fun K hK => ?_)
       refine skip_ (w1 := ?_) (by rfl) rfl ?_ ?_
       rotate_left
       · go_simp
         rfl
       refine hK.out _ _ ?_
       clear hK K
       refine done_ (done_of HT_.out (by kernel_rfl)) ?_
       try go_wp2
       (try simp only [← hl11_2])
       go_roundg k2
       case measure => have := HJ3.out;have := HK2.out;omega
       case rel => exact ⟨(y353),(wrap64 (x56_2 + 1)),(by first | rfl | (simp;done) | (simp [*];done)),H',⟨by have := HJ3.out;have := HK2.out;omega⟩,⟨by (try simp only [hl11_2]);(with_reducible repeat (first | apply Kd.R_alloc | apply Kd.R_drewN | apply Kd.R_drew));exact Kd.R_mono (Kd.R_far (p := ⟨go55,(x56_2 : Int).toNat,none⟩) (Kd.R_mono HO_9.out (fun k_ hk => (⟨hk,fun e_ => hk (by rw [e_];rfl)⟩ : _ ∧ k_ ≠ go55))) (fun _ hk => hk.2) (.int .i64 (wrap64 ((rd x11_2 x56_2) - (rd t313 x56_2))))) (fun _ hk => hk.1)⟩,⟨by (try simp only [hl11_2]);(with_reducible repeat (first | apply Kd.R_alloc | apply Kd.R_drewN | apply Kd.R_drew));exact HQ58.out⟩,⟨by (try simp only [hl11_2]);(with_reducible repeat (first | refine blk_drewN ?_ _ | refine blk_drew ?_ | refine blk_alloc ?_ _));refine blk_far ?_ (by have h_ := Kd.R_ne HO_11.out BK289.out (by decide);intro e_;exact h_ (by rw [e_];rfl)) _;(with_reducible repeat (first | refine blk_drewN ?_ _ | refine blk_drew ?_ | refine blk_alloc ?_ _));exact BK289.out⟩,⟨by (try simp only [hl11_2]);(with_reducible repeat (first | refine blk_drewN ?_ _ | refine blk_drew ?_ | refine blk_alloc ?_ _));refine blk_far ?_ (by have h_ := Kd.R_ne HO_11.out BK290.out (by decide);intro e_;exact h_ (by rw [e_];rfl)) _;(with_reducible repeat (first | refine blk_drewN ?_ _ | refine blk_drew ?_ | refine blk_alloc ?_ _));exact BK290.out⟩,⟨by repeat (first | (with_reducible first | exact HB.out | refine below_set ?_ (Aside0.out (by assumption)) | apply below_alloc | apply pw_below_drewN) | exact HB.out)⟩⟩
def ca_Lowered_1.f (a0_0 : Int) (a0_1 : Int) : Option (Bool) := (isSpan_isFlow.f a0_0 a0_1).bind fun t996 => (some (!t996))
theorem ca_Lowered_1.calls (a0_0 : Int) (a0_1 : Int) (r : Bool) (w : World) (h : ca_Lowered_1.f a0_0 a0_1 = some r) :
 Calls Tryz.prog 83 #[.agg #[.int .i64 a0_0,.int .i64 a0_1]] w fun e w' => e = .returned (.bool r) ∧ Below w.heap.size w w' := by
 have hu40 := Tryz.underlying40
 have HB := am (Below.refl w.heap.size w)
 have H : ((isSpan_isFlow.f a0_0 a0_1).bind fun t996 => (some (!t996))) = some r := h
 clear h
 replace H := obm H
 obtain ⟨t996,A20,H⟩ := H
 (try dsimp only at H)
 have A2 := am A20
 clear A20
 obtain rfl := Option.some.inj H
 go_enter Tryz.func83,Tryz.ntmps83
 go_wp2_with (first | ((refine gate_dst (N := 1) rfl ?_);refine box_event rfl (N := 1) rfl (cs := #[.int .i64 a0_0,.int .i64 a0_1]) (t := 40) ?hr ?_;(case hr => go_simp;try rfl);intro gb995 hg w3 hbox hb;have BK995 := am (hbox);have GE995 := am (ge_new (HB.out) hg);replace HB := am (below_step (HB.out) hb);clear hb hbox hg;obtain ⟨hcz4_0,hcz4_1⟩ := cO2 BK995.out) | ((with_reducible refine gate_callee (f := 66) rfl ?_);refine goesL_ (some 4) rfl rfl Tryz.func66 (by kernel_rfl) rfl #[.agg #[.int .i64 a0_0,.int .i64 a0_1],.func (.func 58) #[] #[]] rfl (by (try simp only [List.map_toArray,List.map_cons,List.map_nil]);first | done | rfl | (simp only [List.length_drop,List.length_take];rfl)) ?_;(with_reducible refine (isSpan_isFlow.calls a0_0 a0_1  t996 _ A2.out).mono ?_);rintro e w5 ⟨rfl,hb⟩;refine ⟨_,rfl,?_⟩;replace BK995 := am (blk_below (g := gb995) (o := .cells #[.int .i64 a0_0,.int .i64 a0_1] 40 (0,0)) (by (with_reducible repeat (first | refine blk_drewN ?_ _ | refine blk_drew ?_ | refine blk_alloc ?_ _));exact BK995.out) hb);replace HB := am (below_step (HB.out) hb);(try clear hb);(try clear hb2);(try clear hk);(try clear hi)))
 go_ret
 exact ⟨by first | rfl | (simp [*] <;> rfl),HB.out⟩
end
def Pred_Lowered (q : S40 → Option Bool) (w : World) (xs : List S40) : Prop := ∀ (x : S40) (b : Bool) (W : World) , x ∈ xs → q x = some b → Below w.heap.size w W → 
 Calls Tryz.prog 83 #[.agg #[.int .i64 x.f0,.int .i64 x.f1]] W fun e W' => e = .returned (.bool b) ∧ Below W.heap.size W W'
theorem idx_Lowered (q : S40 → Option Bool) (A : Option Addr) (c : Nat) (xs : List S40) (r : Int) (w : World) (hr : Kd.C k40 w A xs.length xs) (hp : Pred_Lowered q w xs) (h : idxM q xs 0 = some r) :
 Calls Tryz.prog 107 #[.slice A xs.length c,.func (.func 83) #[] #[]] w fun e w' => e = .returned (.int .i64 r) ∧ Below w.heap.size w w' := by
 have huE := Tryz.underlying40
 have HR := am hr
 have HP := am hp
 have HQ := am (show idxM q (xs.drop (0 : Int).toNat) 0 = some r from h)
 have hm : xs.length ≤ 9223372036854775807 := Kd.C_max hr
 clear hr hp h
 go_enter Tryz.func107,Tryz.ntmps107
 go_wp2
 go_loopw [5,8] (fun v5 v8 w' => ∃ i : Int,0 ≤ i ∧ i ≤ xs.length ∧ v8 = .int .i64 i ∧ Aside0 (idxM q (xs.drop i.toNat) i = some r) ∧ Aside0 (Below w.heap.size w w')) (fun _ v8 _ => xs.length - (intOf v8).toNat)
 case atStart => exact ⟨0,by omega,by omega,rfl,HQ,⟨Below.refl _ _⟩⟩
 case round =>
  clear HQ
  obtain ⟨i,p1,hi,rfl,HQ,HB⟩ := hrel
  by_cases hlt : i < (xs.length : Int)
  case neg =>
   go_wp2
   go_ret
   exact ⟨ret_int_eq (idxM_end (by omega) HQ.out),HB.out⟩
  obtain ⟨ad,e1,hx0,hx1⟩ := at_T40 HR.out i p1 hlt
  cases e1
  replace hx0 := (HB.out.cell (wbl hx0)).trans hx0
  replace hx1 := (HB.out.cell (wbl hx1)).trans hx1
  rcases idxM_step z40 p1 hlt HQ.out with ⟨hq,he⟩ | ⟨hq,hn⟩
  · have H1 := am hq
    have X1 := am (getD_mem z40 p1 hlt)
    have H2 := am he
    clear hq he
    go_wp2_with (go_at_call 83;refine (HP.out (xs.getD i.toNat z40) _ _ X1.out H1.out HB.out).mono ?_;rintro e W' ⟨rfl,hb⟩)
    go_ret
    exact ⟨ret_int_eq H2.out,below_then HB.out HB.out.size hb⟩
  · have H1 := am hq
    have X1 := am (getD_mem z40 p1 hlt)
    have H2 := am hn
    clear hq hn
    go_wp2_with (go_at_call 83;refine (HP.out (xs.getD i.toNat z40) _ _ X1.out H1.out HB.out).mono ?_;rintro e W' ⟨rfl,hb⟩)
    go_roundw
    case rel => exact ⟨i + 1,by omega,by omega,by go_num,H2,⟨below_then HB.out HB.out.size hb⟩⟩
    case measure => simp [intOf];omega
theorem any_Lowered (q : S40 → Option Bool) (A : Option Addr) (c : Nat) (xs : List S40) (r : Bool) (w : World) (hr : Kd.C k40 w A xs.length xs) (hp : Pred_Lowered q w xs) (h : anyM q xs = some r) :
 Calls Tryz.prog 84 #[.slice A xs.length c,.func (.func 83) #[] #[]] w fun e w' => e = .returned (.bool r) ∧ Below w.heap.size w w' := by
 obtain ⟨j,hj,hd⟩ := idxM_of_anyM q xs 0 r (by omega) h
 have H1 := am hj
 have H2 := am hd
 have HR := am hr
 have HP := am hp
 clear hr hp h hj hd
 go_enter Tryz.func84,Tryz.ntmps84
 go_wp2_with (go_at_call 107;refine (idx_Lowered q _ _ xs j _ HR.out HP.out H1.out).mono ?_;rintro e W' ⟨rfl,hb⟩)
 go_ret
 exact ⟨ret_bool_eq H2.out,hb⟩
def cf_Lowered.f (l0 : List S40) : Option Bool := anyM (fun x => ca_Lowered_1.f x.f0 x.f1) l0
theorem cf_Lowered.calls (A0 : Option Addr) (c0 : Nat) (l0 : List S40) (r : Bool) (w : World) (hr0 : Kd.C k40 w A0 l0.length l0) (hc0 : l0.length ≤ c0) (h : cf_Lowered.f l0 = some r) :
 Calls Tryz.prog 84 #[.slice A0 l0.length c0,.func (.func 83) #[] #[]] w fun e w' => e = .returned (.bool r) ∧ Below w.heap.size w w' :=
 any_Lowered (fun x => ca_Lowered_1.f x.f0 x.f1) A0 c0 l0 r w hr0 (fun x b W hx hq hb => (ca_Lowered_1.calls _ _ b W hq).mono fun e W' ⟨he,hd⟩ => ⟨he,hd⟩) h
end Go.Proofs.YticlelgmmonloaaGreatDoor.C

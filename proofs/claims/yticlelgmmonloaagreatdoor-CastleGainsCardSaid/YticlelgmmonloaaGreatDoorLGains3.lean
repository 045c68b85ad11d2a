/- A part of the proof: the walks of the functions that it reaches. TIGHT. -/
import Derived.Test.YticlelgmmonloaaGreatDoorM17
set_option linter.unusedVariables false
set_option linter.unusedSimpArgs false
namespace Go.Proofs.YticlelgmmonloaaGreatDoor.C
open Go.RowKit Go.Proofs.YticlelgmmonloaaGreatDoorW.PrintWords Go.Proofs.YticlelgmmonloaaGreatDoorW.PrintLast Go.Proofs.YticlelgmmonloaaGreatDoorW.PrintMore
set_option linter.unusedVariables false
set_option linter.unusedSimpArgs false
set_option maxHeartbeats 16000000
set_option maxRecDepth 100000
section
attribute [local go_sem] max2_int min2_int max_two min_two
def q4_With.f (l0_0 : List (S126)) (a0_1 : Int) (l0_2 : List (S64)) (a0_3 : Int) (a0_4 : Int) (a1_0 : Int) (a1_1 : Int) : Option ((List (S64))) := if ([] : List (S64)).length + l0_2.length < 8796093022208 then ((some (([] : List (S64)) ++ l0_2 : List (S64))).bind fun y721 => (if 0 ≤ a1_0 then (if a1_0 < (y721.length : Int) then (some (y721.set (a1_0 : Int).toNat (⟨(rd_T64 y721 a1_0).f0,a1_1⟩ : S64))) else (none)) else (none))) else (none)
theorem q4_With.calls (A0_0 : Option Addr) (c0_0 : Nat) (l0_0 : List (S126)) (a0_1 : Int) (A0_2 : Option Addr) (c0_2 : Nat) (l0_2 : List (S64)) (a0_3 : Int) (a0_4 : Int) (a1_0 : Int) (a1_1 : Int) (r : List (S64)) (w : World) (hr0_0 : Kd.C k126 w A0_0 l0_0.length l0_0) (hc0_0 : l0_0.length ≤ c0_0) (hr0_2 : Kd.C k64 w A0_2 l0_2.length l0_2) (hc0_2 : l0_2.length ≤ c0_2) (h : q4_With.f l0_0 a0_1 l0_2 a0_3 a0_4 a1_0 a1_1 = some r) :
 Calls Tryz.prog 36 #[.agg #[.slice A0_0 l0_0.length c0_0,.int .i64 a0_1,.slice A0_2 l0_2.length c0_2,.int .i64 a0_3,.int .i64 a0_4],.agg #[.int .i64 a1_0,.int .i64 a1_1]] w fun e w' => ∃ v0_ : Value,e = .returned (.agg #[.slice A0_0 l0_0.length c0_0,.int .i64 a0_1,v0_,.int .i64 a0_3,.int .i64 a0_4]) ∧ Kd.R k64 64 w' w.heap.size (fun _ => True) v0_ r ∧ Below w.heap.size w w' := by
 have hu27 := Tryz.underlying27
 have hu58 := Tryz.underlying58
 have HR0_0 := am hr0_0
 have HC0_0 := am hc0_0
 clear hr0_0 hc0_0
 have HR0_2 := am hr0_2
 have HC0_2 := am hc0_2
 clear hr0_2 hc0_2
 have HB := am (Below.refl w.heap.size w)
 have H : (if ([] : List (S64)).length + l0_2.length < 8796093022208 then ((some (([] : List (S64)) ++ l0_2 : List (S64))).bind fun y721 => (if 0 ≤ a1_0 then (if a1_0 < (y721.length : Int) then (some (y721.set (a1_0 : Int).toNat (⟨(rd_T64 y721 a1_0).f0,a1_1⟩ : S64))) else (none)) else (none))) else (none)) = some r := h
 clear h
 by_cases c3 : ([] : List (S64)).length + l0_2.length < 8796093022208
 case neg =>
  rw [if_neg c3] at H
  exact absurd H (by simp)
 rw [if_pos c3] at H
 have LMc3 := am c3
 clear c3
 obtain ⟨y721,hy721⟩ : ∃ y_ : List (S64),y_ = (([] : List (S64)) ++ l0_2) := ⟨_,rfl⟩
 replace H : (if 0 ≤ a1_0 then (if a1_0 < (y721.length : Int) then (some (y721.set (a1_0 : Int).toNat (⟨(rd_T64 y721 a1_0).f0,a1_1⟩ : S64))) else (none)) else (none)) = some r := by first | (rw [hy721];with_reducible exact H) | (have H2_ := (Option.bind_some _ _).symm.trans H;rw [hy721];with_reducible exact H2_) | (have H2_ := (Option.bind_some _ _).symm.trans H;with_reducible exact H2_) | with_reducible exact H | (rw [hy721];exact H) | exact H
 have Ny721 := am hy721
 clear hy721
 by_cases c4 : 0 ≤ a1_0
 case neg =>
  rw [if_neg c4] at H
  exact absurd H (by simp)
 rw [if_pos c4] at H
 have c4b0 : decide (0 ≤ a1_0) = true := decide_eq_true c4
 clear c4
 by_cases c5 : a1_0 < (y721.length : Int)
 case neg =>
  rw [if_neg c5] at H
  exact absurd H (by simp)
 rw [if_pos c5] at H
 have c5b0 : decide (a1_0 < (y721.length : Int)) = true := decide_eq_true c5
 clear c5
 obtain ⟨y724,hy724⟩ : ∃ y_ : List (S64),y_ = (y721.set (a1_0 : Int).toNat (⟨(rd_T64 y721 a1_0).f0,a1_1⟩ : S64)) := ⟨_,rfl⟩
 replace H : (some y724) = some r := by first | (rw [hy724];with_reducible exact H) | (have H2_ := (Option.bind_some _ _).symm.trans H;rw [hy724];with_reducible exact H2_) | (have H2_ := (Option.bind_some _ _).symm.trans H;with_reducible exact H2_) | with_reducible exact H | (rw [hy724];exact H) | exact H
 have Ny724 := am hy724
 clear hy724
 obtain rfl := Option.some.inj H
 go_enter Tryz.func36,Tryz.ntmps36
 go_wp2_with (first | ((with_reducible refine gate_dst (N := 2) rfl ?_);refine box_event ?hg (N := 2) ?hd (cs := #[.slice A0_0 l0_0.length c0_0,.int .i64 a0_1,.slice A0_2 l0_2.length c0_2,.int .i64 a0_3,.int .i64 a0_4]) (t := 27) ?hr ?_;(case hd => rfl);(case hg => rfl);(case hr => go_simp;try rfl);intro gb718 hg w7 hbox hb;have BK718 := am (hbox);have GW718 := am (ge_new (by repeat (first | (with_reducible first | exact HB.out | apply below_alloc | apply pw_below_drewN) | exact HB.out)) hg);have GE718 := am (ge_new (by repeat (first | (with_reducible first | exact HB.out | apply below_alloc | apply pw_below_drewN) | exact HB.out)) hg);replace HB := am (below_step (by repeat (first | (with_reducible first | exact HB.out | apply below_alloc | apply pw_below_drewN) | exact HB.out)) hb);clear hb hbox hg) | ((with_reducible refine gate_dst (N := 3) rfl ?_);refine box_event ?hg (N := 3) ?hd (cs := #[.int .i64 a1_0,.int .i64 a1_1]) (t := 58) ?hr ?_;(case hd => rfl);(case hg => rfl);(case hr => go_simp;try rfl);intro gb719 hg w8 hbox hb;have BK719 := am (hbox);have GW719 := am (ge_new (by repeat (first | (with_reducible first | exact HB.out | refine below_set ?_ GE718.out | apply below_alloc | apply pw_below_drewN) | exact HB.out)) hg);have GE719 := am (ge_new (by repeat (first | (with_reducible first | exact HB.out | refine below_set ?_ GE718.out | apply below_alloc | apply pw_below_drewN) | exact HB.out)) hg);have NB718_719 := am ((by rw [hg];exact Nat.ne_of_lt (blk_lt (g := gb718) (o := .cells #[.slice A0_0 l0_0.length c0_0,.int .i64 a0_1,.slice A0_2 l0_2.length c0_2,.int .i64 a0_3,.int .i64 a0_4] 27 (0,0)) (by (with_reducible repeat (first | refine blk_drewN ?_ _ | refine blk_drew ?_ | refine blk_alloc ?_ _));exact BK718.out)) : gb718 ≠ gb719));have NB719_718 := am ((by rw [hg];exact Nat.ne_of_gt (blk_lt (g := gb718) (o := .cells #[.slice A0_0 l0_0.length c0_0,.int .i64 a0_1,.slice A0_2 l0_2.length c0_2,.int .i64 a0_3,.int .i64 a0_4] 27 (0,0)) (by (with_reducible repeat (first | refine blk_drewN ?_ _ | refine blk_drew ?_ | refine blk_alloc ?_ _));exact BK718.out)) : gb719 ≠ gb718));replace BK718 := am (blk_below (g := gb718) (o := .cells #[.slice A0_0 l0_0.length c0_0,.int .i64 a0_1,.slice A0_2 l0_2.length c0_2,.int .i64 a0_3,.int .i64 a0_4] 27 (0,0)) (by (with_reducible repeat (first | refine blk_drewN ?_ _ | refine blk_drew ?_ | refine blk_alloc ?_ _));exact BK718.out) hb);replace HB := am (below_step (by repeat (first | (with_reducible first | exact HB.out | refine below_set ?_ GE718.out | apply below_alloc | apply pw_below_drewN) | exact HB.out)) hb);clear hb hbox hg) | ((with_reducible refine gate_dst (N := 4) rfl ?_);refine box_event ?hg (N := 4) ?hd (cs := #[.slice none 0 0,.int .i64 0,.slice none 0 0,.int .i64 0,.int .i64 0]) (t := 27) ?hr ?_;(case hd => rfl);(case hg => rfl);(case hr => go_simp;try rfl);intro gb720 hg w9 hbox hb;have BK720 := am (hbox);have GW720 := am (ge_new (by repeat (first | (with_reducible first | exact HB.out | refine below_set ?_ (Aside0.out (by assumption)) | apply below_alloc | apply pw_below_drewN) | exact HB.out)) hg);have GE720 := am (ge_new (by repeat (first | (with_reducible first | exact HB.out | refine below_set ?_ (Aside0.out (by assumption)) | apply below_alloc | apply pw_below_drewN) | exact HB.out)) hg);have NB718_720 := am ((by rw [hg];exact Nat.ne_of_lt (blk_lt (g := gb718) (o := .cells #[.slice A0_0 l0_0.length c0_0,.int .i64 a0_1,.slice A0_2 l0_2.length c0_2,.int .i64 a0_3,.int .i64 a0_4] 27 (0,0)) (by (with_reducible repeat (first | refine blk_drewN ?_ _ | refine blk_drew ?_ | refine blk_alloc ?_ _));exact BK718.out)) : gb718 ≠ gb720));have NB720_718 := am ((by rw [hg];exact Nat.ne_of_gt (blk_lt (g := gb718) (o := .cells #[.slice A0_0 l0_0.length c0_0,.int .i64 a0_1,.slice A0_2 l0_2.length c0_2,.int .i64 a0_3,.int .i64 a0_4] 27 (0,0)) (by (with_reducible repeat (first | refine blk_drewN ?_ _ | refine blk_drew ?_ | refine blk_alloc ?_ _));exact BK718.out)) : gb720 ≠ gb718));have NB719_720 := am ((by rw [hg];exact Nat.ne_of_lt (blk_lt (g := gb719) (o := .cells #[.int .i64 a1_0,.int .i64 a1_1] 58 (0,0)) (by (with_reducible repeat (first | refine blk_drewN ?_ _ | refine blk_drew ?_ | refine blk_alloc ?_ _));exact BK719.out)) : gb719 ≠ gb720));have NB720_719 := am ((by rw [hg];exact Nat.ne_of_gt (blk_lt (g := gb719) (o := .cells #[.int .i64 a1_0,.int .i64 a1_1] 58 (0,0)) (by (with_reducible repeat (first | refine blk_drewN ?_ _ | refine blk_drew ?_ | refine blk_alloc ?_ _));exact BK719.out)) : gb720 ≠ gb719));replace BK718 := am (blk_below (g := gb718) (o := .cells #[.slice A0_0 l0_0.length c0_0,.int .i64 a0_1,.slice A0_2 l0_2.length c0_2,.int .i64 a0_3,.int .i64 a0_4] 27 (0,0)) (by (with_reducible repeat (first | refine blk_drewN ?_ _ | refine blk_drew ?_ | refine blk_alloc ?_ _));exact BK718.out) hb);replace BK719 := am (blk_below (g := gb719) (o := .cells #[.int .i64 a1_0,.int .i64 a1_1] 58 (0,0)) (by (with_reducible repeat (first | refine blk_drewN ?_ _ | refine blk_drew ?_ | refine blk_alloc ?_ _));exact BK719.out) hb);replace HB := am (below_step (by repeat (first | (with_reducible first | exact HB.out | refine below_set ?_ (Aside0.out (by assumption)) | apply below_alloc | apply pw_below_drewN) | exact HB.out)) hb);clear hb hbox hg;have hnb10 := NB718_719.out;have hnc10 := NB719_718.out;have hnb11 := NB718_720.out;have hnc11 := NB720_718.out;obtain ⟨hcz12_0,hcz12_1,hcz12_2,hcz12_3,hcz12_4⟩ := cO5 BK718.out;have hfz12_0 := blk_frozen BK718.out 0;have hfz12_1 := blk_frozen BK718.out 1;have hfz12_2 := blk_frozen BK718.out 2;have hfz12_3 := blk_frozen BK718.out 3;have hfz12_4 := blk_frozen BK718.out 4) | ((with_reducible refine gate_builtin (b := .append) (xs := #[.const (.slice none 0 0),.tmp 6]) rfl ?_);at_builtin;refine Kd.R_append_rows k64 (w0 := w) w.heap.size rfl (.const (.slice none 0 0)) (.tmp 6) 25 64 (.agg #[(.int .i64 0),(.int .i64 0)]) 16 rfl Tryz.underlying25 info64 rfl (by decide) (by omega) (.slice none 0 0) ([] : List (S64)) l0_2 _ _ _ (fun _ => True) (fun _ => False) rfl rfl ?aO ?aR (fun _ _ h => h) (fun _ h => h.elim) ?aF ?aB ?aS ?aL ?_;(case aR => repeat (first | exact (kC HR0_2.out HB.out) | (with_reducible refine Kd.C_alloc ?_ _) | (with_reducible refine Kd.C_drewN ?_ _) | (with_reducible refine Kd.C_drew ?_)));(case aB => exact (by repeat (first | (with_reducible first | exact HB.out | refine below_set ?_ (Aside0.out (by assumption)) | apply below_alloc | apply pw_below_drewN) | exact HB.out)));(case aF => exact (fun _ _ => trivial));(case aO => exact ((Kd.R_nil _ _ _ _ (fun _ => True))));(case aS => exact (below_size (by repeat (first | (with_reducible first | exact HB.out | refine below_set ?_ (Aside0.out (by assumption)) | apply below_alloc | apply pw_below_drewN) | exact HB.out))));(case aL => have := LMc3.out;omega);intro v722 w13 ho hb hg hat;rw [← Ny721.out] at ho;have HO723 := am (ho);replace BK718 := am (blk_grown (g := gb718) (o := .cells #[.slice A0_0 l0_0.length c0_0,.int .i64 a0_1,.slice A0_2 l0_2.length c0_2,.int .i64 a0_3,.int .i64 a0_4] 27 (0,0)) (by (with_reducible repeat (first | refine blk_drewN ?_ _ | refine blk_drew ?_ | refine blk_alloc ?_ _));exact BK718.out) hg (by simp [Value.ownBlock]));replace BK719 := am (blk_grown (g := gb719) (o := .cells #[.int .i64 a1_0,.int .i64 a1_1] 58 (0,0)) (by (with_reducible repeat (first | refine blk_drewN ?_ _ | refine blk_drew ?_ | refine blk_alloc ?_ _));exact BK719.out) hg (by simp [Value.ownBlock]));replace BK720 := am (blk_grown (g := gb720) (o := .cells #[.slice none 0 0,.int .i64 0,.slice none 0 0,.int .i64 0,.int .i64 0] 27 (0,0)) (by (with_reducible repeat (first | refine blk_drewN ?_ _ | refine blk_drew ?_ | refine blk_alloc ?_ _));exact BK720.out) hg (by simp [Value.ownBlock]));replace HB := am (hb);clear ho hb hg hat;obtain ⟨Ao14,co14,eo14⟩ := Kd.R_slice HO723.out;subst eo14;obtain ⟨hcz15_0,hcz15_1,hcz15_2,hcz15_3,hcz15_4⟩ := cO5 BK718.out;have hfz15_0 := blk_frozen BK718.out 0;have hfz15_1 := blk_frozen BK718.out 1;have hfz15_2 := blk_frozen BK718.out 2;have hfz15_3 := blk_frozen BK718.out 3;have hfz15_4 := blk_frozen BK718.out 4) | ((with_reducible refine gate_store (t := 25) (p := 8) rfl ?_);refine store_event (t := 25) (p := 8) (v := ?vo_w16) (w1 := (w13.setCell ⟨gb718,2,none⟩ (.slice Ao14 y721.length co14))) ?hg ?ho ?hn ?hr ?_;(case ho => rfl);(case hg => rfl);(case hn => rfl);(case hr => go_simp;try rfl);intro w16 hw;have n0_ : Aside0 (Kd.R k64 64 w16 w.heap.size (fun _ => True) (.slice Ao14 y721.length co14) y721) := ⟨(by rw [hw];exact (by (with_reducible repeat (first | apply Kd.R_alloc | apply Kd.R_drewN | apply Kd.R_drew));exact Kd.R_mono (Kd.R_far (p := ⟨gb718,2,none⟩) (Kd.R_types HO723.out BK718.out (by decide)) (fun _ hk => hk.2) (.slice Ao14 y721.length co14)) (fun _ hk => trivial)))⟩;have n1_ : Aside0 (w16.heap[gb718]? = some (.cells #[.slice A0_0 l0_0.length c0_0,.int .i64 a0_1,.slice Ao14 y721.length co14,.int .i64 a0_3,.int .i64 a0_4] 27 (0,0))) := ⟨(by rw [hw];exact (by (with_reducible repeat (first | refine blk_drewN ?_ _ | refine blk_drew ?_ | refine blk_alloc ?_ _));refine blk_put (cs := #[.slice A0_0 l0_0.length c0_0,.int .i64 a0_1,.slice A0_2 l0_2.length c0_2,.int .i64 a0_3,.int .i64 a0_4]) ?_ 2 _ rfl;(with_reducible repeat (first | refine blk_drewN ?_ _ | refine blk_drew ?_ | refine blk_alloc ?_ _));exact BK718.out))⟩;have n2_ : Aside0 (w16.heap[gb719]? = some (.cells #[.int .i64 a1_0,.int .i64 a1_1] 58 (0,0))) := ⟨(by rw [hw];exact (by (with_reducible repeat (first | refine blk_drewN ?_ _ | refine blk_drew ?_ | refine blk_alloc ?_ _));refine blk_far ?_ NB719_718.out _;(with_reducible repeat (first | refine blk_drewN ?_ _ | refine blk_drew ?_ | refine blk_alloc ?_ _));exact BK719.out))⟩;have n3_ : Aside0 (w16.heap[gb720]? = some (.cells #[.slice none 0 0,.int .i64 0,.slice none 0 0,.int .i64 0,.int .i64 0] 27 (0,0))) := ⟨(by rw [hw];exact (by (with_reducible repeat (first | refine blk_drewN ?_ _ | refine blk_drew ?_ | refine blk_alloc ?_ _));refine blk_far ?_ NB720_718.out _;(with_reducible repeat (first | refine blk_drewN ?_ _ | refine blk_drew ?_ | refine blk_alloc ?_ _));exact BK720.out))⟩;have n4_ : Aside0 (Below w.heap.size w w16) := ⟨(by rw [hw];exact (by repeat (first | (with_reducible first | exact HB.out | refine below_set ?_ (Aside0.out (by assumption)) | apply below_alloc | apply pw_below_drewN) | exact HB.out)))⟩;clear hw;clear HO723;clear BK718;clear BK719;clear BK720;clear HB;have HO723 := n0_;have BK718 := n1_;have BK719 := n2_;have BK720 := n3_;have HB := n4_;clear n0_ n1_ n2_ n3_ n4_;obtain ⟨hcz17_0,hcz17_1,hcz17_2,hcz17_3,hcz17_4⟩ := cO5 BK718.out;have hfz17_0 := blk_frozen BK718.out 0;have hfz17_1 := blk_frozen BK718.out 1;have hfz17_2 := blk_frozen BK718.out 2;have hfz17_3 := blk_frozen BK718.out 3;have hfz17_4 := blk_frozen BK718.out 4;have hnb18 := NB719_720.out;have hnc18 := NB720_719.out;obtain ⟨hcz19_0,hcz19_1⟩ := cO2 BK719.out;have hfz19_0 := blk_frozen BK719.out 0;have hfz19_1 := blk_frozen BK719.out 1;have p6 : 0 ≤ (a1_0 : Int) := of_decide_eq_true (by assumption);have q6 : (a1_0 : Int) < ((y721.length : Int) : Int) := of_decide_eq_true (by assumption);obtain ⟨go6,co6,eo6,gb6,gl6,cl6,HG6⟩ := Kd.R_form HO723.out (by omega);(first | cases eo6 | (injection eo6 with ea_ en_ ec_;(first | subst ea_ | (injection ea_ with ea_;subst ea_));subst ec_;clear en_));have GB6 := am gb6;have GG6 := am HG6;clear gb6 gl6 HG6;obtain ⟨ce6,hcl6,hM6,hcc6,hfr6⟩ := Kd.R_elem HO723.out z64 (a1_0 : Int) p6 q6;obtain rfl := k64_openM hM6;have hx6_0 : w16.cell? ⟨go6,(a1_0 : Int).toNat * 2,none⟩ = some (.int .i64 ((rd_T64 y721 a1_0).f0)) := hcc6 0 _ rfl;have hx6_1 : w16.cell? ⟨go6,(a1_0 : Int).toNat * 2 + 1,none⟩ = some (.int .i64 ((rd_T64 y721 a1_0).f1)) := hcc6 1 _ rfl;have hf6_0 : w16.frozen? ⟨go6,(a1_0 : Int).toNat * 2,none⟩ = false := hfr6 0;have hf6_1 : w16.frozen? ⟨go6,(a1_0 : Int).toNat * 2 + 1,none⟩ = false := hfr6 1;clear hcl6 hcc6 hfr6 hM6;replace p6 := eq_true p6;replace q6 := eq_true q6;have HX20 := am (show Kd.R k64 64 w16 w.heap.size (fun _ => True) (.slice (some ⟨go6,0,none⟩) y721.length co14) y721 from (by (with_reducible repeat (first | apply Kd.R_alloc | apply Kd.R_drewN | apply Kd.R_drew));exact HO723.out));obtain ⟨ce20,hcl20,hM20,hcc20,hfr20⟩ := Kd.R_elem HX20.out z64 (a1_0 : Int) (of_decide_eq_true (by assumption)) (by have h_ : (a1_0 : Int) < ((y721.length : Int) : Int) := of_decide_eq_true (by assumption);first | exact h_ | (have e_ := (Kd.R_reads' HO723.out).1;omega) | simpa using h_);obtain rfl := k64_openM hM20;have HP20 := Kd.R_seg HX20.out (a1_0 : Int) (of_decide_eq_true (by assumption)) (by have h_ : (a1_0 : Int) < ((y721.length : Int) : Int) := of_decide_eq_true (by assumption);first | exact h_ | (have e_ := (Kd.R_reads' HO723.out).1;omega) | simpa using h_) (seg := [.int .i64 a1_1]) (j := 1) hcl20 hcc20 (show 2 ≤ 2 from by decide) (x' := (⟨(rd_T64 y721 a1_0).f0,a1_1⟩ : S64)) (k64_mkM _ _ _ (⟨(rd_T64 y721 a1_0).f0,a1_1⟩ : S64) ) (fun _ hk => hk);have hx20_1 := hcc20 1 _ rfl;(try simp only [show (k64).sz = 2 from rfl,Nat.mul_one,Nat.add_zero] at hx20_1);have hf20_1 := hfr20 1;(try simp only [show (k64).sz = 2 from rfl,Nat.mul_one,Nat.add_zero] at hf20_1);clear hcl20 hcc20 hfr20 hM20) | ((with_reducible refine gate_store (t := 3) (p := 16) rfl ?_);refine store_event (t := 3) (p := 16) (v := ?vo_w21) (w1 := (w16.setCell ⟨go6,(a1_0 : Int).toNat * 2 + 1,none⟩ (.int .i64 a1_1))) ?hg ?ho ?hn ?hr ?_;(case ho => rfl);(case hg => rfl);(case hn => rfl);(case hr => go_simp;try rfl);intro w21 hw;have hg : w16.grownBy w21 (some go6) := (by rw [hw];exact HP20.2);have hp_ : Kd.R k64 64 w21 w.heap.size (fun _ => True) (.slice (some ⟨go6,0,none⟩) y721.length co14) y724 := (by rw [hw,Ny724.out];exact HP20.1);clear HP20;replace BK718 := am (blk_grown (g := gb718) (o := .cells #[.slice A0_0 l0_0.length c0_0,.int .i64 a0_1,.slice (some ⟨go6,0,none⟩) y721.length co14,.int .i64 a0_3,.int .i64 a0_4] 27 (0,0)) (by (with_reducible repeat (first | refine blk_drewN ?_ _ | refine blk_drew ?_ | refine blk_alloc ?_ _));exact BK718.out) hg (Kd.R_ne HO723.out BK718.out (by decide)));replace BK719 := am (blk_grown (g := gb719) (o := .cells #[.int .i64 a1_0,.int .i64 a1_1] 58 (0,0)) (by (with_reducible repeat (first | refine blk_drewN ?_ _ | refine blk_drew ?_ | refine blk_alloc ?_ _));exact BK719.out) hg (Kd.R_ne HO723.out BK719.out (by decide)));replace BK720 := am (blk_grown (g := gb720) (o := .cells #[.slice none 0 0,.int .i64 0,.slice none 0 0,.int .i64 0,.int .i64 0] 27 (0,0)) (by (with_reducible repeat (first | refine blk_drewN ?_ _ | refine blk_drew ?_ | refine blk_alloc ?_ _));exact BK720.out) hg (Kd.R_ne HO723.out BK720.out (by decide)));replace HO723 := am (hp_);replace HB := am ((by rw [hw];exact below_set (HB.out) GB6.out : Below w.heap.size w w21));clear hg hw hp_;obtain ⟨hcz22_0,hcz22_1,hcz22_2,hcz22_3,hcz22_4⟩ := cO5 BK718.out;have hfz22_0 := blk_frozen BK718.out 0;have hfz22_1 := blk_frozen BK718.out 1;have hfz22_2 := blk_frozen BK718.out 2;have hfz22_3 := blk_frozen BK718.out 3;have hfz22_4 := blk_frozen BK718.out 4;obtain ⟨hcz23_0,hcz23_1,hcz23_2,hcz23_3,hcz23_4⟩ := cO5 BK720.out;have hfz23_0 := blk_frozen BK720.out 0;have hfz23_1 := blk_frozen BK720.out 1;have hfz23_2 := blk_frozen BK720.out 2;have hfz23_3 := blk_frozen BK720.out 3;have hfz23_4 := blk_frozen BK720.out 4))
 refine bodyPost_ret (results_cell_row rfl _ _ gb720 27 #[.slice A0_0 l0_0.length c0_0,.int .i64 a0_1,.slice (some ⟨go6,0,none⟩) y721.length co14,.int .i64 a0_3,.int .i64 a0_4] (0,0) _ rfl (by (with_reducible repeat (first | refine blk_drewN ?_ _ | refine blk_drew ?_ | refine blk_alloc ?_ _));refine blk_put (cs := #[.slice A0_0 l0_0.length c0_0,.int .i64 a0_1,.slice (some ⟨go6,0,none⟩) y721.length co14,.int .i64 a0_3,.int .i64 0]) ?_ 4 _ rfl;(with_reducible repeat (first | refine blk_drewN ?_ _ | refine blk_drew ?_ | refine blk_alloc ?_ _));refine blk_put (cs := #[.slice A0_0 l0_0.length c0_0,.int .i64 a0_1,.slice (some ⟨go6,0,none⟩) y721.length co14,.int .i64 0,.int .i64 0]) ?_ 3 _ rfl;(with_reducible repeat (first | refine blk_drewN ?_ _ | refine blk_drew ?_ | refine blk_alloc ?_ _));refine blk_put (cs := #[.slice A0_0 l0_0.length c0_0,.int .i64 a0_1,.slice none 0 0,.int .i64 0,.int .i64 0]) ?_ 2 _ rfl;(with_reducible repeat (first | refine blk_drewN ?_ _ | refine blk_drew ?_ | refine blk_alloc ?_ _));refine blk_put (cs := #[.slice A0_0 l0_0.length c0_0,.int .i64 0,.slice none 0 0,.int .i64 0,.int .i64 0]) ?_ 1 _ rfl;(with_reducible repeat (first | refine blk_drewN ?_ _ | refine blk_drew ?_ | refine blk_alloc ?_ _));refine blk_put (cs := #[.slice none 0 0,.int .i64 0,.slice none 0 0,.int .i64 0,.int .i64 0]) ?_ 0 _ rfl;(with_reducible repeat (first | refine blk_drewN ?_ _ | refine blk_drew ?_ | refine blk_alloc ?_ _));exact BK720.out) Tryz.underlying27 rfl (by kernel_rfl)) rfl ?_
 exact ⟨_,by first | rfl | (simp [*] <;> rfl),by (with_reducible repeat (first | apply Kd.R_alloc | apply Kd.R_drewN | apply Kd.R_drew));exact Kd.R_mono (Kd.R_far (p := ⟨gb720,4,none⟩) (Kd.R_far (p := ⟨gb720,3,none⟩) (Kd.R_far (p := ⟨gb720,2,none⟩) (Kd.R_far (p := ⟨gb720,1,none⟩) (Kd.R_far (p := ⟨gb720,0,none⟩) (Kd.R_types HO723.out BK720.out (by decide)) (fun _ hk => hk.2) (.slice A0_0 l0_0.length c0_0)) (fun _ hk => hk.2) (.int .i64 a0_1)) (fun _ hk => hk.2) (.slice (some ⟨go6,0,none⟩) y721.length co14)) (fun _ hk => hk.2) (.int .i64 a0_3)) (fun _ hk => hk.2) (.int .i64 a0_4)) (fun _ hk => trivial),by repeat (first | (with_reducible first | exact HB.out | refine below_set ?_ (Aside0.out (by assumption)) | apply below_alloc | apply pw_below_drewN) | exact HB.out)⟩
def q4_Gains.l0 : Nat → List Int → Int → List Int → Int → List Int → Int → Option (List Int × Int)
 | 0,_,_,_,_,_,_ => none
 | k + 1,x8,x9,x10,x11,x12,x13 => if x13 < (x8.length : Int) then (if 0 ≤ x13 then (if x13 < (x10.length : Int) then (if x12.length < 17592186044416 then (q4_Gains.l0 k x8 x9 x10 x11 (x12 ++ [wrap64 ((rd x8 x13) - (rd x10 x13))]) (wrap64 (x13 + 1))) else (none)) else (none)) else (none)) else (some (x12,wrap64 (x9 - x11)))
def q4_Gains.f (k : Nat) (l0_0 : List (S126)) (a0_1 : Int) (l0_2 : List (S64)) (a0_3 : Int) (a0_4 : Int) (a1_0 : Int) (a1_1 : Int) (a2 : Int) : Option (List Int × Int) := (q4_With.f l0_0 a0_1 l0_2 a0_3 a0_4 a1_0 a1_1).bind fun t736 => ((q4_Shares.f k l0_0 a0_1 t736 a0_3 a0_4 a2).bind fun bt739 => ((q4_Shares.f k l0_0 a0_1 l0_2 a0_3 a0_4 a2).bind fun bt743 => (q4_Gains.l0 k bt739.1 bt739.2 bt743.1 bt743.2 ([] : List Int) 0)))
def q4_Gains.T7 : Bool × List (List Nat × List Nat) := (true,[([],[]),([],[]),([],[]),([1,2],[1,2]),([3],[3]),([],[]),([],[]),([5,6],[5,6]),([7],[7]),([4,8],[4,8]),([9],[9]),([0,10],[0,10]),([11,11,0,1,2,3,4,5,6,7,8,9,10,11],[0,11])])
def q4_Gains.B7 : List Nat := [0,0,0,6,14,0,0,96,224,510,1022,2047,4095]
theorem q4_Gains.tab7 : rtab .any (opsOf Tryz.f35 7) = q4_Gains.T7 := by kernel_rfl
theorem q4_Gains.bits7 : waitsOk q4_Gains.T7.2 q4_Gains.B7 = true := by kernel_rfl
theorem q4_Gains.calls (k : Nat) (A0_0 : Option Addr) (c0_0 : Nat) (l0_0 : List (S126)) (a0_1 : Int) (A0_2 : Option Addr) (c0_2 : Nat) (l0_2 : List (S64)) (a0_3 : Int) (a0_4 : Int) (a1_0 : Int) (a1_1 : Int) (a2 : Int) (r1 : List Int) (r2 : Int) (w : World) (hr0_0 : Kd.C k126 w A0_0 l0_0.length l0_0) (hc0_0 : l0_0.length ≤ c0_0) (hr0_2 : Kd.C k64 w A0_2 l0_2.length l0_2) (hc0_2 : l0_2.length ≤ c0_2) (h : q4_Gains.f k l0_0 a0_1 l0_2 a0_3 a0_4 a1_0 a1_1 a2 = some (r1,r2)) :
 Calls Tryz.prog 35 #[.agg #[.slice A0_0 l0_0.length c0_0,.int .i64 a0_1,.slice A0_2 l0_2.length c0_2,.int .i64 a0_3,.int .i64 a0_4],.agg #[.int .i64 a1_0,.int .i64 a1_1],.int .i64 a2] w fun e w' => ∃ v0_ : Value,e = .returned (.tuple #[v0_,.int .i64 r2]) ∧ Kd.R (Kd.int .i64) 3 w' w.heap.size (fun _ => True) v0_ r1 ∧ Below w.heap.size w w' := by
 have hu27 := Tryz.underlying27
 have hu58 := Tryz.underlying58
 have HR0_0 := am hr0_0
 have HC0_0 := am hc0_0
 clear hr0_0 hc0_0
 have HR0_2 := am hr0_2
 have HC0_2 := am hc0_2
 clear hr0_2 hc0_2
 have HB := am (Below.refl w.heap.size w)
 have H : ((q4_With.f l0_0 a0_1 l0_2 a0_3 a0_4 a1_0 a1_1).bind fun t736 => ((q4_Shares.f k l0_0 a0_1 t736 a0_3 a0_4 a2).bind fun bt739 => ((q4_Shares.f k l0_0 a0_1 l0_2 a0_3 a0_4 a2).bind fun bt743 => (q4_Gains.l0 k bt739.1 bt739.2 bt743.1 bt743.2 ([] : List Int) 0)))) = some (r1,r2) := h
 clear h
 replace H := obm H
 obtain ⟨t736,A40,H⟩ := H
 replace H : ((q4_Shares.f k l0_0 a0_1 t736 a0_3 a0_4 a2).bind fun bt739 => ((q4_Shares.f k l0_0 a0_1 l0_2 a0_3 a0_4 a2).bind fun bt743 => (q4_Gains.l0 k bt739.1 bt739.2 bt743.1 bt743.2 ([] : List Int) 0))) = some (r1,r2) := H
 have A4 := am A40
 clear A40
 replace H := obm H
 obtain ⟨⟨t739,t742⟩,A50,H⟩ := H
 replace H : ((q4_Shares.f k l0_0 a0_1 l0_2 a0_3 a0_4 a2).bind fun bt743 => (q4_Gains.l0 k t739 t742 bt743.1 bt743.2 ([] : List Int) 0)) = some (r1,r2) := H
 have A5 := am A50
 clear A50
 replace H := obm H
 obtain ⟨⟨t743,t746⟩,A60,H⟩ := H
 replace H : (q4_Gains.l0 k t739 t742 t743 t746 ([] : List Int) 0) = some (r1,r2) := H
 have A6 := am A60
 clear A60
 replace H' := am H
 go_enter Tryz.func35,Tryz.ntmps35
 go_wp2_with (first | ((with_reducible refine gate_dst (N := 3) rfl ?_);refine box_event ?hg (N := 3) ?hd (cs := #[.slice A0_0 l0_0.length c0_0,.int .i64 a0_1,.slice A0_2 l0_2.length c0_2,.int .i64 a0_3,.int .i64 a0_4]) (t := 27) ?hr ?_;(case hd => rfl);(case hg => rfl);(case hr => go_simp;try rfl);intro gb725 hg w7 hbox hb;have BK725 := am (hbox);have GW725 := am (ge_new (by repeat (first | (with_reducible first | exact HB.out | apply below_alloc | apply pw_below_drewN) | exact HB.out)) hg);have GE725 := am (ge_new (by repeat (first | (with_reducible first | exact HB.out | apply below_alloc | apply pw_below_drewN) | exact HB.out)) hg);replace HB := am (below_step (by repeat (first | (with_reducible first | exact HB.out | apply below_alloc | apply pw_below_drewN) | exact HB.out)) hb);clear hb hbox hg) | ((with_reducible refine gate_dst (N := 4) rfl ?_);refine box_event ?hg (N := 4) ?hd (cs := #[.int .i64 a1_0,.int .i64 a1_1]) (t := 58) ?hr ?_;(case hd => rfl);(case hg => rfl);(case hr => go_simp;try rfl);intro gb726 hg w8 hbox hb;have BK726 := am (hbox);have GW726 := am (ge_new (by repeat (first | (with_reducible first | exact HB.out | refine below_set ?_ GE725.out | apply below_alloc | apply pw_below_drewN) | exact HB.out)) hg);have GE726 := am (ge_new (by repeat (first | (with_reducible first | exact HB.out | refine below_set ?_ GE725.out | apply below_alloc | apply pw_below_drewN) | exact HB.out)) hg);have NB725_726 := am ((by rw [hg];exact Nat.ne_of_lt (blk_lt (g := gb725) (o := .cells #[.slice A0_0 l0_0.length c0_0,.int .i64 a0_1,.slice A0_2 l0_2.length c0_2,.int .i64 a0_3,.int .i64 a0_4] 27 (0,0)) (by (with_reducible repeat (first | refine blk_drewN ?_ _ | refine blk_drew ?_ | refine blk_alloc ?_ _));exact BK725.out)) : gb725 ≠ gb726));have NB726_725 := am ((by rw [hg];exact Nat.ne_of_gt (blk_lt (g := gb725) (o := .cells #[.slice A0_0 l0_0.length c0_0,.int .i64 a0_1,.slice A0_2 l0_2.length c0_2,.int .i64 a0_3,.int .i64 a0_4] 27 (0,0)) (by (with_reducible repeat (first | refine blk_drewN ?_ _ | refine blk_drew ?_ | refine blk_alloc ?_ _));exact BK725.out)) : gb726 ≠ gb725));replace BK725 := am (blk_below (g := gb725) (o := .cells #[.slice A0_0 l0_0.length c0_0,.int .i64 a0_1,.slice A0_2 l0_2.length c0_2,.int .i64 a0_3,.int .i64 a0_4] 27 (0,0)) (by (with_reducible repeat (first | refine blk_drewN ?_ _ | refine blk_drew ?_ | refine blk_alloc ?_ _));exact BK725.out) hb);replace HB := am (below_step (by repeat (first | (with_reducible first | exact HB.out | refine below_set ?_ GE725.out | apply below_alloc | apply pw_below_drewN) | exact HB.out)) hb);clear hb hbox hg;have hnb9 := NB725_726.out;have hnc9 := NB726_725.out;obtain ⟨hcz10_0,hcz10_1,hcz10_2,hcz10_3,hcz10_4⟩ := cO5 BK725.out;have hfz10_0 := blk_frozen BK725.out 0;have hfz10_1 := blk_frozen BK725.out 1;have hfz10_2 := blk_frozen BK725.out 2;have hfz10_3 := blk_frozen BK725.out 3;have hfz10_4 := blk_frozen BK725.out 4;obtain ⟨hcz11_0,hcz11_1⟩ := cO2 BK726.out;have hfz11_0 := blk_frozen BK726.out 0;have hfz11_1 := blk_frozen BK726.out 1) | ((with_reducible refine gate_callee (f := 36) rfl ?_);refine goesL_ (some 17) rfl rfl Tryz.func36 (by kernel_rfl) rfl #[.agg #[.slice A0_0 l0_0.length c0_0,.int .i64 a0_1,.slice A0_2 l0_2.length c0_2,.int .i64 a0_3,.int .i64 a0_4],.agg #[.int .i64 a1_0,.int .i64 a1_1]] rfl (by (try simp only [List.map_toArray,List.map_cons,List.map_nil]);first | done | rfl | (simp only [List.length_drop,List.length_take];rfl)) ?_;(with_reducible refine (q4_With.calls _ _ l0_0 a0_1 _ _ l0_2 a0_3 a0_4 a1_0 a1_1 t736 _ ?side1 ?side2 ?side3 ?side4 A4.out).mono ?_);(case side1 => repeat (first | exact (kC HR0_0.out HB.out) | (with_reducible refine Kd.C_alloc ?_ _) | (with_reducible refine Kd.C_drewN ?_ _) | (with_reducible refine Kd.C_drew ?_)));(case side2 => exact HC0_0.out);(case side3 => repeat (first | exact (kC HR0_2.out HB.out) | (with_reducible refine Kd.C_alloc ?_ _) | (with_reducible refine Kd.C_drewN ?_ _) | (with_reducible refine Kd.C_drew ?_)));(case side4 => exact HC0_2.out);rintro e w12 ⟨v737,rfl,ho0,hb⟩;refine ⟨_,rfl,?_⟩;have HO738 := am (Kd.R_lower ho0 (below_size (by repeat (first | (with_reducible first | exact HB.out | refine below_set ?_ (Aside0.out (by assumption)) | apply below_alloc | apply pw_below_drewN) | exact HB.out))));replace BK725 := am (blk_below (g := gb725) (o := .cells #[.slice A0_0 l0_0.length c0_0,.int .i64 a0_1,.slice A0_2 l0_2.length c0_2,.int .i64 a0_3,.int .i64 a0_4] 27 (0,0)) (by (with_reducible repeat (first | refine blk_drewN ?_ _ | refine blk_drew ?_ | refine blk_alloc ?_ _));exact BK725.out) hb);replace BK726 := am (blk_below (g := gb726) (o := .cells #[.int .i64 a1_0,.int .i64 a1_1] 58 (0,0)) (by (with_reducible repeat (first | refine blk_drewN ?_ _ | refine blk_drew ?_ | refine blk_alloc ?_ _));exact BK726.out) hb);replace HB := am (below_step (by repeat (first | (with_reducible first | exact HB.out | refine below_set ?_ (Aside0.out (by assumption)) | apply below_alloc | apply pw_below_drewN) | exact HB.out)) hb);(try clear hb);(try clear hb2);(try clear hk);(try clear hi);(try clear ho0);obtain ⟨Ao13,co13,eo13⟩ := Kd.R_slice HO738.out;subst eo13) | ((with_reducible refine gate_callee (f := 19) rfl ?_);refine goesL_ (some 19) rfl rfl Tryz.func19 (by kernel_rfl) rfl #[.agg #[.slice A0_0 l0_0.length c0_0,.int .i64 a0_1,.slice Ao13 t736.length co13,.int .i64 a0_3,.int .i64 a0_4],.int .i64 a2] rfl (by (try simp only [List.map_toArray,List.map_cons,List.map_nil]);first | done | rfl | (simp only [List.length_drop,List.length_take];rfl)) ?_;(with_reducible refine (q4_Shares.calls k _ _ l0_0 a0_1 _ _ t736 a0_3 a0_4 a2 t739 t742 _ ?side1 ?side2 ?side3 ?side4 A5.out).mono ?_);(case side1 => repeat (first | exact (kC HR0_0.out HB.out) | (with_reducible refine Kd.C_alloc ?_ _) | (with_reducible refine Kd.C_drewN ?_ _) | (with_reducible refine Kd.C_drew ?_)));(case side2 => exact HC0_0.out);(case side3 => repeat (first | exact (Kd.R_reads' HO738.out).2.2 | (with_reducible refine Kd.C_alloc ?_ _) | (with_reducible refine Kd.C_drewN ?_ _) | (with_reducible refine Kd.C_drew ?_)));(case side4 => exact (Kd.R_reads' HO738.out).2.1);rintro e w14 ⟨v740,rfl,ho0,hb⟩;refine ⟨_,rfl,?_⟩;have HO741 := am (Kd.R_lower ho0 (below_size (by repeat (first | (with_reducible first | exact HB.out | refine below_set ?_ (Aside0.out (by assumption)) | apply below_alloc | apply pw_below_drewN) | exact HB.out))));replace HO738 := am (Kd.R_below (by (with_reducible repeat (first | apply Kd.R_alloc | apply Kd.R_drewN | apply Kd.R_drew));exact HO738.out) hb);replace BK725 := am (blk_below (g := gb725) (o := .cells #[.slice A0_0 l0_0.length c0_0,.int .i64 a0_1,.slice A0_2 l0_2.length c0_2,.int .i64 a0_3,.int .i64 a0_4] 27 (0,0)) (by (with_reducible repeat (first | refine blk_drewN ?_ _ | refine blk_drew ?_ | refine blk_alloc ?_ _));exact BK725.out) hb);replace BK726 := am (blk_below (g := gb726) (o := .cells #[.int .i64 a1_0,.int .i64 a1_1] 58 (0,0)) (by (with_reducible repeat (first | refine blk_drewN ?_ _ | refine blk_drew ?_ | refine blk_alloc ?_ _));exact BK726.out) hb);replace HB := am (below_step (by repeat (first | (with_reducible first | exact HB.out | refine below_set ?_ (Aside0.out (by assumption)) | apply below_alloc | apply pw_below_drewN) | exact HB.out)) hb);(try clear hb);(try clear hb2);(try clear hk);(try clear hi);(try clear ho0);obtain ⟨hcz15_0,hcz15_1,hcz15_2,hcz15_3,hcz15_4⟩ := cO5 BK725.out;have hfz15_0 := blk_frozen BK725.out 0;have hfz15_1 := blk_frozen BK725.out 1;have hfz15_2 := blk_frozen BK725.out 2;have hfz15_3 := blk_frozen BK725.out 3;have hfz15_4 := blk_frozen BK725.out 4) | ((with_reducible refine gate_callee (f := 19) rfl ?_);refine goesL_ (some 25) rfl rfl Tryz.func19 (by kernel_rfl) rfl #[.agg #[.slice A0_0 l0_0.length c0_0,.int .i64 a0_1,.slice A0_2 l0_2.length c0_2,.int .i64 a0_3,.int .i64 a0_4],.int .i64 a2] rfl (by (try simp only [List.map_toArray,List.map_cons,List.map_nil]);first | done | rfl | (simp only [List.length_drop,List.length_take];rfl)) ?_;(with_reducible refine (q4_Shares.calls k _ _ l0_0 a0_1 _ _ l0_2 a0_3 a0_4 a2 t743 t746 _ ?side1 ?side2 ?side3 ?side4 A6.out).mono ?_);(case side1 => repeat (first | exact (kC HR0_0.out HB.out) | (with_reducible refine Kd.C_alloc ?_ _) | (with_reducible refine Kd.C_drewN ?_ _) | (with_reducible refine Kd.C_drew ?_)));(case side2 => exact HC0_0.out);(case side3 => repeat (first | exact (kC HR0_2.out HB.out) | (with_reducible refine Kd.C_alloc ?_ _) | (with_reducible refine Kd.C_drewN ?_ _) | (with_reducible refine Kd.C_drew ?_)));(case side4 => exact HC0_2.out);rintro e w16 ⟨v744,rfl,ho0,hb⟩;refine ⟨_,rfl,?_⟩;have HO745 := am (Kd.R_lower (Kd.R_new' ho0 (Kd.R_lt (by (with_reducible repeat (first | apply Kd.R_alloc | apply Kd.R_drewN | apply Kd.R_drew));exact HO741.out))) (below_size (by repeat (first | (with_reducible first | exact HB.out | refine below_set ?_ (Aside0.out (by assumption)) | apply below_alloc | apply pw_below_drewN) | exact HB.out))));replace HO738 := am (Kd.R_below (by (with_reducible repeat (first | apply Kd.R_alloc | apply Kd.R_drewN | apply Kd.R_drew));exact HO738.out) hb);replace HO741 := am (Kd.R_elder' (by (with_reducible repeat (first | apply Kd.R_alloc | apply Kd.R_drewN | apply Kd.R_drew));exact HO741.out) (Kd.R_base ho0) hb);replace BK725 := am (blk_below (g := gb725) (o := .cells #[.slice A0_0 l0_0.length c0_0,.int .i64 a0_1,.slice A0_2 l0_2.length c0_2,.int .i64 a0_3,.int .i64 a0_4] 27 (0,0)) (by (with_reducible repeat (first | refine blk_drewN ?_ _ | refine blk_drew ?_ | refine blk_alloc ?_ _));exact BK725.out) hb);replace BK726 := am (blk_below (g := gb726) (o := .cells #[.int .i64 a1_0,.int .i64 a1_1] 58 (0,0)) (by (with_reducible repeat (first | refine blk_drewN ?_ _ | refine blk_drew ?_ | refine blk_alloc ?_ _));exact BK726.out) hb);replace HB := am (below_step (by repeat (first | (with_reducible first | exact HB.out | refine below_set ?_ (Aside0.out (by assumption)) | apply below_alloc | apply pw_below_drewN) | exact HB.out)) hb);(try clear hb);(try clear hb2);(try clear hk);(try clear hi);(try clear ho0)))
 go_loopg [12,13] k (fun kq v12 v13 w' => ∃ (x12_1 : List Int) (x13_1 : Int),v13 = .int .i64 x13_1 ∧ Aside0 (q4_Gains.l0 kq t739 t742 t743 t746 x12_1 x13_1 = some (r1,r2)) ∧ Aside0 (kq ≤ k) ∧ Aside0 (Kd.R (Kd.int .i64) 3 w' w.heap.size (fun k_ => some k_ ≠ (v744 : Value).ownBlock ∧ some k_ ≠ (v12 : Value).ownBlock) v740 t739) ∧ Aside0 (Kd.R (Kd.int .i64) 3 w' w.heap.size (fun k_ => some k_ ≠ (v740 : Value).ownBlock ∧ some k_ ≠ (v12 : Value).ownBlock) v744 t743) ∧ Aside0 (Kd.R (Kd.int .i64) 3 w' w.heap.size (fun k_ => some k_ ≠ (v740 : Value).ownBlock ∧ some k_ ≠ (v744 : Value).ownBlock) v12 x12_1) ∧ Aside0 (w'.heap[gb725]? = some (.cells #[(.slice A0_0 l0_0.length c0_0),.int .i64 a0_1,(.slice A0_2 l0_2.length c0_2),.int .i64 a0_3,.int .i64 a0_4] 27 (0,0))) ∧ Aside0 (w'.heap[gb726]? = some (.cells #[.int .i64 a1_0,.int .i64 a1_1] 58 (0,0))) ∧ Aside0 (Below w.heap.size w w'))
 case atStart => exact ⟨(([] : List Int)),(0),(by first | rfl | (simp;done) | (simp [*];done)),H',⟨Nat.le_refl _⟩,⟨by (with_reducible repeat (first | apply Kd.R_alloc | apply Kd.R_drewN | apply Kd.R_drew));exact Kd.R_mono HO741.out (fun _ hk => ⟨hk.2,(by simp [Value.ownBlock])⟩)⟩,⟨by (with_reducible repeat (first | apply Kd.R_alloc | apply Kd.R_drewN | apply Kd.R_drew));exact Kd.R_mono HO745.out (fun _ hk => ⟨hk.2,(by simp [Value.ownBlock])⟩)⟩,⟨by first | exact Kd.R_nil _ _ _ _ _ | exact Kd.N_nil _ _ _ _ _ | exact Kd.V_nil _ _ _ _ _ | exact Kd.Q_nil _ _ _ _ _ | exact Kd.S_nil _ _ _ _ _⟩,⟨by (with_reducible repeat (first | refine blk_drewN ?_ _ | refine blk_drew ?_ | refine blk_alloc ?_ _));exact BK725.out⟩,⟨by (with_reducible repeat (first | refine blk_drewN ?_ _ | refine blk_drew ?_ | refine blk_alloc ?_ _));exact BK726.out⟩,⟨by repeat (first | (with_reducible first | exact HB.out | refine below_set ?_ (Aside0.out (by assumption)) | apply below_alloc | apply pw_below_drewN) | exact HB.out)⟩⟩
 case round =>
  clear H'
  try clear c1
  try clear p2
  try clear c3
  try clear c9
  try clear hcz10_0
  try clear hcz10_1
  try clear hcz10_2
  try clear hcz10_3
  try clear hcz10_4
  try clear hcz11_0
  try clear hcz11_1
  try clear hcz15_0
  try clear hcz15_1
  try clear hcz15_2
  try clear hcz15_3
  try clear hcz15_4
  try clear hfz10_0
  try clear hfz10_1
  try clear hfz10_2
  try clear hfz10_3
  try clear hfz10_4
  try clear hfz11_0
  try clear hfz11_1
  try clear hfz15_0
  try clear hfz15_1
  try clear hfz15_2
  try clear hfz15_3
  try clear hfz15_4
  obtain ⟨x12_1,x13_1,rfl,HA,HK1,HO_8,HO_10,HO_12,BK725,BK726,HB⟩ := hrel
  cases gk with
  | zero => exact absurd HA.out (by simp [q4_Gains.l0])
  | succ k1 =>
   have H := HA.out
   clear HA
   simp only [q4_Gains.l0] at H
   by_cases c17 : x13_1 < (t739.length : Int)
   case neg =>
    rw [if_neg c17] at H
    have c17b0 : decide (x13_1 < (t739.length : Int)) = false := decide_eq_false c17
    clear c17
    simp only [Option.some.injEq,Prod.mk.injEq] at H
    obtain ⟨rfl,rfl⟩ := H
    obtain ⟨Ao25,co25,eo25⟩ := Kd.R_slice HO_8.out
    subst eo25
    go_wp2
    go_ret2
    exact ⟨_,by first | rfl | (simp [*] <;> rfl),by (with_reducible repeat (first | apply Kd.R_alloc | apply Kd.R_drewN | apply Kd.R_drew));exact Kd.R_mono HO_12.out (fun _ hk => trivial),by repeat (first | (with_reducible first | exact HB.out | refine below_set ?_ (Aside0.out (by assumption)) | apply below_alloc | apply pw_below_drewN) | exact HB.out)⟩
   rw [if_pos c17] at H
   have c17b0 : decide (x13_1 < (t739.length : Int)) = true := decide_eq_true c17
   clear c17
   by_cases c18 : 0 ≤ x13_1
   case neg =>
    rw [if_neg c18] at H
    exact absurd H (by simp)
   rw [if_pos c18] at H
   have c18b0 : decide (0 ≤ x13_1) = true := decide_eq_true c18
   clear c18
   by_cases c19 : x13_1 < (t743.length : Int)
   case neg =>
    rw [if_neg c19] at H
    exact absurd H (by simp)
   rw [if_pos c19] at H
   have c19b0 : decide (x13_1 < (t743.length : Int)) = true := decide_eq_true c19
   clear c19
   by_cases c20 : x12_1.length < 17592186044416
   case neg =>
    rw [if_neg c20] at H
    exact absurd H (by simp)
   rw [if_pos c20] at H
   have LMc20 := am c20
   clear c20
   obtain ⟨y749,hy749⟩ : ∃ y_ : List Int,y_ = (x12_1 ++ [wrap64 ((rd t739 x13_1) - (rd t743 x13_1))]) := ⟨_,rfl⟩
   replace H : (q4_Gains.l0 k1 t739 t742 t743 t746 y749 (wrap64 (x13_1 + 1))) = some (r1,r2) := by first | (rw [hy749];with_reducible exact H) | (have H2_ := (Option.bind_some _ _).symm.trans H;rw [hy749];with_reducible exact H2_) | (have H2_ := (Option.bind_some _ _).symm.trans H;with_reducible exact H2_) | with_reducible exact H | (rw [hy749];exact H) | exact H
   have Ny749 := am hy749
   clear hy749
   replace H' := am H
   obtain ⟨Ao21,co21,eo21⟩ := Kd.R_slice HO_8.out
   subst eo21
   try go_wp2
   replace HO_8 := am (Kd.R_drew HO_8.out)
   replace HO_10 := am (Kd.R_drew HO_10.out)
   replace HO_12 := am (Kd.R_drew HO_12.out)
   replace BK725 := am (blk_drew BK725.out)
   replace BK726 := am (blk_drew BK726.out)
   replace HB := am (below_drew1 HB.out)
   have p747 : 0 ≤ (x13_1 : Int) := of_decide_eq_true (by assumption)
   have q747 : x13_1 < (t739.length : Int) := of_decide_eq_true (by assumption)
   obtain ⟨ad747,e747,hx747_0⟩ := Kd.at_int (Kd.R_reads' HO_8.out).2.2 x13_1 p747 q747
   cases e747
   replace p747 := eq_true p747
   replace q747 := eq_true q747
   obtain ⟨Ao23,co23,eo23⟩ := Kd.R_slice HO_10.out
   (first | subst eo23 | (injection eo23 with f1_ f2_ f3_;have f4_ := f1_.symm;have f5_ := f3_.symm;clear f1_ f2_ f3_;subst f4_;subst f5_))
   have p748 : 0 ≤ (x13_1 : Int) := of_decide_eq_true (by assumption)
   have q748 : x13_1 < (t743.length : Int) := of_decide_eq_true (by assumption)
   obtain ⟨ad748,e748,hx748_0⟩ := Kd.at_int (Kd.R_reads' HO_10.out).2.2 x13_1 p748 q748
   cases e748
   replace p748 := eq_true p748
   replace q748 := eq_true q748
   refine start_ (n := 13) (S := fun w' => w'.cell? (ad747.add (x13_1).toNat) = some (.int .i64 (rd t739 x13_1)) ∧ w'.cell? (ad748.add (x13_1).toNat) = some (.int .i64 (rd t743 x13_1))) (ds := [10,11]) (ba 13 0) (by kernel_rfl) rfl rfl ⟨hx747_0,hx748_0⟩ (fun hHeld => ?_);refine with_tabW q4_Gains.tab7 q4_Gains.bits7 (fun HT_ HW_ => ?_)
   generalize wr.drew = w22 at HO_8 HO_10 HO_12 BK725 BK726 HB hx747_0 hx748_0 hHeld ⊢
   refine pure_ (i := 0) (N := some 34) (v := ?_) (a' := ?_) (ba 13 1) rfl rfl (any_of HT_.out (by kernel_rfl)) (fun _ _ _ h => h) (Or.inl ⟨by rfl,?_⟩) ?_ ?_
   rotate_left
   · intro w'
     go_simp
     with_reducible rfl
   rotate_left
   · simp only [Act.put,NRM]
     rfl
   refine pure_ (i := 1) (N := some 35) (v := ?_) (a' := ?_) (ba 13 3) rfl rfl (any_of HT_.out (by kernel_rfl)) (fun _ _ _ h => h) (Or.inl ⟨by rfl,?_⟩) ?_ ?_
   rotate_left
   · intro w'
     go_simp
     with_reducible rfl
   rotate_left
   · simp only [Act.put,NRM]
     rfl
   refine pure_ (i := 2) (N := some 36) (v := ?_) (a' := ?_) (ba 13 7) rfl rfl (any_of HT_.out (by kernel_rfl)) (fun _ _ _ h => h) (Or.inl ⟨by rfl,?_⟩) ?_ ?_
   rotate_left
   · intro w'
     go_simp
     with_reducible rfl
   rotate_left
   · simp only [Act.put,NRM]
     rfl
   refine pure_ (i := 3) (N := some 37) (v := ?_) (a' := ?_) (ba 13 15) rfl rfl (any_of HT_.out (by kernel_rfl)) (fun _ _ _ h => h) (Or.inl ⟨by rfl,?_⟩) ?_ ?_
   rotate_left
   · intro w'
     go_simp
     with_reducible rfl
   rotate_left
   · simp only [Act.put,NRM]
     rfl
   refine pure_ (i := 5) (N := some 39) (v := ?_) (a' := ?_) (ba 13 47) rfl rfl (any_of HT_.out (by kernel_rfl)) (fun _ _ _ h => h) (Or.inl ⟨by rfl,?_⟩) ?_ ?_
   rotate_left
   · intro w'
     go_simp
     with_reducible rfl
   rotate_left
   · simp only [Act.put,NRM]
     rfl
   refine pure_ (i := 6) (N := some 40) (v := ?_) (a' := ?_) (ba 13 111) rfl rfl (any_of HT_.out (by kernel_rfl)) (fun _ _ _ h => h) (Or.inl ⟨by rfl,?_⟩) ?_ ?_
   rotate_left
   · intro w'
     go_simp
     with_reducible rfl
   rotate_left
   · simp only [Act.put,NRM]
     rfl
   refine pure_ (i := 7) (N := some 41) (v := ?_) (a' := ?_) (ba 13 239) rfl rfl (any_of HT_.out (by kernel_rfl)) (fun _ _ _ h => h) (Or.inl ⟨by rfl,?_⟩) ?_ ?_
   rotate_left
   · intro w'
     go_simp
     with_reducible rfl
   rotate_left
   · simp only [Act.put,NRM]
     rfl
   refine take_ (i := 4) (N := some 38) (v := ?_) (a' := ?_) (ba 13 255) rfl rfl (take_ofW HT_.out HW_.out (by kernel_rfl)) (fun _ _ _ h => h) (Or.inl ⟨by rfl,?_⟩) hHeld ?_ ?_
   rotate_left
   · rintro w' ⟨s0,s1⟩
     go_simp
     with_reducible rfl
   rotate_left
   · simp only [Act.put,NRM]
     rfl
   refine take_ (i := 8) (N := some 42) (v := ?_) (a' := ?_) (ba 13 511) rfl rfl (take_ofW HT_.out HW_.out (by kernel_rfl)) (fun _ _ _ h => h) (Or.inl ⟨by rfl,?_⟩) hHeld ?_ ?_
   rotate_left
   · rintro w' ⟨s0,s1⟩
     go_simp
     with_reducible rfl
   rotate_left
   · simp only [Act.put,NRM]
     rfl
   refine pure_ (i := 9) (N := some 43) (v := ?_) (a' := ?_) (ba 13 1023) rfl rfl (any_of HT_.out (by kernel_rfl)) (fun _ _ _ h => h) (Or.inl ⟨by rfl,?_⟩) ?_ ?_
   rotate_left
   · intro w'
     go_simp
     with_reducible rfl
   rotate_left
   · simp only [Act.put,NRM]
     rfl
   refine last_ (i := 10) (N := some 44) (ba 13 2047) rfl rfl (one_of HT_.out (by kernel_rfl)) (by decide) (fun K hK => ?_)
   refine value_ (w1 := ?_) (v := ?_) (by rfl) rfl ?_ ?_
   rotate_left 2
   · go_simp
     constructor
     · rfl
     · rfl
   refine hK.out _ _ ?_
   clear hK K
   refine norm_ (a' := ?_) ?_ ?_
   rotate_left
   · show Act.put _ (some 44) _ = _
     simp only [Act.put,NRM]
     rfl
   refine last_ (i := 11) (N := some 45) (ba 13 4095) rfl rfl (one_of HT_.out (by kernel_rfl)) (by decide) (fun K hK => ?_)
   refine Kd.R_append_step (Kd.int .i64) (w0 := w) w.heap.size (by rfl) (.tmp 34) (.tmp 44) 30 3 (.int .i64 0) 8 rfl Tryz.underlying30 info3 rfl (by decide) (by omega) u12 x12_1 (wrap64 ((rd t739 x13_1) - (rd t743 x13_1))) [.int .i64 (wrap64 ((rd t739 x13_1) - (rd t743 x13_1)))] (fun k_ => some k_ ≠ (.slice (some ad747) t739.length co21 : Value).ownBlock ∧ some k_ ≠ (.slice (some ad748) t743.length co23 : Value).ownBlock) (fun _ => False) rfl rfl ?aP (fun _ hk => hk.elim) ?aF ?aO ?aB ?aS ?aL ?_
   (case aP => exact rfl)
   (case aB => exact (by repeat (first | (with_reducible first | exact HB.out | refine below_set ?_ (Aside0.out (by assumption)) | apply below_alloc | apply pw_below_drewN) | exact HB.out)))
   (case aF => exact (fun k_ hk => ⟨Kd.fresh' (Kd.R_lt (by (with_reducible repeat (first | apply Kd.R_alloc | apply Kd.R_drewN | apply Kd.R_drew));exact HO_8.out)) k_ hk,Kd.fresh' (Kd.R_lt (by (with_reducible repeat (first | apply Kd.R_alloc | apply Kd.R_drewN | apply Kd.R_drew));exact HO_10.out)) k_ hk⟩))
   (case aO => exact (by (with_reducible repeat (first | apply Kd.R_alloc | apply Kd.R_drewN | apply Kd.R_drew));exact HO_12.out))
   (case aS => exact (below_size (by repeat (first | (with_reducible first | exact HB.out | refine below_set ?_ (Aside0.out (by assumption)) | apply below_alloc | apply pw_below_drewN) | exact HB.out))))
   (case aL => have := LMc20.out;omega)
   intro v750 w24 ho hb hg hat
   rw [← Ny749.out] at ho
   have n0_ := am (Kd.R_after (ok := (fun k_ => some k_ ≠ (.slice (some ad748) t743.length co23 : Value).ownBlock)) (by (with_reducible repeat (first | apply Kd.R_alloc | apply Kd.R_drewN | apply Kd.R_drew));exact HO_8.out) hg hat)
   have n1_ := am (Kd.R_after (ok := (fun k_ => some k_ ≠ (.slice (some ad747) t739.length co21 : Value).ownBlock)) (by (with_reducible repeat (first | apply Kd.R_alloc | apply Kd.R_drewN | apply Kd.R_drew));exact HO_10.out) hg hat)
   have n2_ := am (blk_grown (g := gb725) (o := .cells #[.slice A0_0 l0_0.length c0_0,.int .i64 a0_1,.slice A0_2 l0_2.length c0_2,.int .i64 a0_3,.int .i64 a0_4] 27 (0,0)) (by (with_reducible repeat (first | refine blk_drewN ?_ _ | refine blk_drew ?_ | refine blk_alloc ?_ _));exact BK725.out) hg (Kd.R_ne HO_12.out BK725.out (by decide)))
   have n3_ := am (blk_grown (g := gb726) (o := .cells #[.int .i64 a1_0,.int .i64 a1_1] 58 (0,0)) (by (with_reducible repeat (first | refine blk_drewN ?_ _ | refine blk_drew ?_ | refine blk_alloc ?_ _));exact BK726.out) hg (Kd.R_ne HO_12.out BK726.out (by decide)))
   have n4_ := am (hb)
   have n5_ := am (ho)
   clear HO_8
   clear HO_10
   clear BK725
   clear BK726
   clear HB
   clear HO_12
   have HO_8 := n0_
   have HO_10 := n1_
   have BK725 := n2_
   have BK726 := n3_
   have HB := n4_
   have HO751 := n5_
   clear n0_ n1_ n2_ n3_ n4_ n5_
   clear ho hb hg hat
   refine hK.out _ _ ?_
   clear hK K
   refine norm_ (a' := ?_) ?_ ?_
   rotate_left
   · show Act.put _ (some 45) _ = _
     simp only [Act.put,NRM]
     rfl
   refine pure_ (i := 12) (N := some 12) (v := ?_) (a' := ?_) (ba 13 8191) rfl rfl (any_of HT_.out (by kernel_rfl)) (fun _ _ _ h => h) (Or.inl ⟨by rfl,?_⟩) ?_ ?_
   rotate_left
   · intro w'
     go_simp
     with_reducible rfl
   rotate_left
   · simp only [Act.put,NRM]
     rfl
   refine done_ (done_of HT_.out (by kernel_rfl)) ?_
   try go_wp2
   go_roundg k1
   case measure => have := HK1.out;omega
   case rel => exact ⟨(y749),(wrap64 (x13_1 + 1)),(by first | rfl | (simp;done) | (simp [*];done)),H',⟨by have := HK1.out;omega⟩,⟨by (with_reducible repeat (first | apply Kd.R_alloc | apply Kd.R_drewN | apply Kd.R_drew));exact HO_8.out⟩,⟨by (with_reducible repeat (first | apply Kd.R_alloc | apply Kd.R_drewN | apply Kd.R_drew));exact HO_10.out⟩,⟨by (with_reducible repeat (first | apply Kd.R_alloc | apply Kd.R_drewN | apply Kd.R_drew));exact HO751.out⟩,⟨by (with_reducible repeat (first | refine blk_drewN ?_ _ | refine blk_drew ?_ | refine blk_alloc ?_ _));exact BK725.out⟩,⟨by (with_reducible repeat (first | refine blk_drewN ?_ _ | refine blk_drew ?_ | refine blk_alloc ?_ _));exact BK726.out⟩,⟨by repeat (first | (with_reducible first | exact HB.out | refine below_set ?_ (Aside0.out (by assumption)) | apply below_alloc | apply pw_below_drewN) | exact HB.out)⟩⟩
end
end Go.Proofs.YticlelgmmonloaaGreatDoor.C

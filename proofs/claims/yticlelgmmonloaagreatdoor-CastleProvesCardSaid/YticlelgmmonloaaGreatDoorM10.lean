/- A part of the proof: the walks of the functions that it reaches. TIGHT. -/
import Derived.Test.YticlelgmmonloaaGreatDoorM9
import Derived.Outline
import Derived.Laws.EntriesVeiled
namespace Go.Proofs.YticlelgmmonloaaGreatDoor.C
open Go.RowKit Go.Proofs.YticlelgmmonloaaGreatDoorW.PrintWords Go.Proofs.YticlelgmmonloaaGreatDoorW.PrintLast Go.Proofs.YticlelgmmonloaaGreatDoorW.PrintMore
set_option linter.unusedVariables false
set_option linter.unusedSimpArgs false
set_option maxHeartbeats 16000000
set_option maxRecDepth 100000
section
attribute [local go_sem] max2_int min2_int max_two min_two
def ca_moved.l0 : Nat → List Int → Int → Int → List (S126) → Int → List (S64) → Int → Int → Option (Int × (List (S64)) × Int × Int)
 | 0,_,_,_,_,_,_,_,_ => none
 | k + 1,x11,x12,x13,x1017000,x1017001,x1017002,x1017003,x1017004 => if x13 < x12 then (if 0 ≤ x13 then (if x13 < (x11.length : Int) then (if x13 < (x1017002.length : Int) then (ca_moved.l0 k x11 x12 (wrap64 (x13 + 1)) x1017000 x1017001 (x1017002.set (x13 : Int).toNat (⟨(rd_T64 x1017002 x13).f0,rd x11 x13⟩ : S64)) x1017003 x1017004) else (none)) else (none)) else (none)) else (some (x1017001,x1017002,x1017003,x1017004))
def ca_moved.f (k : Nat) (l0_0 : List (S126)) (a0_1 : Int) (l0_2 : List (S64)) (a0_3 : Int) (a0_4 : Int) (l1 : List Int) : Option (Int × (List (S64)) × Int × Int) := (sl_Clone_Z.f l0_2).bind fun t1018 => (ca_moved.l0 k l1 (l1.length : Int) 0 l0_0 a0_1 t1018 a0_3 a0_4)
theorem ca_moved.calls (k : Nat) (A0_0 : Option Addr) (c0_0 : Nat) (l0_0 : List (S126)) (a0_1 : Int) (A0_2 : Option Addr) (c0_2 : Nat) (l0_2 : List (S64)) (a0_3 : Int) (a0_4 : Int) (A1 : Option Addr) (c1 : Nat) (l1 : List Int) (r1 : Int) (r2 : List (S64)) (r3 : Int) (r4 : Int) (w : World) (hr0_0 : Kd.C k126 w A0_0 l0_0.length l0_0) (hc0_0 : l0_0.length ≤ c0_0) (hr0_2 : Kd.C k64 w A0_2 l0_2.length l0_2) (hc0_2 : l0_2.length ≤ c0_2) (hr1 : Kd.C (Kd.int .i64) w A1 l1.length l1) (hc1 : l1.length ≤ c1) (h : ca_moved.f k l0_0 a0_1 l0_2 a0_3 a0_4 l1 = some (r1,r2,r3,r4)) :
 Calls Tryz.prog 78 #[.agg #[.slice A0_0 l0_0.length c0_0,.int .i64 a0_1,.slice A0_2 l0_2.length c0_2,.int .i64 a0_3,.int .i64 a0_4],.slice A1 l1.length c1] w fun e w' => ∃ v1_ : Value,e = .returned (.agg #[.slice A0_0 l0_0.length c0_0,.int .i64 r1,v1_,.int .i64 r3,.int .i64 r4]) ∧ Kd.R k64 64 w' w.heap.size (fun _ => True) v1_ r2 ∧ Below w.heap.size w w' := by
 have hu27 := Tryz.underlying27
 have HR0_0 := am hr0_0
 have HC0_0 := am hc0_0
 clear hr0_0 hc0_0
 have HR0_2 := am hr0_2
 have HC0_2 := am hc0_2
 clear hr0_2 hc0_2
 have HR1 := am hr1
 have HC1 := am hc1
 clear hr1 hc1
 have HB := am (Below.refl w.heap.size w)
 have H : ((sl_Clone_Z.f l0_2).bind fun t1018 => (ca_moved.l0 k l1 (l1.length : Int) 0 l0_0 a0_1 t1018 a0_3 a0_4)) = some (r1,r2,r3,r4) := h
 clear h
 replace H := obm H
 obtain ⟨t1018,A30,H⟩ := H
 (try dsimp only at H)
 have A3 := am A30
 clear A30
 replace H' := am H
 go_enter Tryz.func78,Tryz.ntmps78
 go_wp2_with (first | ((refine gate_dst (N := 2) rfl ?_);refine box_event rfl (N := 2) rfl (cs := #[.slice A0_0 l0_0.length c0_0,.int .i64 a0_1,.slice A0_2 l0_2.length c0_2,.int .i64 a0_3,.int .i64 a0_4]) (t := 27) ?hr ?_;(case hr => go_simp;try rfl);intro gb1016 hg w4 hbox hb;have BK1016 := am (hbox);have GE1016 := am (ge_new (HB.out) hg);replace HB := am (below_step (HB.out) hb);clear hb hbox hg) | ((refine gate_dst (N := 4) rfl ?_);refine box_event rfl (N := 4) rfl (cs := #[.slice none 0 0,.int .i64 0,.slice none 0 0,.int .i64 0,.int .i64 0]) (t := 27) ?hr ?_;(case hr => go_simp;try rfl);intro gb1017 hg w5 hbox hb;have BK1017 := am (hbox);have GE1017 := am (ge_new (HB.out) hg);have NB1016_1017 := am (ne_new BK1016.out hg);have NB1017_1016 := am (ne_new2 BK1016.out hg);replace BK1016 := (kmv hb BK1016);replace HB := am (below_step (HB.out) hb);clear hb hbox hg;have hnb6 := NB1016_1017.out;have hnc6 := NB1017_1016.out;obtain ⟨hcz7_0,hcz7_1,hcz7_2,hcz7_3,hcz7_4⟩ := cO5 BK1016.out;have hfz7_0 := blk_frozen BK1016.out 0;have hfz7_1 := blk_frozen BK1016.out 1;have hfz7_2 := blk_frozen BK1016.out 2;have hfz7_3 := blk_frozen BK1016.out 3;have hfz7_4 := blk_frozen BK1016.out 4) | ((with_reducible refine gate_callee (f := 103) rfl ?_);refine goesL_ (some 9) rfl rfl Tryz.func103 (by kernel_rfl) rfl #[.slice A0_2 l0_2.length c0_2] rfl (by (try simp only [List.map_toArray,List.map_cons,List.map_nil]);first | done | rfl | (simp only [List.length_drop,List.length_take];rfl)) ?_;(refine (sl_Clone_Z.calls _ _ l0_2 t1018 _ ?side1 ?side2 A3.out).mono ?_);(case side1 => exact kC HR0_2.out HB.out);(case side2 => exact HC0_2.out);rintro e w8 ⟨v1019,rfl,ho0,hb⟩;refine ⟨_,rfl,?_⟩;have HO1020 := am (Kd.R_lower ho0 (below_size (HB.out)));replace BK1016 := (kmv hb BK1016);replace BK1017 := (kmv hb BK1017);replace HB := am (below_step (HB.out) hb);(try clear hb);(try clear hb2);(try clear hk);(try clear hi);(try clear ho0);obtain ⟨Ao9,co9,eo9⟩ := Kd.R_slice HO1020.out;subst eo9;obtain ⟨hcz10_0,hcz10_1,hcz10_2,hcz10_3,hcz10_4⟩ := cO5 BK1016.out;have hfz10_0 := blk_frozen BK1016.out 0;have hfz10_1 := blk_frozen BK1016.out 1;have hfz10_2 := blk_frozen BK1016.out 2;have hfz10_3 := blk_frozen BK1016.out 3;have hfz10_4 := blk_frozen BK1016.out 4))
 go_loopg [13] k (fun kq v13 w' => ∃ (x13_1 : Int) (x1017002_1 : List (S64)) (u1017002 : Value),v13 = .int .i64 x13_1 ∧ Aside0 (ca_moved.l0 kq l1 (l1.length : Int) x13_1 l0_0 a0_1 x1017002_1 a0_3 a0_4 = some (r1,r2,r3,r4)) ∧ Aside0 (kq ≤ k) ∧ Aside0 (Kd.R k64 64 w' w.heap.size (fun _ => True) u1017002 x1017002_1) ∧ Aside0 (w'.heap[gb1016]? = some (.cells #[(.slice A0_0 l0_0.length c0_0),.int .i64 a0_1,u1017002,.int .i64 a0_3,.int .i64 a0_4] 27 (0,0))) ∧ Aside0 (w'.heap[gb1017]? = some (.cells #[(.slice none 0 0),.int .i64 0,(.slice none 0 0),.int .i64 0,.int .i64 0] 27 (0,0))) ∧ Aside0 (Below w.heap.size w w'))
 case atStart => exact ⟨(0),(t1018),(.slice Ao9 t1018.length co9),(by first | rfl | (simp;done) | (simp [*];done)),H',⟨Nat.le_refl _⟩,⟨by (with_reducible repeat (first | apply Kd.R_alloc | apply Kd.R_drewN | apply Kd.R_drew));exact Kd.R_mono (Kd.R_far (p := ⟨gb1016,2,none⟩) (Kd.R_types HO1020.out BK1016.out (by decide)) (fun _ hk => hk.2) (.slice Ao9 t1018.length co9)) (fun _ hk => trivial)⟩,⟨(blk_put (cs := #[.slice A0_0 l0_0.length c0_0,.int .i64 a0_1,.slice A0_2 l0_2.length c0_2,.int .i64 a0_3,.int .i64 a0_4]) BK1016.out 2 _ rfl)⟩,⟨(blk_far BK1017.out NB1017_1016.out _)⟩,⟨by repeat (first | (with_reducible first | exact HB.out | refine below_set ?_ (Aside0.out (by assumption)) | apply below_alloc | apply pw_below_drewN) | exact HB.out)⟩⟩
 case round =>
  clear H'
  obtain ⟨x13_1,x1017002_1,u1017002,rfl,HA,HK1,HO_1017002,BK1016,BK1017,HB⟩ := hrel
  cases gk with
  | zero => exact absurd HA.out (by simp [ca_moved.l0])
  | succ k1 =>
   have H := HA.out
   clear HA
   simp only [ca_moved.l0] at H
   by_cases c11 : x13_1 < (l1.length : Int)
   case neg =>
    rw [if_neg c11] at H
    have c11b0 : decide (x13_1 < (l1.length : Int)) = false := decide_eq_false c11
    clear c11
    simp only [Option.some.injEq,Prod.mk.injEq] at H
    obtain ⟨rfl,rfl,rfl,rfl⟩ := H
    have hnb20 := NB1016_1017.out
    have hnc20 := NB1017_1016.out
    obtain ⟨hcz21_0,hcz21_1,hcz21_2,hcz21_3,hcz21_4⟩ := cO5 BK1016.out
    have hfz21_0 := blk_frozen BK1016.out 0
    have hfz21_1 := blk_frozen BK1016.out 1
    have hfz21_2 := blk_frozen BK1016.out 2
    have hfz21_3 := blk_frozen BK1016.out 3
    have hfz21_4 := blk_frozen BK1016.out 4
    obtain ⟨hcz22_0,hcz22_1,hcz22_2,hcz22_3,hcz22_4⟩ := cO5 BK1017.out
    have hfz22_0 := blk_frozen BK1017.out 0
    have hfz22_1 := blk_frozen BK1017.out 1
    have hfz22_2 := blk_frozen BK1017.out 2
    have hfz22_3 := blk_frozen BK1017.out 3
    have hfz22_4 := blk_frozen BK1017.out 4
    obtain ⟨Ao23,co23,eo23⟩ := Kd.R_slice HO_1017002.out
    subst eo23
    go_wp2
    refine bodyPost_ret (results_cell_row rfl _ _ gb1017 27 #[.slice A0_0 l0_0.length c0_0,.int .i64 a0_1,.slice Ao23 x1017002_1.length co23,.int .i64 a0_3,.int .i64 a0_4] (0,0) _ rfl (blk_put (cs := #[.slice A0_0 l0_0.length c0_0,.int .i64 a0_1,.slice Ao23 x1017002_1.length co23,.int .i64 a0_3,.int .i64 0]) (blk_put (cs := #[.slice A0_0 l0_0.length c0_0,.int .i64 a0_1,.slice Ao23 x1017002_1.length co23,.int .i64 0,.int .i64 0]) (blk_put (cs := #[.slice A0_0 l0_0.length c0_0,.int .i64 a0_1,.slice none 0 0,.int .i64 0,.int .i64 0]) (blk_put (cs := #[.slice A0_0 l0_0.length c0_0,.int .i64 0,.slice none 0 0,.int .i64 0,.int .i64 0]) (blk_put (cs := #[.slice none 0 0,.int .i64 0,.slice none 0 0,.int .i64 0,.int .i64 0]) BK1017.out 0 _ rfl) 1 _ rfl) 2 _ rfl) 3 _ rfl) 4 _ rfl) Tryz.underlying27 rfl (by kernel_rfl)) rfl ?_
    exact ⟨_,by first | rfl | (simp [*] <;> rfl),by (with_reducible repeat (first | apply Kd.R_alloc | apply Kd.R_drewN | apply Kd.R_drew));exact Kd.R_mono (Kd.R_far (p := ⟨gb1017,4,none⟩) (Kd.R_far (p := ⟨gb1017,3,none⟩) (Kd.R_far (p := ⟨gb1017,2,none⟩) (Kd.R_far (p := ⟨gb1017,1,none⟩) (Kd.R_far (p := ⟨gb1017,0,none⟩) (Kd.R_types HO_1017002.out BK1017.out (by decide)) (fun _ hk => hk.2) (.slice A0_0 l0_0.length c0_0)) (fun _ hk => hk.2) (.int .i64 a0_1)) (fun _ hk => hk.2) (.slice Ao23 x1017002_1.length co23)) (fun _ hk => hk.2) (.int .i64 a0_3)) (fun _ hk => hk.2) (.int .i64 a0_4)) (fun _ hk => trivial),by repeat (first | (with_reducible first | exact HB.out | refine below_set ?_ (Aside0.out (by assumption)) | apply below_alloc | apply pw_below_drewN) | exact HB.out)⟩
   rw [if_pos c11] at H
   have c11b0 : decide (x13_1 < (l1.length : Int)) = true := decide_eq_true c11
   clear c11
   by_cases c12 : 0 ≤ x13_1
   case neg =>
    rw [if_neg c12] at H
    exact absurd H (by simp)
   rw [if_pos c12] at H
   have c12b0 : decide (0 ≤ x13_1) = true := decide_eq_true c12
   clear c12
   by_cases c13 : x13_1 < (l1.length : Int)
   case neg =>
    rw [if_neg c13] at H
    exact absurd H (by simp)
   rw [if_pos c13] at H
   have c13b0 : decide (x13_1 < (l1.length : Int)) = true := decide_eq_true c13
   clear c13
   by_cases c14 : x13_1 < (x1017002_1.length : Int)
   case neg =>
    rw [if_neg c14] at H
    exact absurd H (by simp)
   rw [if_pos c14] at H
   have c14b0 : decide (x13_1 < (x1017002_1.length : Int)) = true := decide_eq_true c14
   clear c14
   obtain ⟨y1022,hy1022⟩ : ∃ y_ : List (S64),y_ = (x1017002_1.set (x13_1 : Int).toNat (⟨(rd_T64 x1017002_1 x13_1).f0,rd l1 x13_1⟩ : S64)) := ⟨_,rfl⟩
   replace H : (ca_moved.l0 k1 l1 (l1.length : Int) (wrap64 (x13_1 + 1)) l0_0 a0_1 y1022 a0_3 a0_4) = some (r1,r2,r3,r4) := by first | (rw [hy1022];with_reducible exact H) | (have H2_ := (Option.bind_some _ _).symm.trans H;rw [hy1022];with_reducible exact H2_) | (have H2_ := (Option.bind_some _ _).symm.trans H;with_reducible exact H2_) | with_reducible exact H | (rw [hy1022];exact H) | exact H
   have Ny1022 := am hy1022
   clear hy1022
   replace H' := am H
   have p1021 : 0 ≤ (x13_1 : Int) := of_decide_eq_true (by assumption)
   have q1021 : x13_1 < (l1.length : Int) := of_decide_eq_true (by assumption)
   obtain ⟨ad1021,e1021,hx1021_0⟩ := Kd.at_int HR1.out x13_1 p1021 q1021
   cases e1021
   replace hx1021_0 := (HB.out.cell (wbl hx1021_0)).trans hx1021_0
   replace p1021 := eq_true p1021
   replace q1021 := eq_true q1021
   have hnb16 := NB1016_1017.out
   have hnc16 := NB1017_1016.out
   obtain ⟨hcz17_0,hcz17_1,hcz17_2,hcz17_3,hcz17_4⟩ := cO5 BK1016.out
   have hfz17_0 := blk_frozen BK1016.out 0
   have hfz17_1 := blk_frozen BK1016.out 1
   have hfz17_2 := blk_frozen BK1016.out 2
   have hfz17_3 := blk_frozen BK1016.out 3
   have hfz17_4 := blk_frozen BK1016.out 4
   have p15 : 0 ≤ (x13_1 : Int) := of_decide_eq_true (by assumption)
   have q15 : (x13_1 : Int) < ((x1017002_1.length : Int) : Int) := of_decide_eq_true (by assumption)
   obtain ⟨go15,co15,eo15,gb15,gl15,cl15,HG15⟩ := Kd.R_form HO_1017002.out (by omega)
   (first | cases eo15 | (injection eo15 with ea_ en_ ec_;(first | subst ea_ | (injection ea_ with ea_;subst ea_));subst ec_;clear en_))
   have GB15 := am gb15
   have GG15 := am HG15
   clear gb15 gl15 HG15
   obtain ⟨ce15,hcl15,hM15,hcc15,hfr15⟩ := Kd.R_elem HO_1017002.out z64 (x13_1 : Int) p15 q15
   obtain rfl := k64_openM hM15
   have hx15_0 : wr.cell? ⟨go15,(x13_1 : Int).toNat * 2,none⟩ = some (.int .i64 ((rd_T64 x1017002_1 x13_1).f0)) := hcc15 0 _ rfl
   have hx15_1 : wr.cell? ⟨go15,(x13_1 : Int).toNat * 2 + 1,none⟩ = some (.int .i64 ((rd_T64 x1017002_1 x13_1).f1)) := hcc15 1 _ rfl
   have hf15_0 : wr.frozen? ⟨go15,(x13_1 : Int).toNat * 2,none⟩ = false := hfr15 0
   have hf15_1 : wr.frozen? ⟨go15,(x13_1 : Int).toNat * 2 + 1,none⟩ = false := hfr15 1
   clear hcl15 hcc15 hfr15 hM15
   replace p15 := eq_true p15
   replace q15 := eq_true q15
   have HX18 := am (show Kd.R k64 64 wr w.heap.size (fun _ => True) (.slice (some ⟨go15,0,none⟩) x1017002_1.length co15) x1017002_1 from HO_1017002.out)
   obtain ⟨ce18,hcl18,hM18,hcc18,hfr18⟩ := Kd.R_elem HX18.out z64 (x13_1 : Int) (of_decide_eq_true (by assumption)) (by have h_ : (x13_1 : Int) < ((x1017002_1.length : Int) : Int) := of_decide_eq_true (by assumption);first | exact h_ | (have e_ := (Kd.R_reads' HO_1017002.out).1;omega) | simpa using h_)
   obtain rfl := k64_openM hM18
   have HP18 := Kd.R_seg HX18.out (x13_1 : Int) (of_decide_eq_true (by assumption)) (by have h_ : (x13_1 : Int) < ((x1017002_1.length : Int) : Int) := of_decide_eq_true (by assumption);first | exact h_ | (have e_ := (Kd.R_reads' HO_1017002.out).1;omega) | simpa using h_) (seg := [.int .i64 (rd l1 x13_1)]) (j := 1) hcl18 hcc18 (show 2 ≤ 2 from by decide) (x' := (⟨(rd_T64 x1017002_1 x13_1).f0,rd l1 x13_1⟩ : S64)) (k64_mkM _ _ _ (⟨(rd_T64 x1017002_1 x13_1).f0,rd l1 x13_1⟩ : S64) ) (fun _ hk => hk)
   have hx18_1 := hcc18 1 _ rfl
   (try simp only [show (k64).sz = 2 from rfl,Nat.mul_one,Nat.add_zero] at hx18_1)
   have hf18_1 := hfr18 1
   (try simp only [show (k64).sz = 2 from rfl,Nat.mul_one,Nat.add_zero] at hf18_1)
   clear hcl18 hcc18 hfr18 hM18
   go_wp2_with (first | ((with_reducible refine gate_store (t := 3) (p := 23) rfl ?_);refine store_event (t := 3) (p := 23) (v := ?vo_w19) (w1 := (wr.setCell ⟨go15,(x13_1 : Int).toNat * 2 + 1,none⟩ (.int .i64 (rd l1 x13_1)))) ?hg ?ho ?hn ?hr ?_;(case ho => rfl);(case hg => rfl);(case hn => rfl);(case hr => go_simp;try rfl);intro w19 hw;have hg : wr.grownBy w19 (some go15) := (by rw [hw];exact HP18.2);have hp_ : Kd.R k64 64 w19 w.heap.size (fun _ => True) (.slice (some ⟨go15,0,none⟩) x1017002_1.length co15) y1022 := (by rw [hw,Ny1022.out];exact HP18.1);clear HP18;have n0_ := am (hp_);have n1_ := am (blk_grown (g := gb1016) (o := .cells #[.slice A0_0 l0_0.length c0_0,.int .i64 a0_1,.slice (some ⟨go15,0,none⟩) x1017002_1.length co15,.int .i64 a0_3,.int .i64 a0_4] 27 (0,0)) BK1016.out hg (Kd.R_ne HO_1017002.out BK1016.out (by decide)));have n2_ := am (blk_grown (g := gb1017) (o := .cells #[.slice none 0 0,.int .i64 0,.slice none 0 0,.int .i64 0,.int .i64 0] 27 (0,0)) BK1017.out hg (Kd.R_ne HO_1017002.out BK1017.out (by decide)));have n3_ := am ((by rw [hw];exact below_set (HB.out) GB15.out : Below w.heap.size w w19));clear HO_1017002;clear BK1016;clear BK1017;clear HB;have HO_1017002 := n0_;have BK1016 := n1_;have BK1017 := n2_;have HB := n3_;clear n0_ n1_ n2_ n3_;clear hg hw hp_))
   go_roundg k1
   case measure => have := HK1.out;omega
   case rel => exact ⟨(wrap64 (x13_1 + 1)),(y1022),(.slice (some ⟨go15,0,none⟩) x1017002_1.length co15),(by first | rfl | (simp;done) | (simp [*];done)),H',⟨by have := HK1.out;omega⟩,⟨by (with_reducible repeat (first | apply Kd.R_alloc | apply Kd.R_drewN | apply Kd.R_drew));exact HO_1017002.out⟩,⟨BK1016.out⟩,⟨BK1017.out⟩,⟨HB.out⟩⟩
end
def levelGo (l0_0 : List S126) (a0_1 : Int) (l0_2 : List S64) (a0_3 a0_4 : Int) (l0_5 : List (List Int)) (a1 : Int) : Nat → Int → Int → Option Int
 | 0,_,out => some out
 | n + 1,h,out => (gf_out.f l0_0 a0_1 l0_2 a0_3 a0_4 l0_5 h).bind fun t => if t > a1 then some out else levelGo l0_0 a0_1 l0_2 a0_3 a0_4 l0_5 a1 n (h + 1) h
def gf_level.f (l0_0 : List S126) (a0_1 : Int) (l0_2 : List S64) (a0_3 a0_4 : Int) (l0_5 : List (List Int)) (a1 : Int) : Option Int := levelGo l0_0 a0_1 l0_2 a0_3 a0_4 l0_5 a1 l0_5.length 0 0
theorem gf_level.calls (A0_0 : Option Addr) (c0_0 : Nat) (l0_0 : List S126) (a0_1 : Int) (A0_2 : Option Addr) (c0_2 : Nat) (l0_2 : List S64) (a0_3 a0_4 : Int) (A0_5 : Option Addr) (c0_5 : Nat) (l0_5 : List (List Int)) (a1 : Int) (r : Int) (w : World) (hr0_0 : Kd.C k126 w A0_0 l0_0.length l0_0) (hc0_0 : l0_0.length ≤ c0_0) (hr0_2 : Kd.C k64 w A0_2 l0_2.length l0_2) (hc0_2 : l0_2.length ≤ c0_2) (hr0_5 : Kd.C (Kd.slice 3 (Kd.int .i64)) w A0_5 l0_5.length l0_5) (hc0_5 : l0_5.length ≤ c0_5) (h : gf_level.f l0_0 a0_1 l0_2 a0_3 a0_4 l0_5 a1 = some r) :
 Calls Tryz.prog 67 #[.agg #[.slice A0_0 l0_0.length c0_0,.int .i64 a0_1,.slice A0_2 l0_2.length c0_2,.int .i64 a0_3,.int .i64 a0_4,.slice A0_5 l0_5.length c0_5],.int .i64 a1] w fun e w' => e = .returned (.int .i64 r) ∧ Below w.heap.size w w' := by
 have hu := Tryz.underlying99
 have HB := am (Below.refl w.heap.size w)
 have hm : l0_5.length ≤ 9223372036854775807 := Kd.C_max hr0_5
 have HR0 := am hr0_0
 have HC0 := am hc0_0
 have HR2 := am hr0_2
 have HC2 := am hc0_2
 have HR5 := am hr0_5
 have HC5 := am hc0_5
 clear hr0_0 hc0_0 hr0_2 hc0_2 hr0_5 hc0_5
 have HQ := am (show levelGo l0_0 a0_1 l0_2 a0_3 a0_4 l0_5 a1 ((l0_5.length : Int) - 0).toNat 0 0 = some r from h)
 clear h
 go_enter Tryz.func67,Tryz.ntmps67
 go_wp2_with ((refine gate_dst (N := 2) rfl ?_);(try (refine gate_guard (by rfl) ?_;dsimp only));refine box_event rfl (N := 2) rfl (cs := #[.slice A0_0 l0_0.length c0_0,.int .i64 a0_1,.slice A0_2 l0_2.length c0_2,.int .i64 a0_3,.int .i64 a0_4,.slice A0_5 l0_5.length c0_5]) (t := 99) ?hr ?_;(case hr => go_simp;try rfl);intro g hg w2 hbox hb;replace HB := (bmv HB hb);clear hg;have BKg := am hbox;clear hbox;(try clear hczg_0 hczg_1 hczg_2 hczg_3 hczg_4 hczg_5);obtain ⟨hczg_0,hczg_1,hczg_2,hczg_3,hczg_4,hczg_5⟩ := cO6 BKg.out;clear hb)
 go_step3
 go_wp2
 go_step3
 go_wp2
 go_loopw [5,6,10] (fun v5 v6 v10 w' => ∃ i out : Int,0 ≤ i ∧ i ≤ l0_5.length ∧ v5 = .int .i64 out ∧ v10 = .int .i64 i ∧ Aside0 (levelGo l0_0 a0_1 l0_2 a0_3 a0_4 l0_5 a1 ((l0_5.length : Int) - i).toNat i out = some r) ∧ Aside0 (Below w.heap.size w w') ∧ Aside0 (w'.heap[g]? = some (.cells #[.slice A0_0 l0_0.length c0_0,.int .i64 a0_1,.slice A0_2 l0_2.length c0_2,.int .i64 a0_3,.int .i64 a0_4,.slice A0_5 l0_5.length c0_5] 99 (0,0)))) (fun _ _ v10 _ => l0_5.length - (intOf v10).toNat)
 case atStart => exact ⟨0,0,by omega,by omega,rfl,rfl,HQ,HB,BKg⟩
 case round =>
  clear HQ HB BKg
  obtain ⟨i,out,p1,hi,rfl,rfl,HQ,HB,BKg⟩ := hrel
  by_cases hlt : i < (l0_5.length : Int)
  case neg =>
   go_wp2
   (try rw [Exit.noGoto_ret])
   go_ret
   have hq := HQ.out
   rw [show ((l0_5.length : Int) - i).toNat = 0 by omega] at hq
   exact ⟨ret_int_eq (Option.some.inj hq),HB.out⟩
  have hq := HQ.out
  rw [show ((l0_5.length : Int) - i).toNat = ((l0_5.length : Int) - (i + 1)).toNat + 1 by omega] at hq
  simp only [levelGo] at hq
  obtain ⟨t,ht,hq⟩ := obm hq
  have H1 := am ht
  clear ht HQ
  (try clear hczg_0 hfzg_0);have hczg_0 : wr.cell? ⟨g,0,none⟩ = some (.slice A0_0 l0_0.length c0_0) := (blk_cell BKg.out 0).trans rfl;have hfzg_0 := blk_frozen BKg.out 0
  (try clear hczg_1 hfzg_1);have hczg_1 : wr.cell? ⟨g,1,none⟩ = some (.int .i64 a0_1) := (blk_cell BKg.out 1).trans rfl;have hfzg_1 := blk_frozen BKg.out 1
  (try clear hczg_2 hfzg_2);have hczg_2 : wr.cell? ⟨g,2,none⟩ = some (.slice A0_2 l0_2.length c0_2) := (blk_cell BKg.out 2).trans rfl;have hfzg_2 := blk_frozen BKg.out 2
  (try clear hczg_3 hfzg_3);have hczg_3 : wr.cell? ⟨g,3,none⟩ = some (.int .i64 a0_3) := (blk_cell BKg.out 3).trans rfl;have hfzg_3 := blk_frozen BKg.out 3
  (try clear hczg_4 hfzg_4);have hczg_4 : wr.cell? ⟨g,4,none⟩ = some (.int .i64 a0_4) := (blk_cell BKg.out 4).trans rfl;have hfzg_4 := blk_frozen BKg.out 4
  (try clear hczg_5 hfzg_5);have hczg_5 : wr.cell? ⟨g,5,none⟩ = some (.slice A0_5 l0_5.length c0_5) := (blk_cell BKg.out 5).trans rfl;have hfzg_5 := blk_frozen BKg.out 5
  by_cases hgt : t > a1
  · rw [if_pos hgt] at hq
    have H2 := am (Option.some.inj hq)
    have b1 : decide (a1 < t) = true := decide_eq_true hgt
    clear hq hgt
    go_wp2_with (go_at_call 99;refine (gf_out.calls A0_0 c0_0 l0_0 a0_1 A0_2 c0_2 l0_2 a0_3 a0_4 A0_5 c0_5 l0_5 i t _ (kC HR0.out HB.out) HC0.out (kC HR2.out HB.out) HC2.out (kC HR5.out HB.out) HC5.out H1.out).mono ?_;rintro e w3 ⟨rfl,hb⟩;have n_ := (kmv hb BKg);have m_ := (bmv HB hb);clear BKg HB hb hczg_0 hczg_1 hczg_2 hczg_3 hczg_4 hczg_5 hfzg_0 hfzg_1 hfzg_2 hfzg_3 hfzg_4 hfzg_5;have BKg := n_;have HB := m_;clear n_ m_)
    (try rw [Exit.noGoto_ret])
    go_ret
    exact ⟨ret_int_eq H2.out,HB.out⟩
  · rw [if_neg hgt] at hq
    have H2 := am hq
    have b1 : decide (a1 < t) = false := decide_eq_false hgt
    clear hq hgt
    go_wp2_with (go_at_call 99;refine (gf_out.calls A0_0 c0_0 l0_0 a0_1 A0_2 c0_2 l0_2 a0_3 a0_4 A0_5 c0_5 l0_5 i t _ (kC HR0.out HB.out) HC0.out (kC HR2.out HB.out) HC2.out (kC HR5.out HB.out) HC5.out H1.out).mono ?_;rintro e w3 ⟨rfl,hb⟩;have n_ := (kmv hb BKg);have m_ := (bmv HB hb);clear BKg HB hb hczg_0 hczg_1 hczg_2 hczg_3 hczg_4 hczg_5 hfzg_0 hfzg_1 hfzg_2 hfzg_3 hfzg_4 hfzg_5;have BKg := n_;have HB := m_;clear n_ m_)
    go_roundw
    case rel => exact ⟨i + 1,i,by omega,by omega,rfl,by go_num,H2,HB,BKg⟩
    case measure => simp [intOf];omega
section
attribute [local go_sem] max2_int min2_int max_two min_two
def gf_shares.l0 : Nat → Int → List Int → Int → List Int → Int → Int → Option (List Int × Int)
 | 0,_,_,_,_,_,_ => none
 | k + 1,x1,x7,x8,x33,x34,x35 => if x35 < x34 then (if 0 ≤ x35 then (if x35 < (x33.length : Int) then (if x35 < (x7.length : Int) then (gf_shares.l0 k x1 (x7.set (x35 : Int).toNat (wrap64 ((rd x7 x35) + (mn x8 (wrap64 ((rd x33 x35) - (rd x7 x35))))))) (wrap64 (x8 - (mn x8 (wrap64 ((rd x33 x35) - (rd x7 x35)))))) x33 x34 (wrap64 (x35 + 1))) else (none)) else (none)) else (none)) else ((ca_sum.f k x7).bind fun t162 => (some (x7,wrap64 (x1 - t162))))
def gf_shares.f (k : Nat) (l0_0 : List (S126)) (a0_1 : Int) (l0_2 : List (S64)) (a0_3 : Int) (a0_4 : Int) (l0_5 : List (List Int)) (a1 : Int) : Option (List Int × Int) := (gf_level.f l0_0 a0_1 l0_2 a0_3 a0_4 l0_5 a1).bind fun t151 => (if 0 ≤ t151 then (if t151 < (l0_5.length : Int) then ((sl_Clone_int.f (rd_L3 l0_5 t151)).bind fun t153 => (if t151 < 40 then ((gf_out.f l0_0 a0_1 l0_2 a0_3 a0_4 l0_5 t151).bind fun t156 => (if 0 ≤ (wrap64 (t151 + 1)) then (if (wrap64 (t151 + 1)) < (l0_5.length : Int) then (gf_shares.l0 k a1 t153 (wrap64 (a1 - t156)) (rd_L3 l0_5 (wrap64 (t151 + 1))) ((rd_L3 l0_5 (wrap64 (t151 + 1))).length : Int) 0) else (none)) else (none))) else ((ca_sum.f k t153).bind fun t163 => (some (t153,wrap64 (a1 - t163)))))) else (none)) else (none))
theorem gf_shares.calls (k : Nat) (A0_0 : Option Addr) (c0_0 : Nat) (l0_0 : List (S126)) (a0_1 : Int) (A0_2 : Option Addr) (c0_2 : Nat) (l0_2 : List (S64)) (a0_3 : Int) (a0_4 : Int) (A0_5 : Option Addr) (c0_5 : Nat) (l0_5 : List (List Int)) (a1 : Int) (r1 : List Int) (r2 : Int) (w : World) (hr0_0 : Kd.C k126 w A0_0 l0_0.length l0_0) (hc0_0 : l0_0.length ≤ c0_0) (hr0_2 : Kd.C k64 w A0_2 l0_2.length l0_2) (hc0_2 : l0_2.length ≤ c0_2) (hr0_5 : Kd.C (Kd.slice 3 (Kd.int .i64)) w A0_5 l0_5.length l0_5) (hc0_5 : l0_5.length ≤ c0_5) (h : gf_shares.f k l0_0 a0_1 l0_2 a0_3 a0_4 l0_5 a1 = some (r1,r2)) :
 Calls Tryz.prog 60 #[.agg #[.slice A0_0 l0_0.length c0_0,.int .i64 a0_1,.slice A0_2 l0_2.length c0_2,.int .i64 a0_3,.int .i64 a0_4,.slice A0_5 l0_5.length c0_5],.int .i64 a1] w fun e w' => ∃ v0_ : Value,e = .returned (.tuple #[v0_,.int .i64 r2]) ∧ Kd.R (Kd.int .i64) 3 w' w.heap.size (fun _ => True) v0_ r1 ∧ Below w.heap.size w w' := by
 have hu99 := Tryz.underlying99
 have HR0_0 := am hr0_0
 have HC0_0 := am hc0_0
 clear hr0_0 hc0_0
 have HR0_2 := am hr0_2
 have HC0_2 := am hc0_2
 clear hr0_2 hc0_2
 have HR0_5 := am hr0_5
 have HC0_5 := am hc0_5
 clear hr0_5 hc0_5
 have HB := am (Below.refl w.heap.size w)
 have H : ((gf_level.f l0_0 a0_1 l0_2 a0_3 a0_4 l0_5 a1).bind fun t151 => (if 0 ≤ t151 then (if t151 < (l0_5.length : Int) then ((sl_Clone_int.f (rd_L3 l0_5 t151)).bind fun t153 => (if t151 < 40 then ((gf_out.f l0_0 a0_1 l0_2 a0_3 a0_4 l0_5 t151).bind fun t156 => (if 0 ≤ (wrap64 (t151 + 1)) then (if (wrap64 (t151 + 1)) < (l0_5.length : Int) then (gf_shares.l0 k a1 t153 (wrap64 (a1 - t156)) (rd_L3 l0_5 (wrap64 (t151 + 1))) ((rd_L3 l0_5 (wrap64 (t151 + 1))).length : Int) 0) else (none)) else (none))) else ((ca_sum.f k t153).bind fun t163 => (some (t153,wrap64 (a1 - t163)))))) else (none)) else (none))) = some (r1,r2) := h
 clear h
 replace H := obm H
 obtain ⟨t151,A30,H⟩ := H
 (try dsimp only at H)
 have A3 := am A30
 clear A30
 by_cases c4 : 0 ≤ t151
 case neg =>
  rw [if_neg c4] at H
  exact absurd H (by simp)
 rw [if_pos c4] at H
 have c4b0 : decide (0 ≤ t151) = true := decide_eq_true c4
 clear c4
 by_cases c5 : t151 < (l0_5.length : Int)
 case neg =>
  rw [if_neg c5] at H
  exact absurd H (by simp)
 rw [if_pos c5] at H
 have c5b0 : decide (t151 < (l0_5.length : Int)) = true := decide_eq_true c5
 clear c5
 replace H := obm H
 obtain ⟨t153,A60,H⟩ := H
 (try dsimp only at H)
 have A6 := am A60
 clear A60
 by_cases c7 : t151 < 40
 case neg =>
  rw [if_neg c7] at H
  have c7b0 : decide (t151 < 40) = false := decide_eq_false c7
  clear c7
  replace H := obm H
  obtain ⟨t163,A310,H⟩ := H
  (try dsimp only at H)
  have A31 := am A310
  clear A310
  simp only [Option.some.injEq,Prod.mk.injEq] at H
  obtain ⟨rfl,rfl⟩ := H
  go_enter Tryz.func60,Tryz.ntmps60
  go_wp2_with (first | ((refine gate_dst (N := 2) rfl ?_);refine box_event rfl (N := 2) rfl (cs := #[.slice A0_0 l0_0.length c0_0,.int .i64 a0_1,.slice A0_2 l0_2.length c0_2,.int .i64 a0_3,.int .i64 a0_4,.slice A0_5 l0_5.length c0_5]) (t := 99) ?hr ?_;(case hr => go_simp;try rfl);intro gb150 hg w32 hbox hb;have BK150 := am (hbox);have GE150 := am (ge_new (HB.out) hg);replace HB := am (below_step (HB.out) hb);clear hb hbox hg;obtain ⟨hcz33_0,hcz33_1,hcz33_2,hcz33_3,hcz33_4,hcz33_5⟩ := cO6 BK150.out) | ((with_reducible refine gate_callee (f := 67) rfl ?_);refine goesL_ (some 14) rfl rfl Tryz.func67 (by kernel_rfl) rfl #[.agg #[.slice A0_0 l0_0.length c0_0,.int .i64 a0_1,.slice A0_2 l0_2.length c0_2,.int .i64 a0_3,.int .i64 a0_4,.slice A0_5 l0_5.length c0_5],.int .i64 a1] rfl (by (try simp only [List.map_toArray,List.map_cons,List.map_nil]);first | done | rfl | (simp only [List.length_drop,List.length_take];rfl)) ?_;(refine (gf_level.calls _ _ l0_0 a0_1 _ _ l0_2 a0_3 a0_4 _ _ l0_5 a1 t151 _ ?side1 ?side2 ?side3 ?side4 ?side5 ?side6 A3.out).mono ?_);(case side1 => exact kC HR0_0.out HB.out);(case side2 => exact HC0_0.out);(case side3 => exact kC HR0_2.out HB.out);(case side4 => exact HC0_2.out);(case side5 => exact kC HR0_5.out HB.out);(case side6 => exact HC0_5.out);rintro e w34 ⟨rfl,hb⟩;refine ⟨_,rfl,?_⟩;replace BK150 := (kmv hb BK150);replace HB := am (below_step (HB.out) hb);(try clear hb);(try clear hb2);(try clear hk);(try clear hi);obtain ⟨hcz35_0,hcz35_1,hcz35_2,hcz35_3,hcz35_4,hcz35_5⟩ := cO6 BK150.out;have p152 : 0 ≤ (t151 : Int) := of_decide_eq_true (by assumption);have q152 : t151 < (l0_5.length : Int) := of_decide_eq_true (by assumption);obtain ⟨ad152,A152_0,c152_0,e152,hx152_0,hl152_0,hi152_0⟩ := at_L3 HR0_5.out t151 p152 q152;cases e152;replace hx152_0 := (HB.out.cell (wbl hx152_0)).trans hx152_0;have HR152_0 := am hi152_0;have HC152_0 := am hl152_0;clear hi152_0 hl152_0;replace p152 := eq_true p152;replace q152 := eq_true q152) | ((with_reducible refine gate_callee (f := 98) rfl ?_);refine goesL_ (some 20) rfl rfl Tryz.func98 (by kernel_rfl) rfl #[.slice A152_0 (rd_L3 l0_5 t151).length c152_0] rfl (by (try simp only [List.map_toArray,List.map_cons,List.map_nil]);first | done | rfl | (simp only [List.length_drop,List.length_take];rfl)) ?_;(refine (sl_Clone_int.calls _ _ (rd_L3 l0_5 t151) t153 _ ?side1 ?side2 A6.out).mono ?_);(case side1 => exact kC HR152_0.out HB.out);(case side2 => exact HC152_0.out);rintro e w36 ⟨v154,rfl,ho0,hb⟩;refine ⟨_,rfl,?_⟩;have HO155 := am (Kd.R_lower ho0 (below_size (HB.out)));replace BK150 := (kmv hb BK150);replace HB := am (below_step (HB.out) hb);(try clear hb);(try clear hb2);(try clear hk);(try clear hi);(try clear ho0);obtain ⟨Ao37,co37,eo37⟩ := Kd.R_slice HO155.out;subst eo37) | ((with_reducible refine gate_callee (f := 100) rfl ?_);refine goesL_ (some 62) rfl rfl Tryz.func100 (by kernel_rfl) rfl #[.slice Ao37 t153.length co37] rfl (by (try simp only [List.map_toArray,List.map_cons,List.map_nil]);first | done | rfl | (simp only [List.length_drop,List.length_take];rfl)) ?_;(refine (ca_sum.calls k _ _ t153 t163 _ ?side1 ?side2 A31.out).mono ?_);(case side1 => repeat (first | exact (Kd.R_reads' HO155.out).2.2 | (with_reducible refine Kd.C_alloc ?_ _) | (with_reducible refine Kd.C_drewN ?_ _) | (with_reducible refine Kd.C_drew ?_)));(case side2 => exact (Kd.R_reads' HO155.out).2.1);rintro e w' ⟨rfl,⟨nd,rfl⟩⟩;refine ⟨_,rfl,?_⟩))
  go_ret2
  exact ⟨_,by first | rfl | (simp [*] <;> rfl),by (with_reducible repeat (first | apply Kd.R_alloc | apply Kd.R_drewN | apply Kd.R_drew));exact HO155.out,pw_below_drewN HB.out _⟩
 rw [if_pos c7] at H
 have c7b0 : decide (t151 < 40) = true := decide_eq_true c7
 clear c7
 replace H := obm H
 obtain ⟨t156,A80,H⟩ := H
 (try dsimp only at H)
 have A8 := am A80
 clear A80
 obtain ⟨ji9,hji9⟩ : ∃ j_ : Int,(wrap64 (t151 + 1)) = j_ := ⟨_,rfl⟩
 replace H : (if 0 ≤ (ji9) then (if (ji9) < (l0_5.length : Int) then (gf_shares.l0 k a1 t153 (wrap64 (a1 - t156)) (rd_L3 l0_5 (ji9)) ((rd_L3 l0_5 (ji9)).length : Int) 0) else (none)) else (none)) = some (r1,r2) := by first | (rw [hji9] at H;exact H) | (simp only [hji9] at H ⊢;exact H)
 (try rw [hji9] at A3)
 (try rw [hji9] at A6)
 (try rw [hji9] at A8)
 have hji9w : (IntKind.i64.wrap (t151 + 1)) = ji9 := (i64_w _).trans hji9
 by_cases c10 : 0 ≤ (ji9)
 case neg =>
  rw [if_neg c10] at H
  exact absurd H (by simp)
 rw [if_pos c10] at H
 have c10b0 : decide (0 ≤ (ji9)) = true := decide_eq_true c10
 clear c10
 by_cases c11 : (ji9) < (l0_5.length : Int)
 case neg =>
  rw [if_neg c11] at H
  exact absurd H (by simp)
 rw [if_pos c11] at H
 have c11b0 : decide ((ji9) < (l0_5.length : Int)) = true := decide_eq_true c11
 clear c11
 replace H' := am H
 go_enter Tryz.func60,Tryz.ntmps60
 go_wp2_with (first | ((refine gate_dst (N := 2) rfl ?_);refine box_event rfl (N := 2) rfl (cs := #[.slice A0_0 l0_0.length c0_0,.int .i64 a0_1,.slice A0_2 l0_2.length c0_2,.int .i64 a0_3,.int .i64 a0_4,.slice A0_5 l0_5.length c0_5]) (t := 99) ?hr ?_;(case hr => go_simp;try rfl);intro gb150 hg w12 hbox hb;have BK150 := am (hbox);have GE150 := am (ge_new (HB.out) hg);replace HB := am (below_step (HB.out) hb);clear hb hbox hg;obtain ⟨hcz13_0,hcz13_1,hcz13_2,hcz13_3,hcz13_4,hcz13_5⟩ := cO6 BK150.out) | ((with_reducible refine gate_callee (f := 67) rfl ?_);refine goesL_ (some 14) rfl rfl Tryz.func67 (by kernel_rfl) rfl #[.agg #[.slice A0_0 l0_0.length c0_0,.int .i64 a0_1,.slice A0_2 l0_2.length c0_2,.int .i64 a0_3,.int .i64 a0_4,.slice A0_5 l0_5.length c0_5],.int .i64 a1] rfl (by (try simp only [List.map_toArray,List.map_cons,List.map_nil]);first | done | rfl | (simp only [List.length_drop,List.length_take];rfl)) ?_;(refine (gf_level.calls _ _ l0_0 a0_1 _ _ l0_2 a0_3 a0_4 _ _ l0_5 a1 t151 _ ?side1 ?side2 ?side3 ?side4 ?side5 ?side6 A3.out).mono ?_);(case side1 => exact kC HR0_0.out HB.out);(case side2 => exact HC0_0.out);(case side3 => exact kC HR0_2.out HB.out);(case side4 => exact HC0_2.out);(case side5 => exact kC HR0_5.out HB.out);(case side6 => exact HC0_5.out);rintro e w14 ⟨rfl,hb⟩;refine ⟨_,rfl,?_⟩;replace BK150 := (kmv hb BK150);replace HB := am (below_step (HB.out) hb);(try clear hb);(try clear hb2);(try clear hk);(try clear hi);obtain ⟨hcz15_0,hcz15_1,hcz15_2,hcz15_3,hcz15_4,hcz15_5⟩ := cO6 BK150.out;have p152 : 0 ≤ (t151 : Int) := of_decide_eq_true (by assumption);have q152 : t151 < (l0_5.length : Int) := of_decide_eq_true (by assumption);obtain ⟨ad152,A152_0,c152_0,e152,hx152_0,hl152_0,hi152_0⟩ := at_L3 HR0_5.out t151 p152 q152;cases e152;replace hx152_0 := (HB.out.cell (wbl hx152_0)).trans hx152_0;have HR152_0 := am hi152_0;have HC152_0 := am hl152_0;clear hi152_0 hl152_0;replace p152 := eq_true p152;replace q152 := eq_true q152) | ((with_reducible refine gate_callee (f := 98) rfl ?_);refine goesL_ (some 20) rfl rfl Tryz.func98 (by kernel_rfl) rfl #[.slice A152_0 (rd_L3 l0_5 t151).length c152_0] rfl (by (try simp only [List.map_toArray,List.map_cons,List.map_nil]);first | done | rfl | (simp only [List.length_drop,List.length_take];rfl)) ?_;(refine (sl_Clone_int.calls _ _ (rd_L3 l0_5 t151) t153 _ ?side1 ?side2 A6.out).mono ?_);(case side1 => exact kC HR152_0.out HB.out);(case side2 => exact HC152_0.out);rintro e w16 ⟨v154,rfl,ho0,hb⟩;refine ⟨_,rfl,?_⟩;have HO155 := am (Kd.R_lower ho0 (below_size (HB.out)));replace BK150 := (kmv hb BK150);replace HB := am (below_step (HB.out) hb);(try clear hb);(try clear hb2);(try clear hk);(try clear hi);(try clear ho0);obtain ⟨hcz17_0,hcz17_1,hcz17_2,hcz17_3,hcz17_4,hcz17_5⟩ := cO6 BK150.out) | ((with_reducible refine gate_callee (f := 99) rfl ?_);refine goesL_ (some 26) rfl rfl Tryz.func99 (by kernel_rfl) rfl #[.agg #[.slice A0_0 l0_0.length c0_0,.int .i64 a0_1,.slice A0_2 l0_2.length c0_2,.int .i64 a0_3,.int .i64 a0_4,.slice (some ad152) l0_5.length c0_5],.int .i64 t151] rfl (by (try simp only [List.map_toArray,List.map_cons,List.map_nil]);first | done | rfl | (simp only [List.length_drop,List.length_take];rfl)) ?_;(refine (gf_out.calls _ _ l0_0 a0_1 _ _ l0_2 a0_3 a0_4 _ _ l0_5 t151 t156 _ ?side1 ?side2 ?side3 ?side4 ?side5 ?side6 A8.out).mono ?_);(case side1 => exact kC HR0_0.out HB.out);(case side2 => exact HC0_0.out);(case side3 => exact kC HR0_2.out HB.out);(case side4 => exact HC0_2.out);(case side5 => exact kC HR0_5.out HB.out);(case side6 => exact HC0_5.out);rintro e w18 ⟨rfl,hb⟩;refine ⟨_,rfl,?_⟩;replace HO155 := am (Kd.R_below HO155.out hb);replace BK150 := (kmv hb BK150);replace HB := am (below_step (HB.out) hb);(try clear hb);(try clear hb2);(try clear hk);(try clear hi);obtain ⟨hcz19_0,hcz19_1,hcz19_2,hcz19_3,hcz19_4,hcz19_5⟩ := cO6 BK150.out;have p157 : 0 ≤ ((ji9) : Int) := of_decide_eq_true (by assumption);have q157 : (ji9) < (l0_5.length : Int) := of_decide_eq_true (by assumption);obtain ⟨ad157,A157_0,c157_0,e157,hx157_0,hl157_0,hi157_0⟩ := at_L3 HR0_5.out (ji9) p157 q157;obtain rfl : ad152 = ad157 := (by injection e157);replace hx157_0 := (HB.out.cell (wbl hx157_0)).trans hx157_0;have HR157_0 := am hi157_0;have HC157_0 := am hl157_0;clear hi157_0 hl157_0;replace p157 := eq_true p157;replace q157 := eq_true q157))
 go_loopg [8,35] k (fun kq v8 v35 w' => ∃ (x7_1 : List Int) (x8_1 : Int) (x35_1 : Int),v8 = .int .i64 x8_1 ∧ v35 = .int .i64 x35_1 ∧ Aside0 (gf_shares.l0 kq a1 x7_1 x8_1 (rd_L3 l0_5 (ji9)) ((rd_L3 l0_5 (ji9)).length : Int) x35_1 = some (r1,r2)) ∧ Aside0 (kq ≤ k) ∧ Aside0 (Kd.R (Kd.int .i64) 3 w' w.heap.size (fun _ => True) v154 x7_1) ∧ Aside0 (w'.heap[gb150]? = some (.cells #[(.slice A0_0 l0_0.length c0_0),.int .i64 a0_1,(.slice A0_2 l0_2.length c0_2),.int .i64 a0_3,.int .i64 a0_4,(.slice (some ad152) l0_5.length c0_5)] 99 (0,0))) ∧ Aside0 (Below w.heap.size w w'))
 case atStart => exact ⟨(t153),(wrap64 (a1 - t156)),(0),(by first | rfl | (simp;done) | (simp [*];done)),(by first | rfl | (simp;done) | (simp [*];done)),H',⟨Nat.le_refl _⟩,⟨by (with_reducible repeat (first | apply Kd.R_alloc | apply Kd.R_drewN | apply Kd.R_drew));exact HO155.out⟩,⟨BK150.out⟩,⟨HB.out⟩⟩
 case round =>
  clear H'
  obtain ⟨x7_1,x8_1,x35_1,rfl,rfl,HA,HK1,HO_7,BK150,HB⟩ := hrel
  cases gk with
  | zero => exact absurd HA.out (by simp [gf_shares.l0])
  | succ k1 =>
   have H := HA.out
   clear HA
   simp only [gf_shares.l0] at H
   by_cases c20 : x35_1 < ((rd_L3 l0_5 (ji9)).length : Int)
   case neg =>
    rw [if_neg c20] at H
    have c20b0 : decide (x35_1 < ((rd_L3 l0_5 (ji9)).length : Int)) = false := decide_eq_false c20
    clear c20
    replace H := obm H
    obtain ⟨t162,A290,H⟩ := H
    (try dsimp only at H)
    have A29 := am A290
    clear A290
    simp only [Option.some.injEq,Prod.mk.injEq] at H
    obtain ⟨rfl,rfl⟩ := H
    obtain ⟨Ao30,co30,eo30⟩ := Kd.R_slice HO_7.out
    subst eo30
    go_wp2_with (first | ((with_reducible refine gate_callee (f := 100) rfl ?_);refine goesL_ (some 62) rfl rfl Tryz.func100 (by kernel_rfl) rfl #[.slice Ao30 x7_1.length co30] rfl (by (try simp only [List.map_toArray,List.map_cons,List.map_nil]);first | done | rfl | (simp only [List.length_drop,List.length_take];rfl)) ?_;(refine (ca_sum.calls k1 _ _ x7_1 t162 _ ?side1 ?side2 A29.out).mono ?_);(case side1 => repeat (first | exact (Kd.R_reads' HO_7.out).2.2 | (with_reducible refine Kd.C_alloc ?_ _) | (with_reducible refine Kd.C_drewN ?_ _) | (with_reducible refine Kd.C_drew ?_)));(case side2 => exact (Kd.R_reads' HO_7.out).2.1);rintro e w' ⟨rfl,⟨nd,rfl⟩⟩;refine ⟨_,rfl,?_⟩))
    go_ret2
    exact ⟨_,by first | rfl | (simp [errW_none,errW_some] <;> rfl) | (simp only [← hji9];first | rfl | (simp [errW_none,errW_some] <;> rfl)) | (simp [*,errW_none,errW_some] <;> rfl),by (with_reducible repeat (first | apply Kd.R_alloc | apply Kd.R_drewN | apply Kd.R_drew));exact HO_7.out,pw_below_drewN HB.out _⟩
   rw [if_pos c20] at H
   have c20b0 : decide (x35_1 < ((rd_L3 l0_5 (ji9)).length : Int)) = true := decide_eq_true c20
   clear c20
   by_cases c21 : 0 ≤ x35_1
   case neg =>
    rw [if_neg c21] at H
    exact absurd H (by simp)
   rw [if_pos c21] at H
   have c21b0 : decide (0 ≤ x35_1) = true := decide_eq_true c21
   clear c21
   by_cases c22 : x35_1 < ((rd_L3 l0_5 (ji9)).length : Int)
   case neg =>
    rw [if_neg c22] at H
    exact absurd H (by simp)
   rw [if_pos c22] at H
   have c22b0 : decide (x35_1 < ((rd_L3 l0_5 (ji9)).length : Int)) = true := decide_eq_true c22
   clear c22
   by_cases c23 : x35_1 < (x7_1.length : Int)
   case neg =>
    rw [if_neg c23] at H
    exact absurd H (by simp)
   rw [if_pos c23] at H
   have c23b0 : decide (x35_1 < (x7_1.length : Int)) = true := decide_eq_true c23
   clear c23
   obtain ⟨ji24,hji24⟩ : ∃ j_ : Int,(mn x8_1 (wrap64 ((rd (rd_L3 l0_5 (ji9)) x35_1) - (rd x7_1 x35_1)))) = j_ := ⟨_,rfl⟩
   replace H : (gf_shares.l0 k1 a1 (x7_1.set (x35_1 : Int).toNat (wrap64 ((rd x7_1 x35_1) + (ji24)))) (wrap64 (x8_1 - (ji24))) (rd_L3 l0_5 (ji9)) ((rd_L3 l0_5 (ji9)).length : Int) (wrap64 (x35_1 + 1))) = some (r1,r2) := by first | (rw [hji24] at H;exact H) | (simp only [hji24] at H ⊢;exact H)
   have hji24_ : (if (wrap64 ((rd (rd_L3 l0_5 (ji9)) x35_1) - (rd x7_1 x35_1))) < x8_1 then (wrap64 ((rd (rd_L3 l0_5 (ji9)) x35_1) - (rd x7_1 x35_1))) else x8_1) = ji24 := hji24
   obtain ⟨y161,hy161⟩ : ∃ y_ : List Int,y_ = (x7_1.set (x35_1 : Int).toNat (wrap64 ((rd x7_1 x35_1) + (ji24)))) := ⟨_,rfl⟩
   replace H : (gf_shares.l0 k1 a1 y161 (wrap64 (x8_1 - (ji24))) (rd_L3 l0_5 (ji9)) ((rd_L3 l0_5 (ji9)).length : Int) (wrap64 (x35_1 + 1))) = some (r1,r2) := by first | (rw [hy161];with_reducible exact H) | (have H2_ := (Option.bind_some _ _).symm.trans H;rw [hy161];with_reducible exact H2_) | (have H2_ := (Option.bind_some _ _).symm.trans H;with_reducible exact H2_) | with_reducible exact H | (rw [hy161];exact H) | exact H
   have Ny161 := am hy161
   clear hy161
   replace H' := am H
   have p158 : 0 ≤ (x35_1 : Int) := of_decide_eq_true (by assumption)
   have q158 : x35_1 < ((rd_L3 l0_5 (ji9)).length : Int) := of_decide_eq_true (by assumption)
   obtain ⟨ad158,e158,hx158_0⟩ := Kd.at_int HR157_0.out x35_1 p158 q158
   cases e158
   replace hx158_0 := (HB.out.cell (wbl hx158_0)).trans hx158_0
   replace p158 := eq_true p158
   replace q158 := eq_true q158
   obtain ⟨Ao26,co26,eo26⟩ := Kd.R_slice HO_7.out
   subst eo26
   have p159 : 0 ≤ (x35_1 : Int) := of_decide_eq_true (by assumption)
   have q159 : x35_1 < (x7_1.length : Int) := of_decide_eq_true (by assumption)
   obtain ⟨ad159,e159,hx159_0⟩ := Kd.at_int (Kd.R_reads' HO_7.out).2.2 x35_1 p159 q159
   cases e159
   replace p159 := eq_true p159
   replace q159 := eq_true q159
   have p160 : 0 ≤ (x35_1 : Int) := of_decide_eq_true (by assumption)
   have q160 : x35_1 < (x7_1.length : Int) := of_decide_eq_true (by assumption)
   obtain ⟨ad160,e160,hx160_0⟩ := Kd.at_int (Kd.R_reads' HO_7.out).2.2 x35_1 p160 q160
   obtain rfl : ad159 = ad160 := (by injection e160)
   replace p160 := eq_true p160
   replace q160 := eq_true q160
   have p25 : 0 ≤ (x35_1 : Int) := of_decide_eq_true (by assumption)
   have q25 : (x35_1 : Int) < ((x7_1.length : Int) : Int) := of_decide_eq_true (by assumption)
   obtain ⟨go25,co25,eo25,gb25,gl25,cl25,HG25⟩ := Kd.R_form HO_7.out (by omega)
   (first | cases eo25 | (injection eo25 with ea_ en_ ec_;(first | subst ea_ | (injection ea_ with ea_;subst ea_));subst ec_;clear en_))
   have GB25 := am gb25
   have GG25 := am HG25
   clear gb25 gl25 HG25
   (first | simp only [add_plain] at hx159_0 | skip)
   (first | simp only [add_plain] at hx160_0 | skip)
   obtain ⟨hx25_0,hf25_0⟩ := Kd.R_celln 0 HO_7.out (x35_1 : Int) p25 q25
   replace p25 := eq_true p25
   replace q25 := eq_true q25
   have HP27 := Kd.R_putg HO_7.out (x35_1 : Int) (wrap64 ((rd x7_1 x35_1) + (ji24)))
   go_wp2_with (first | ((with_reducible refine gate_store (t := 3) (p := 54) rfl ?_);refine store_event (t := 3) (p := 54) (v := ?vo_w28) (w1 := (wr.setCell ⟨go25,(x35_1 : Int).toNat,none⟩ (.int .i64 (wrap64 ((rd x7_1 x35_1) + (ji24)))))) ?hg ?ho ?hn ?hr ?_;(case ho => rfl);(case hg => rfl);(case hn => rfl);(case hr => go_simp;try rfl);intro w28 hw;have hg : wr.grownBy w28 (some go25) := (by rw [hw];exact HP27.2);have hp_ : Kd.R (Kd.int .i64) 3 w28 w.heap.size (fun _ => True) (.slice (some ⟨go25,0,none⟩) x7_1.length co26) y161 := (by rw [hw,Ny161.out];exact HP27.1);clear HP27;have n0_ := am (hp_);have n1_ := am (blk_grown (g := gb150) (o := .cells #[.slice A0_0 l0_0.length c0_0,.int .i64 a0_1,.slice A0_2 l0_2.length c0_2,.int .i64 a0_3,.int .i64 a0_4,.slice (some ad152) l0_5.length c0_5] 99 (0,0)) BK150.out hg (Kd.R_ne HO_7.out BK150.out (by decide)));have n2_ := am ((by rw [hw];exact below_set (HB.out) GB25.out : Below w.heap.size w w28));clear HO_7;clear BK150;clear HB;have HO_7 := n0_;have BK150 := n1_;have HB := n2_;clear n0_ n1_ n2_;clear hg hw hp_))
   go_roundg k1
   case measure => have := HK1.out;omega
   case rel => exact ⟨(y161),(wrap64 (x8_1 - (ji24))),(wrap64 (x35_1 + 1)),(by first | rfl | (simp;done) | (simp only [← hji24] <;> (first | rfl | simp)) | (simp [*];done)),(by first | rfl | (simp;done) | (simp [*];done)),H',⟨by have := HK1.out;omega⟩,⟨by (with_reducible repeat (first | apply Kd.R_alloc | apply Kd.R_drewN | apply Kd.R_drew));exact HO_7.out⟩,⟨BK150.out⟩,⟨HB.out⟩⟩
end
def sufGo (shares : List Int) : List Int → Int → Option Bool
 | [],_ => some true
 | n :: rest,i => if i < (shares.length : Int) then (if rd shares i < n then some false else sufGo shares rest (i + 1)) else none
def suffice.f (k : Nat) (l0_0 : List S126) (a0_1 : Int) (l0_2 : List S64) (a0_3 a0_4 : Int) (cups : Int) (claims l1 : List Int) : Option Bool :=
 (ca_moved.f k l0_0 a0_1 l0_2 a0_3 a0_4 l1).bind fun x => (ca_fill.f (fillK x.2.1.length) l0_0 x.1 x.2.1 x.2.2.1 x.2.2.2).bind fun y => (gf_shares.f k l0_0 y.1 x.2.1 y.2.1 y.2.2.1 y.2.2.2 cups).bind fun z => sufGo z.1 claims 0
theorem suffice.calls (k : Nat) (gb gq gc : Nat) (A0_0 : Option Addr) (c0_0 : Nat) (l0_0 : List S126) (a0_1 : Int) (A0_2 : Option Addr) (c0_2 : Nat) (l0_2 : List S64) (a0_3 a0_4 cups : Int) (A3 : Option Addr) (c3 : Nat) (claims : List Int) (A1 : Option Addr) (c1 : Nat) (l1 : List Int) (r : Bool) (w : World)
 (bb : w.heap[gb]? = some (.cells #[.slice A0_0 l0_0.length c0_0,.int .i64 a0_1,.slice A0_2 l0_2.length c0_2,.int .i64 a0_3,.int .i64 a0_4] 27 (0,0))) (bq : w.heap[gq]? = some (.cells #[.int .i64 cups] 3 (0,0))) (bc : w.heap[gc]? = some (.cells #[.slice A3 claims.length c3] 30 (0,0)))
 (hr0_0 : Kd.C k126 w A0_0 l0_0.length l0_0) (hc0_0 : l0_0.length ≤ c0_0) (hr0_2 : Kd.C k64 w A0_2 l0_2.length l0_2) (hc0_2 : l0_2.length ≤ c0_2) (hr3 : Kd.C (Kd.int .i64) w A3 claims.length claims) (hr1 : Kd.C (Kd.int .i64) w A1 l1.length l1) (hc1 : l1.length ≤ c1)
 (h : suffice.f k l0_0 a0_1 l0_2 a0_3 a0_4 cups claims l1 = some r) :
 Calls Tryz.prog 77 #[.slice A1 l1.length c1,.pointer (some ⟨gb,0,none⟩),.pointer (some ⟨gq,0,none⟩),.pointer (some ⟨gc,0,none⟩)] w fun e w' => e = .returned (.bool r) ∧ Below w.heap.size w w' := by
 have hu := Tryz.underlying27
 have hm := am (Kd.C_max hr3)
 unfold suffice.f at h
 obtain ⟨⟨x1,x2,x3,x4⟩,hx,h⟩ := obm h
 obtain ⟨⟨y1,y2,y3,y4⟩,hy,h⟩ := obm h
 obtain ⟨⟨z1,z2⟩,hz,h⟩ := obm h
 dsimp only at h hx hy hz
 have H1 := am hx
 have H2 := am hy
 have H3 := am hz
 have HQ := am h
 clear hx hy hz h
 have HR0 := am hr0_0
 have HC0 := am hc0_0
 have HR2 := am hr0_2
 have HC2 := am hc0_2
 have HR3 := am hr3
 have HR1 := am hr1
 have HC1 := am hc1
 clear hr0_0 hc0_0 hr0_2 hc0_2 hr3 hr1 hc1
 have HB := am (Below.refl w.heap.size w)
 have BKb := am bb
 have BKq := am bq
 have BKc := am bc
 clear bb bq bc
 obtain ⟨hczb_0,hczb_1,hczb_2,hczb_3,hczb_4⟩ := cO5 BKb.out
 have hczq_0 := cO1 BKq.out
 have hczc_0 := cO1 BKc.out
 go_enter Tryz.func77,Tryz.ntmps77
 go_wp2
 go_region_held3 (fun W => W.cell? ⟨gb,0,none⟩ = some (.slice A0_0 l0_0.length c0_0) ∧ W.cell? ⟨gb,1,none⟩ = some (.int .i64 a0_1) ∧ W.cell? ⟨gb,2,none⟩ = some (.slice A0_2 l0_2.length c0_2) ∧ W.cell? ⟨gb,3,none⟩ = some (.int .i64 a0_3) ∧ W.cell? ⟨gb,4,none⟩ = some (.int .i64 a0_4) ∧ W.cell? ⟨gq,0,none⟩ = some (.int .i64 cups)) (first | go_keep | (exact ⟨(blk_cell BKb.out 0).trans rfl,(blk_cell BKb.out 1).trans rfl,(blk_cell BKb.out 2).trans rfl,(blk_cell BKb.out 3).trans rfl,(blk_cell BKb.out 4).trans rfl,(blk_cell BKq.out 0).trans rfl⟩)) ((first | (go_at_call 78;refine (ca_moved.calls k A0_0 c0_0 l0_0 a0_1 A0_2 c0_2 l0_2 a0_3 a0_4 A1 c1 l1 x1 x2 x3 x4 _ (kC HR0.out (below_drew HB.out)) HC0.out (kC HR2.out (below_drew HB.out)) HC2.out (kC HR1.out (below_drew HB.out)) HC1.out H1.out).mono ?_;rintro e wm ⟨vm,rfl,hr,hb⟩;have n0 := am (below_then (below_drew HB.out) ((below_drew HB.out)).size hb);have nb := am (blk_below (blk_drew BKb.out) hb);have nq := am (blk_below (blk_drew BKq.out) hb);have nc := am (blk_below (blk_drew BKc.out) hb);obtain ⟨Am,cm,rfl,hlm,hcm⟩ := Kd.R_reads hr;have HRm := am hcm;have HCm := am hlm;clear hr hcm hlm;clear HB hb BKb BKq BKc;have HB := n0;have BKb := nb;clear nb;have BKq := nq;clear nq;have BKc := nc;clear nc;clear n0;(try clear hczb_0 hczb_1 hczb_2 hczb_3 hczb_4 hczq_0 hczc_0);obtain ⟨hczb_0,hczb_1,hczb_2,hczb_3,hczb_4⟩ := cO5 BKb.out;have hczq_0 := cO1 BKq.out;have hczc_0 := cO1 BKc.out) | (go_at_call 59;refine (ca_fill.calls (fillK x2.length) A0_0 c0_0 l0_0 x1 Am cm x2 x3 x4 y1 y2 y3 y4 _ (kC HR0.out HB.out) HC0.out HRm.out HCm.out H2.out).mono ?_;rintro e wg ⟨vf,rfl,hs,hb⟩;have n0 := am (below_then HB.out (HB.out).size hb);have nb := (kmv hb BKb);have nq := (kmv hb BKq);have nc := (kmv hb BKc);obtain ⟨Af,cf,rfl,hlf,hcf⟩ := Kd.S_reads hs;have HRf := am hcf;have HCf := am hlf;have nm := (cmv HRm hb);clear hs hcf hlf HRm;have HRm := nm;clear nm;clear HB hb BKb BKq BKc;have HB := n0;have BKb := nb;clear nb;have BKq := nq;clear nq;have BKc := nc;clear nc;clear n0;(try clear hczb_0 hczb_1 hczb_2 hczb_3 hczb_4 hczq_0 hczc_0);obtain ⟨hczb_0,hczb_1,hczb_2,hczb_3,hczb_4⟩ := cO5 BKb.out;have hczq_0 := cO1 BKq.out;have hczc_0 := cO1 BKc.out) | (go_at_call 60;refine (gf_shares.calls k A0_0 c0_0 l0_0 y1 Am cm x2 y2 y3 Af cf y4 cups z1 z2 _ (kC HR0.out HB.out) HC0.out HRm.out HCm.out HRf.out HCf.out H3.out).mono ?_;rintro e ws ⟨vs,rfl,hr,hb⟩;have n0 := am (below_then HB.out (HB.out).size hb);have nb := (kmv hb BKb);have nq := (kmv hb BKq);have nc := (kmv hb BKc);obtain ⟨As,cs,rfl,hls,hcs⟩ := Kd.R_reads hr;have HRs := am hcs;clear hr hcs hls;clear HB hb BKb BKq BKc;have HB := n0;have BKb := nb;clear nb;have BKq := nq;clear nq;have BKc := nc;clear nc;clear n0;(try clear hczb_0 hczb_1 hczb_2 hczb_3 hczb_4 hczq_0 hczc_0);obtain ⟨hczb_0,hczb_1,hczb_2,hczb_3,hczb_4⟩ := cO5 BKb.out;have hczq_0 := cO1 BKq.out;have hczc_0 := cO1 BKc.out)))
 have NB := am (Below.refl ws.heap.size ws)
 go_wp2
 go_loopw [21] (fun v21 w' => ∃ i : Int,0 ≤ i ∧ i ≤ claims.length ∧ v21 = .int .i64 i ∧ Aside0 (sufGo z1 (claims.drop i.toNat) i = some r) ∧ Aside0 (Below w.heap.size w w') ∧ Aside0 (Below ws.heap.size ws w')) (fun v21 _ => claims.length - (intOf v21).toNat)
 case atStart => exact ⟨0,by omega,by omega,rfl,HQ,(by first | exact HB | exact ⟨by repeat (first | exact HB.out | apply below_drew1 | apply pw_below_drewN)⟩),(by first | exact NB | exact ⟨by repeat (first | exact NB.out | apply below_drew1 | apply pw_below_drewN)⟩)⟩
 case round =>
  clear HQ HB NB
  (try clear hczb_0 hczb_1 hczb_2 hczb_3 hczb_4 hczq_0 hczc_0)
  obtain ⟨i,p1,hi,rfl,HQ,HB,NB⟩ := hrel
  have hmm := hm.out
  by_cases hlt : i < (claims.length : Int)
  case neg =>
   go_wp2
   go_ret
   have hq := HQ.out
   rw [List.drop_of_length_le (by omega)] at hq
   exact ⟨ret_bool_eq (Option.some.inj hq),HB.out⟩
  obtain ⟨ad,e1,hx0⟩ := Kd.at_int HR3.out i p1 hlt
  cases e1
  replace hx0 := (HB.out.cell (wbl hx0)).trans hx0
  have hq := HQ.out
  rw [drop_at 0 claims i p1 hlt,show claims.getD i.toNat 0 = rd claims i from rfl] at hq
  simp only [sufGo] at hq
  clear HQ
  generalize rd claims i = n at *
  by_cases h2 : i < (z1.length : Int)
  case neg => rw [if_neg h2] at hq;cases hq
  rw [if_pos h2] at hq
  obtain ⟨ads,e2,hy0⟩ := Kd.at_int HRs.out i p1 h2
  cases e2
  replace hy0 := (NB.out.cell (World.block_lt_of_cell? ws _ hy0)).trans hy0
  generalize rd z1 i = s at *
  by_cases h3 : s < n
  · rw [if_pos h3] at hq
    have hd := decide_eq_true h3
    obtain rfl := Option.some.inj hq
    clear hq h3
    go_wp2
    go_ret
    exact ⟨rfl,HB.out⟩
  · rw [if_neg h3] at hq
    have hd := decide_eq_false h3
    have HQ := am hq
    clear hq h3
    go_wp2
    go_roundw
    case rel => exact ⟨i + 1,by omega,by omega,by go_num,HQ,HB,NB⟩
    case measure => simp [intOf];omega
end Go.Proofs.YticlelgmmonloaaGreatDoor.C
namespace Go.Proofs.YticlelgmmonloaaGreatDoor.C
open Go Go.RowKit Go.Shelf Go.Proofs.YticlelgmmonloaaGreatDoorW.PrintWords Go.Proofs.YticlelgmmonloaaGreatDoorW.PrintLast Go.Proofs.YticlelgmmonloaaGreatDoorW.PrintMore
set_option linter.unusedVariables false
set_option linter.unusedSimpArgs false
set_option maxHeartbeats 16000000
set_option maxRecDepth 100000
section
attribute [local go_sem] Oper.semAt_some
def firstM (q : List Int → Option Bool) : List (List Int) → Option (Option (List Int))
 | [] => some none
 | x :: xs => (q x).bind fun b => if b = true then some (some x) else firstM q xs
theorem firstM_app (q : List Int → Option Bool) : ∀ (pre rest : List (List Int)),(∀ y ∈ pre,q y = some false) → firstM q (pre ++ rest) = firstM q rest
 | [],_,_ => rfl
 | y :: pre,rest,h => by
  rw [List.cons_append,firstM,h y List.mem_cons_self]
  exact firstM_app q pre rest fun z hz => h z (List.mem_cons_of_mem _ hz)
theorem firstM_none {q : List Int → Option Bool} {hs : List (List Int)} {r : Option (List Int)} (h : firstM q hs = some r) (hp : ∀ y ∈ hs,q y = some false) : r = none := by
 have h2 := firstM_app q hs [] hp
 rw [List.append_nil,h] at h2
 exact Option.some.inj h2
theorem firstM_some {q : List Int → Option Bool} {hs pre : List (List Int)} {x : List Int} {r : Option (List Int)} (h : firstM q hs = some r) (hp : ∀ y ∈ pre,q y = some false) (hx : q x = some true) (hs2 : pre ++ [x] <+: hs) : r = some x := by
 obtain ⟨rest,rfl⟩ := hs2
 rw [List.append_assoc,firstM_app q pre _ hp,List.singleton_append,firstM,hx] at h
 exact (Option.some.inj h).symm
theorem blk_grownO {W W' : World} {row : Option Nat} {B b : Nat} {o : Obj} (h : W.heap[b]? = some o) (hg : W.grownBy W' row) (hr : ∀ r,row = some r → B ≤ r) (hb : b < B) : W'.heap[b]? = some o :=
 (hg.block b (Array.getElem?_eq_some_iff.1 h).1 (fun e => by have := hr b e.symm;omega)).trans h
theorem blk_putO {W : World} {l b : Nat} {o o' p : Obj} (h : W.heap[b]? = some o) (hc : o.isCells = true) (hl : W.heap[l]? = some p) (hp : p.isCells = false) : (W.putObj l o').heap[b]? = some o :=
 (World.putObj_heap_other (fun e => by subst e;rw [hl] at h;injection h with h;subst h;rw [hc] at hp;cases hp)).trans h
theorem kept_below {W W' : World} (h : Below W.heap.size W W') : KeepsOthers W W' := KeepsOthers.of_grownBy (grown_of_belowN h) (fun j o e => by cases e)
theorem blkF_set {W : World} {b g i : Nat} {o : Obj} {v : Value} (h : W.heap[b]? = some o) (hne : b ≠ g) : (W.setCell ⟨g,i,none⟩ v).heap[b]? = some o :=
 (obj_far (p := ⟨g,i,none⟩) h (fun e => hne e) _)
theorem blkF_set1 {W : World} {g t : Nat} {v0 v : Value} (h : W.heap[g]? = some (.cells #[v0] t (0,0))) : (W.setCell ⟨g,0,none⟩ v).heap[g]? = some (.cells #[v] t (0,0)) := by
 have hlt := (Array.getElem?_eq_some_iff.1 h).1
 simp [World.setCell,Array.getElem?_modify,h]
theorem C_int_set {W : World} {A : Option Addr} {n : Nat} {xs : List Int} {g t : Nat} {v0 v : Value} (hg : W.heap[g]? = some (.cells #[v0] t (0,0))) (hv : ∀ p,v0 ≠ .int .i64 p) (h : (Kd.int .i64).C W A n xs) : (Kd.int .i64).C (W.setCell ⟨g,0,none⟩ v) A n xs :=
 ⟨h.1,h.2.1,fun hn => by
  obtain ⟨ad,e,hc⟩ := h.2.2 hn
  refine ⟨ad,e,fun j p hj => ?_⟩
  obtain ⟨c,hl,hK,hcc⟩ := hc j p hj
  refine ⟨c,hl,hK,fun i u hu => ?_⟩
  have h3 := hcc i u hu
  have hK2 : c = [.int .i64 p] := hK
  rw [World.cell?_setCell_far _ _ _ _ ?_]
  · exact h3
  · intro e2
    have e2 : g = (ad.add (j * (Kd.int .i64).sz + i)).block := e2
    have h4 := h3
    unfold World.cell? at h4
    rw [← e2,hg] at h4
    simp only at h4
    split at h4
    · cases h4
    · subst hK2
      cases i with
      | succ i => simp at hu
      | zero =>
       have hu2 : Value.int .i64 p = u := by simpa using hu
       obtain ⟨hlt,h5⟩ := Array.getElem?_eq_some_iff.1 h4
       have h6 : v0 = u := by
        have : (ad.add (j * (Kd.int .i64).sz + 0)).off = 0 := by simpa using hlt
        simpa [this] using h5
       exact hv p (h6.trans hu2.symm)⟩
theorem ca_first.calls (k gb gch sb sq sc : Nat) (A0_0 : Option Addr) (c0_0 : Nat) (l0_0 : List S126) (a0_1 : Int) (A0_2 : Option Addr) (c0_2 : Nat) (l0_2 : List S64) (a0_3 a0_4 change cups : Int) (A3 : Option Addr) (c3 : Nat) (claims : List Int) (r : Option (List Int)) (w : World)
 (bb : w.heap[gb]? = some (.cells #[.slice A0_0 l0_0.length c0_0,.int .i64 a0_1,.slice A0_2 l0_2.length c0_2,.int .i64 a0_3,.int .i64 a0_4] 27 (0,0))) (bch : w.heap[gch]? = some (.cells #[.int .i64 change] 3 (0,0)))
 (sbb : w.heap[sb]? = some (.cells #[.slice A0_0 l0_0.length c0_0,.int .i64 a0_1,.slice A0_2 l0_2.length c0_2,.int .i64 a0_3,.int .i64 a0_4] 27 (0,0))) (sbq : w.heap[sq]? = some (.cells #[.int .i64 cups] 3 (0,0))) (sbc : w.heap[sc]? = some (.cells #[.slice A3 claims.length c3] 30 (0,0)))
 (hr0_0 : Kd.C k126 w A0_0 l0_0.length l0_0) (hc0_0 : l0_0.length ≤ c0_0) (hr0_2 : Kd.C k64 w A0_2 l0_2.length l0_2) (hc0_2 : l0_2.length ≤ c0_2) (hr3 : Kd.C (Kd.int .i64) w A3 claims.length claims)
 (h0 : 0 ≤ change) (h1 : change ≤ 1000) (hh : ∀ h ∈ l0_2.map (·.f1),0 ≤ h ∧ h ≤ 40) (hnl : l0_2.length ≤ 1000000)
 (hq : ∀ l : List Int,l.length = l0_2.length → (∀ z ∈ l,0 ≤ z ∧ z ≤ 40) → ∃ b,suffice.f k l0_0 a0_1 l0_2 a0_3 a0_4 cups claims l = some b)
 (h : firstM (suffice.f k l0_0 a0_1 l0_2 a0_3 a0_4 cups claims) (hsOf (l0_2.map (·.f1)) [] change) = some r) :
 Calls Tryz.prog 79 #[.func (.func 105) #[] #[.pointer (some ⟨gb,0,none⟩),.pointer (some ⟨gch,0,none⟩)],.func (.func 77) #[] #[.pointer (some ⟨sb,0,none⟩),.pointer (some ⟨sq,0,none⟩),.pointer (some ⟨sc,0,none⟩)]] w fun e w' => ((r = none ∧ e = .returned (.tuple #[.slice none 0 0,.bool false])) ∨ (∃ l A c,r = some l ∧ e = .returned (.tuple #[.slice A l.length c,.bool true]) ∧ l.length ≤ c ∧ Kd.C (Kd.int .i64) w' A l.length l)) ∧ Below w.heap.size w w' := by
 refine (callsIn_wide (n := 9)).1 ?_
 have HH := am h
 have HB0 := (((Below.refl w.heap.size w).alloc (Nat.le_refl _) (.cells #[.func (.func 77) #[] #[.pointer (some ⟨sb,0,none⟩),.pointer (some ⟨sq,0,none⟩),.pointer (some ⟨sc,0,none⟩)]] 109)).alloc (by simp) (.cells #[.slice none 0 0] 30)).alloc (by simp;omega) (.cells #[.bool false] 4)
 obtain ⟨W0,hW0⟩ : ∃ W0,((w.alloc (.cells #[.func (.func 77) #[] #[.pointer (some ⟨sb,0,none⟩),.pointer (some ⟨sq,0,none⟩),.pointer (some ⟨sc,0,none⟩)]] 109)).alloc (.cells #[.slice none 0 0] 30)).alloc (.cells #[.bool false] 4) = W0 := ⟨_,rfl⟩
 have hsz : W0.heap.size = w.heap.size + 3 := by rw [← hW0];simp
 have g3 : W0.heap[w.heap.size]? = some (.cells #[.func (.func 77) #[] #[.pointer (some ⟨sb,0,none⟩),.pointer (some ⟨sq,0,none⟩),.pointer (some ⟨sc,0,none⟩)]] 109 (0,0)) := by
  rw [← hW0];exact (Below.heap_alloc _ _ _ (by simp;omega)).trans ((Below.heap_alloc _ _ _ (by simp)).trans (World.alloc_heap_new w _))
 have g4 : W0.heap[w.heap.size + 1]? = some (.cells #[.slice none 0 0] 30 (0,0)) := by
  rw [← hW0];refine (Below.heap_alloc _ _ _ (by simp)).trans ?_
  have := World.alloc_heap_new (w.alloc (.cells #[.func (.func 77) #[] #[.pointer (some ⟨sb,0,none⟩),.pointer (some ⟨sq,0,none⟩),.pointer (some ⟨sc,0,none⟩)]] 109)) (.cells #[.slice none 0 0] 30);rwa [World.size_alloc] at this
 have g5 : W0.heap[w.heap.size + 1 + 1]? = some (.cells #[.bool false] 4 (0,0)) := by
  rw [← hW0]
  have := World.alloc_heap_new ((w.alloc (.cells #[.func (.func 77) #[] #[.pointer (some ⟨sb,0,none⟩),.pointer (some ⟨sq,0,none⟩),.pointer (some ⟨sc,0,none⟩)]] 109)).alloc (.cells #[.slice none 0 0] 30)) (.cells #[.bool false] 4);rwa [World.size_alloc,World.size_alloc] at this
 rw [hW0] at HB0
 have HH0 := am hh
 have HQ := am hq
 clear h hh hq
 refine callsIn_of_wp_marks Tryz.func79 rfl trivial ?_ rfl
 simp only [Tryz.ntmps79,List.size_toArray,List.length_cons,List.length_nil,Nat.reduceAdd,Nat.reduceSub,Array.replicate_succ,Array.replicate_zero,List.push_toArray,List.append_toArray,List.nil_append,List.cons_append]
 gi_wp2
 (try rw [hW0])
 clear hW0
 refine rangeC (α := HX) (n := 9) rfl (by decide) (gf := 105) (lb := #[.pointer (some ⟨gb,0,none⟩),.pointer (some ⟨gch,0,none⟩)]) rfl trivial (enters_of Tryz.func105 (by kernel_rfl) rfl)
  (heights_stops gb gch A0_0 c0_0 l0_0.length a0_1 A0_2 c0_2 l0_2 a0_3 a0_4 change w bb bch hr0_2 h0 h1 HH0.out hnl (9 - 1))
  (fun x W l o o' hx hl ho => ⟨hx.1,hx.2.1,keeps_C (fun hk => hk) (KeepsCells.putObj W l o o' hl ho) hx.2.2⟩)
  KeepsCells.trans (fun W l o o' _ hl ho _ => KeepsCells.putObj W l o o' hl ho) HB0 (fun _ => rfl)
  (fun pre W => (∀ y ∈ pre,suffice.f k l0_0 a0_1 l0_2 a0_3 a0_4 cups claims y.1 = some false) ∧ W.heap[w.heap.size]? = some (.cells #[.func (.func 77) #[] #[.pointer (some ⟨sb,0,none⟩),.pointer (some ⟨sq,0,none⟩),.pointer (some ⟨sc,0,none⟩)]] 109 (0,0)) ∧ W.heap[w.heap.size + 1]? = some (.cells #[.slice none 0 0] 30 (0,0)) ∧ W.heap[w.heap.size + 1 + 1]? = some (.cells #[.bool false] 4 (0,0)) ∧ Below w.heap.size w W)
  (fun c pre W => c = .ret ∧ (∃ (p0 : List HX) (x : HX),pre = p0 ++ [x] ∧ (∀ y ∈ p0,suffice.f k l0_0 a0_1 l0_2 a0_3 a0_4 cups claims y.1 = some false) ∧ suffice.f k l0_0 a0_1 l0_2 a0_3 a0_4 cups claims x.1 = some true ∧ W.heap[w.heap.size + 1]? = some (.cells #[.slice x.2.1 x.1.length x.2.2] 30 (0,0)) ∧ x.1.length ≤ x.2.2 ∧ Kd.C (Kd.int .i64) W x.2.1 x.1.length x.1) ∧ W.heap[w.heap.size + 1 + 1]? = some (.cells #[.bool true] 4 (0,0)) ∧ Below w.heap.size w W)
  (fun s A B row hs hg hr => ⟨hs.1,blk_grownO hs.2.1 hg hr (by omega),blk_grownO hs.2.2.1 hg hr (by omega),blk_grownO hs.2.2.2.1 hg hr (by omega),hs.2.2.2.2.grown hg hs.2.2.2.2.size (fun k e => by have := hr k e;omega)⟩)
  (fun c pre W l o o' hl hs ho hc hw => by
   obtain ⟨rfl,⟨p0,x,rfl,hp,hx,h4,hle,hC⟩,h5,hB⟩ := hs
   exact ⟨rfl,⟨p0,x,rfl,hp,hx,blk_putO h4 rfl ho hc,hle,keeps_C (fun hk => hk) (KeepsCells.putObj W l o o' ho hc) hC⟩,blk_putO h5 rfl ho hc,hB.trans (belowK_b (w := w) (Nat.le_refl _) W l _ _ (by omega) ho hc hw)⟩)
  ⟨(fun y hy => by cases hy),g3,g4,g5,HB0⟩
  (fun x => { tmps := #[Value.func (Fn.func 105) #[] #[.pointer (some ⟨gb,0,none⟩),.pointer (some ⟨gch,0,none⟩)],Value.func (Fn.func 77) #[] #[.pointer (some ⟨sb,0,none⟩),.pointer (some ⟨sq,0,none⟩),.pointer (some ⟨sc,0,none⟩)],undef,.pointer (some ⟨w.heap.size,0,none⟩),.pointer (some ⟨w.heap.size + 1,0,none⟩),.pointer (some ⟨w.heap.size + 1 + 1,0,none⟩),.slice x.2.1 x.1.length x.2.2,undef,Value.func (Fn.func 105) #[] #[.pointer (some ⟨gb,0,none⟩),.pointer (some ⟨gch,0,none⟩)],.slice x.2.1 x.1.length x.2.2,undef,undef,undef,undef,undef],defers := [] }) ?assign ?body ?done ?stop
 case assign =>
  intro l x W K hK
  simp only [hEnc]
  gi_wp2
  exact hK
 case body =>
  rintro l pre ⟨xl,xA,xc⟩ W ⟨hpre,b3,b4,b5,hB⟩ ⟨hxl,hxle,hxC⟩
  dsimp only at hxl hxle hxC ⊢
  obtain ⟨bv,hbv⟩ := HQ.out xl hxl.1 hxl.2
  have HV := am hbv
  have HXL := am hxl
  have HP := am hpre
  clear hbv hxl hpre
  have hc3 : W.cell? ⟨w.heap.size,0,none⟩ = some (Value.func (Fn.func 77) #[] #[.pointer (some ⟨sb,0,none⟩),.pointer (some ⟨sq,0,none⟩),.pointer (some ⟨sc,0,none⟩)]) := (blk_cell b3 0).trans rfl
  have b3 := am b3
  have b4 := am b4
  have b5 := am b5
  have hB := am hB
  have hxC := am hxC
  have HC := am (suffice.calls k sb sq sc A0_0 c0_0 l0_0 a0_1 A0_2 c0_2 l0_2 a0_3 a0_4 cups A3 c3 claims xA xc xl bv W (blk_below sbb hB.out) (blk_below sbq hB.out) (blk_below sbc hB.out) (kC hr0_0 hB.out) hc0_0 (kC hr0_2 hB.out) hc0_2 (kC hr3 hB.out) hxC.out hxle HV.out)
  cases bv with
  | false =>
   gi_wp2
   refine ⟨trivial,?_⟩
   refine (CallsIn.inRound l (callsIn_wide.2 HC.out)).mono ?_
   rintro e W2 ⟨rfl,hb⟩
   gi_wp2
   exact ⟨kept_below hb,KeepsCells.of_below hb,fun y hy => (List.mem_append.1 hy).elim (HP.out y) (fun e => by rw [List.mem_singleton.1 e];exact HV.out),blk_below b3.out hb,blk_below b4.out hb,blk_below b5.out hb,below_then hB.out hB.out.size hb⟩
  | true =>
   gi_wp2
   refine ⟨trivial,?_⟩
   refine (CallsIn.inRound l (callsIn_wide.2 HC.out)).mono ?_
   rintro e W2 ⟨rfl,hb⟩
   have q4 := blk_below b4.out hb
   have q5 := blk_below b5.out hb
   have hc4 : W2.cell? ⟨w.heap.size + 1,0,none⟩ = some (.slice none 0 0) := (blk_cell q4 0).trans rfl
   have hf4 := blk_frozen q4 0
   have hc5 : W2.cell? ⟨w.heap.size + 1 + 1,0,none⟩ = some (.bool false) := (blk_cell q5 0).trans rfl
   have hf5 := blk_frozen q5 0
   have q4 := am q4
   have q5 := am q5
   gi_wp2
   have hC2 := kC hxC.out hb
   have e5 := blkF_set1 (v := .bool true) (blkF_set (g := w.heap.size + 1) (i := 0) (v := .slice xA xl.length xc) q5.out (by omega))
   have e4 := blkF_set (g := w.heap.size + 1 + 1) (i := 0) (v := .bool true) (blkF_set1 (v := .slice xA xl.length xc) q4.out) (by omega)
   have hB2 := below_then hB.out hB.out.size hb
   have hB3 := (hB2.setCell (p := ⟨w.heap.size + 1,0,none⟩) (by simp) (.slice xA xl.length xc)).setCell (p := ⟨w.heap.size + 1 + 1,0,none⟩) (by simp;omega) (.bool true)
   exact ⟨((kept_below hb).trans (KeepsOthers.setCell _ _ _)).trans (KeepsOthers.setCell _ _ _),rfl,⟨pre,(xl,xA,xc),rfl,HP.out,HV.out,e4,hxle,C_int_set (blkF_set (g := w.heap.size + 1) (i := 0) (v := .slice xA xl.length xc) q5.out (by omega)) (fun p e => by cases e) (C_int_set q4.out (fun p e => by cases e) hC2)⟩,e5,hB3⟩
 case done =>
  rintro D xs W hD hS ⟨hp,b3,b4,b5,hB⟩ hK
  have hc4 : W.cell? ⟨w.heap.size + 1,0,none⟩ = some (.slice none 0 0) := (blk_cell b4 0).trans rfl
  have hf4 := blk_frozen b4 0
  have hc5 : W.cell? ⟨w.heap.size + 1 + 1,0,none⟩ = some (.bool false) := (blk_cell b5 0).trans rfl
  have hf5 := blk_frozen b5 0
  have HN := am (firstM_none HH.out (fun y hy => by rw [← hS] at hy;obtain ⟨z,hz,rfl⟩ := List.mem_map.1 hy;exact hp z hz))
  have b4 := am b4
  have b5 := am b5
  have hB := am hB
  have hK := am hK
  clear hp hS b3
  gi_wp2
  have e5 := blkF_set1 (v := .bool false) (blkF_set (g := w.heap.size + 1) (i := 0) (v := .slice none 0 0) b5.out (by omega))
  have e4 := blkF_set (g := w.heap.size + 1 + 1) (i := 0) (v := .bool false) (blkF_set1 (v := .slice none 0 0) b4.out) (by omega)
  have hK' := ((KeepsOthers.setCell W ⟨w.heap.size + 1,0,none⟩ (.slice none 0 0)).trans (KeepsOthers.setCell _ ⟨w.heap.size + 1 + 1,0,none⟩ (.bool false))).same D _ hK.out rfl
  refine ⟨by simp,.inl ⟨_,_,rfl,run_takeDeferred hK',?_⟩⟩
  have p4 := (blk_cell (blk_putO (o' := .deferred none) e4 rfl hK' rfl) 0).trans rfl
  have p5 := (blk_cell (blk_putO (o' := .deferred none) e5 rfl hK' rfl) 0).trans rfl
  refine ⟨.tuple #[.slice none 0 0,.bool false],?_,.inl ⟨HN.out,rfl⟩,((hB.out.setCell (p := ⟨w.heap.size + 1,0,none⟩) (by simp) (.slice none 0 0)).setCell (p := ⟨w.heap.size + 1 + 1,0,none⟩) (by simp;omega) (.bool false)).trans (belowK_b (w := w) (Nat.le_refl _) _ D _ _ (by omega) hK' rfl rfl)⟩
  simp [results,Tryz.f79,go_sem,p4,p5]
 case stop =>
  rintro D c pre W hD hSp ⟨rfl,⟨p0,x,rfl,hp,hx,b4,hle,hC⟩,b5,hB⟩ hK
  have HN := am (firstM_some HH.out (pre := p0.map (·.1)) (x := x.1) (fun y hy => by obtain ⟨z,hz,rfl⟩ := List.mem_map.1 hy;exact hp z hz) hx (by simpa using hSp))
  have b4 := am b4
  have b5 := am b5
  have hB := am hB
  have hK := am hK
  have hC := am hC
  clear hp hSp hx
  gi_wp2
  refine ⟨by simp,.inl ⟨_,_,rfl,run_takeDeferred hK.out,?_⟩⟩
  have p4 := (blk_cell (blk_putO (o' := .deferred none) b4.out rfl hK.out rfl) 0).trans rfl
  have p5 := (blk_cell (blk_putO (o' := .deferred none) b5.out rfl hK.out rfl) 0).trans rfl
  refine ⟨.tuple #[.slice x.2.1 x.1.length x.2.2,.bool true],?_,.inr ⟨x.1,x.2.1,x.2.2,HN.out,rfl,hle,keeps_C (fun hk => hk) (KeepsCells.putObj W D _ _ hK.out rfl) hC.out⟩,hB.out.trans (belowK_b (w := w) (Nat.le_refl _) W D _ _ (by omega) hK.out rfl rfl)⟩
  simp [results,Tryz.f79,go_sem,p4,p5]
end
end Go.Proofs.YticlelgmmonloaaGreatDoor.C
namespace Go.Proofs.YticlelgmmonloaaGreatDoor.C
open Go.RowKit Go.Proofs.YticlelgmmonloaaGreatDoorW.PrintWords Go.Proofs.YticlelgmmonloaaGreatDoorW.PrintLast Go.Proofs.YticlelgmmonloaaGreatDoorW.PrintMore
set_option linter.unusedVariables false
set_option linter.unusedSimpArgs false
set_option maxHeartbeats 16000000
set_option maxRecDepth 100000
section
attribute [local go_sem] max2_int min2_int max_two min_two
def ca_Mends_1.f (a0 : Int) : Option (Bool) := (ca_isFlow.f a0).bind fun t994 => (some (!t994))
theorem ca_Mends_1.calls (a0 : Int) (r : Bool) (w : World) (h : ca_Mends_1.f a0 = some r) :
 Calls Tryz.prog 76 #[.int .i64 a0] w fun e w' => e = .returned (.bool r) ∧ Drawn0 w w' := by
 have H : ((ca_isFlow.f a0).bind fun t994 => (some (!t994))) = some r := h
 clear h
 replace H := obm H
 obtain ⟨t994,A20,H⟩ := H
 (try dsimp only at H)
 have A2 := Aside0.mk A20
 clear A20
 obtain rfl := Option.some.inj H
 go_enter Tryz.func76,Tryz.ntmps76
 go_wp2_with (first | ((with_reducible refine gate_callee (f := 58) rfl ?_);refine goesL_ (some 4) rfl rfl Tryz.func58 (by kernel_rfl) rfl #[.int .i64 a0] rfl (by (try simp only [List.map_toArray,List.map_cons,List.map_nil]);first | done | rfl | (simp only [List.length_drop,List.length_take];rfl)) ?_;(with_reducible refine (ca_isFlow.calls a0 t994 _ A2.out).mono ?_);rintro e w' ⟨rfl,⟨nd,rfl⟩⟩;refine ⟨_,rfl,?_⟩))
 go_ret
 exact ⟨by first | rfl | (simp;done) | (simp [*];done),by repeat (first | exact Drawn0.refl _ | apply Drawn0.step)⟩
end
def Pred_Mends (q : Int → Option Bool) (w : World) (xs : List Int) : Prop := ∀ (x : Int) (b : Bool) (W : World) , x ∈ xs → q x = some b → Below w.heap.size w W → 
 Calls Tryz.prog 76 #[.int .i64 x] W fun e W' => e = .returned (.bool b) ∧ Below W.heap.size W W'
theorem idx_Mends (q : Int → Option Bool) (A : Option Addr) (c : Nat) (xs : List Int) (r : Int) (w : World) (hr : Kd.C (Kd.int .i64) w A xs.length xs) (hp : Pred_Mends q w xs) (h : idxM q xs 0 = some r) :
 Calls Tryz.prog 104 #[.slice A xs.length c,.func (.func 76) #[] #[]] w fun e w' => e = .returned (.int .i64 r) ∧ Below w.heap.size w w' := by
 have HR := am hr
 have HP := am hp
 have HQ := am (show idxM q (xs.drop (0 : Int).toNat) 0 = some r from h)
 have hm : xs.length ≤ 9223372036854775807 := Kd.C_max hr
 clear hr hp h
 go_enter Tryz.func104,Tryz.ntmps104
 go_wp2
 go_loopw [5,8] (fun v5 v8 w' => ∃ i : Int,0 ≤ i ∧ i ≤ xs.length ∧ v8 = .int .i64 i ∧ Aside0 (idxM q (xs.drop i.toNat) i = some r) ∧ Aside0 (Below w.heap.size w w')) (fun _ v8 _ => xs.length - (intOf v8).toNat)
 case atStart => exact ⟨0,by omega,by omega,rfl,HQ,⟨Below.refl _ _⟩⟩
 case round =>
  clear HQ
  obtain ⟨i,p1,hi,rfl,HQ,HB⟩ := hrel
  by_cases hlt : i < (xs.length : Int)
  case neg =>
   go_wp2
   go_ret
   exact ⟨ret_int_eq (idxM_end (by omega) HQ.out),HB.out⟩
  obtain ⟨ad,e1,hx0⟩ := Kd.at_int HR.out i p1 hlt
  cases e1
  replace hx0 := (HB.out.cell (wbl hx0)).trans hx0
  rcases idxM_step (0 : Int) p1 hlt HQ.out with ⟨hq,he⟩ | ⟨hq,hn⟩
  · have H1 := am hq
    have X1 := am (getD_mem (0 : Int) p1 hlt)
    have H2 := am he
    clear hq he
    go_wp2_with (go_at_call 76;refine (HP.out (xs.getD i.toNat (0 : Int)) _ _ X1.out H1.out HB.out).mono ?_;rintro e W' ⟨rfl,hb⟩)
    go_ret
    exact ⟨ret_int_eq H2.out,below_then HB.out HB.out.size hb⟩
  · have H1 := am hq
    have X1 := am (getD_mem (0 : Int) p1 hlt)
    have H2 := am hn
    clear hq hn
    go_wp2_with (go_at_call 76;refine (HP.out (xs.getD i.toNat (0 : Int)) _ _ X1.out H1.out HB.out).mono ?_;rintro e W' ⟨rfl,hb⟩)
    go_roundw
    case rel => exact ⟨i + 1,by omega,by omega,by go_num,H2,⟨below_then HB.out HB.out.size hb⟩⟩
    case measure => simp [intOf];omega
theorem any_Mends (q : Int → Option Bool) (A : Option Addr) (c : Nat) (xs : List Int) (r : Bool) (w : World) (hr : Kd.C (Kd.int .i64) w A xs.length xs) (hp : Pred_Mends q w xs) (h : anyM q xs = some r) :
 Calls Tryz.prog 75 #[.slice A xs.length c,.func (.func 76) #[] #[]] w fun e w' => e = .returned (.bool r) ∧ Below w.heap.size w w' := by
 obtain ⟨j,hj,hd⟩ := idxM_of_anyM q xs 0 r (by omega) h
 have H1 := am hj
 have H2 := am hd
 have HR := am hr
 have HP := am hp
 clear hr hp h hj hd
 go_enter Tryz.func75,Tryz.ntmps75
 go_wp2_with (go_at_call 104;refine (idx_Mends q _ _ xs j _ HR.out HP.out H1.out).mono ?_;rintro e W' ⟨rfl,hb⟩)
 go_ret
 exact ⟨ret_bool_eq H2.out,hb⟩
def cf_Mends.f (l0 : List Int) : Option Bool := anyM ca_Mends_1.f l0
theorem cf_Mends.calls (A0 : Option Addr) (c0 : Nat) (l0 : List Int) (r : Bool) (w : World) (hr0 : Kd.C (Kd.int .i64) w A0 l0.length l0) (hc0 : l0.length ≤ c0) (h : cf_Mends.f l0 = some r) :
 Calls Tryz.prog 75 #[.slice A0 l0.length c0,.func (.func 76) #[] #[]] w fun e w' => e = .returned (.bool r) ∧ Below w.heap.size w w' :=
 any_Mends ca_Mends_1.f A0 c0 l0 r w hr0 (fun x b W hx hq hb => (ca_Mends_1.calls _ b W hq).mono fun e W' ⟨he,hd⟩ => ⟨he,hd.below⟩) h
def mendsGo (q : List Int → Option Bool) (hs : Int → List (List Int)) : Nat → Int → Option (List Int × Int × Int)
 | 0,_ => some ([],0,5)
 | n + 1,c => (firstM q (hs c)).bind fun x => match x with | some l => some (l,c,0) | none => mendsGo q hs n (c + 1)
def ca_Mends.f (k : Nat) (l0_0 : List S126) (a0_1 : Int) (l0_2 : List S64) (a0_3 a0_4 : Int) (claims : List Int) (cups : Int) : Option (List Int × Int × Int) :=
 (ca_isBasin.f l0_0 a0_1 l0_2 a0_3 a0_4).bind fun t1 => if t1 = true then (if claims.length = l0_2.length then (cf_Mends.f claims).bind fun t2 => (if t2 = false then (ca_isFlow.f cups).bind fun t3 => (if t3 = true then mendsGo (suffice.f k l0_0 a0_1 l0_2 a0_3 a0_4 cups claims) (hsOf (l0_2.map (·.f1)) []) (2 * l0_2.length + 1) 0 else some ([],0,2)) else some ([],0,2)) else some ([],0,2)) else some ([],0,2)
theorem firstPostN {e : Ending} {X Bl : Prop} {Y : List Int → Option Addr → Nat → Prop} (h : (((none : Option (List Int)) = none ∧ X) ∨ ∃ l A c,(none : Option (List Int)) = some l ∧ Y l A c) ∧ Bl) : X ∧ Bl := ⟨h.1.elim And.right (fun ⟨_,_,_,hl,_⟩ => by cases hl),h.2⟩
theorem firstPostS {e : Ending} {X Bl : Prop} {l : List Int} {Y : List Int → Option Addr → Nat → Prop} (h : ((some l = none ∧ X) ∨ ∃ l2 A c,some l = some l2 ∧ Y l2 A c) ∧ Bl) : ∃ A c,Y l A c ∧ Bl := h.1.elim (fun hh => by cases hh.1) (fun ⟨_,A,c,hl,hy⟩ => by cases hl;exact ⟨A,c,hy,h.2⟩)
def MendsPost (r1 : List Int) (r2 r3 : Int) (w : World) (e : Ending) (w' : World) : Prop := ∃ A c,e = .returned (.tuple #[.slice A r1.length c,.int .i64 r2,.int .i64 r3]) ∧ r1.length ≤ c ∧ Kd.C (Kd.int .i64) w' A r1.length r1 ∧ Below w.heap.size w w'
theorem ca_Mends.calls (k : Nat) (A0_0 : Option Addr) (c0_0 : Nat) (l0_0 : List S126) (a0_1 : Int) (A0_2 : Option Addr) (c0_2 : Nat) (l0_2 : List S64) (a0_3 a0_4 : Int) (A3 : Option Addr) (c3 : Nat) (claims : List Int) (cups : Int) (r1 : List Int) (r2 r3 : Int) (w : World) (hr0_0 : Kd.C k126 w A0_0 l0_0.length l0_0) (hc0_0 : l0_0.length ≤ c0_0) (hr0_2 : Kd.C k64 w A0_2 l0_2.length l0_2) (hc0_2 : l0_2.length ≤ c0_2) (hr3 : Kd.C (Kd.int .i64) w A3 claims.length claims) (hc3 : claims.length ≤ c3)
 (hh : ca_isBasin.f l0_0 a0_1 l0_2 a0_3 a0_4 = some true → (∀ h ∈ l0_2.map (·.f1),0 ≤ h ∧ h ≤ 40) ∧ l0_2.length ≤ 6)
 (hq : ca_isBasin.f l0_0 a0_1 l0_2 a0_3 a0_4 = some true → ∀ l : List Int,l.length = l0_2.length → (∀ z ∈ l,0 ≤ z ∧ z ≤ 40) → ∃ b,suffice.f k l0_0 a0_1 l0_2 a0_3 a0_4 cups claims l = some b)
 (h : ca_Mends.f k l0_0 a0_1 l0_2 a0_3 a0_4 claims cups = some (r1,r2,r3)) (hz : r3 = 0) :
 Calls Tryz.prog 38 #[.agg #[.slice A0_0 l0_0.length c0_0,.int .i64 a0_1,.slice A0_2 l0_2.length c0_2,.int .i64 a0_3,.int .i64 a0_4],.slice A3 claims.length c3,.int .i64 cups] w (MendsPost r1 r2 r3 w) := by
 have hu := Tryz.underlying27
 have hmf : ∀ (fn : Fn) (first cap : Array Value) (w : World),(Instr.makeFunc fn first cap).run Tryz.prog w = .ok (.func fn first cap) w := fun _ _ _ _ => rfl
 have hmx := Kd.C_max hr0_2
 have HR0 := am hr0_0
 have HC0 := am hc0_0
 have HR2 := am hr0_2
 have HC2 := am hc0_2
 have HR3 := am hr3
 have HC3 := am hc3
 have HB := am (Below.refl w.heap.size w)
 have HMX := am (Kd.C_max hr3)
 clear hr0_0 hc0_0 hr0_2 hc0_2 hr3 hc3
 unfold ca_Mends.f at h
 obtain ⟨t1,ht1,h2⟩ := obm h
 clear h
 have h := h2;clear h2
 have H1 := am ht1
 have HH := am hh
 have HQ := am hq
 clear hh hq ht1
 cases t1 with
 | false =>
  rw [if_neg (by decide)] at h
  subst hz
  simp at h
 | true =>
  rw [if_pos rfl] at h
  by_cases hlen : claims.length = l0_2.length
  case neg =>
   rw [if_neg hlen] at h
   have hd : ((claims.length : Int) != (l0_2.length : Int)) = true := by simp;omega
   subst hz
   simp at h
  rw [if_pos hlen] at h
  have hd : ((claims.length : Int) != (l0_2.length : Int)) = false := by simp;omega
  have HL := am hlen
  clear hlen
  obtain ⟨t2,ht2,h2⟩ := obm h;clear h;have h := h2;clear h2
  have H2 := am ht2
  clear ht2
  cases t2 with
  | true =>
   rw [if_neg (by decide)] at h
   subst hz
   simp at h
  | false =>
   rw [if_pos rfl] at h
   obtain ⟨t3,ht3,h2⟩ := obm h;clear h;have h := h2;clear h2
   have H3 := am ht3
   clear ht3
   cases t3 with
   | false =>
    rw [if_neg (by decide)] at h
    subst hz
    simp at h
   | true =>
    rw [if_pos rfl] at h
    have HG := am h
    clear h
    obtain ⟨hh1,hh2⟩ := HH.out H1.out
    have HHH := am hh1
    clear hh1
    go_enter Tryz.func38,Tryz.ntmps38
    go_wp2_with (first | ((refine gate_dst (N := 3) rfl ?_);(try (refine gate_guard (by rfl) ?_;dsimp only));refine box_event rfl (N := 3) rfl (cs := #[.slice A0_0 l0_0.length c0_0,.int .i64 a0_1,.slice A0_2 l0_2.length c0_2,.int .i64 a0_3,.int .i64 a0_4]) (t := 27) ?hr ?_;(case hr => go_simp;try rfl);intro gb hg w2 hbox hb;replace HR0 := (cmv HR0 hb);replace HR2 := (cmv HR2 hb);replace HR3 := (cmv HR3 hb);replace HB := (bmv HB hb);clear hg;have BKgb := am hbox;clear hbox;(try clear hczgb_0 hczgb_1 hczgb_2 hczgb_3 hczgb_4);obtain ⟨hczgb_0,hczgb_1,hczgb_2,hczgb_3,hczgb_4⟩ := cO5 BKgb.out;clear hb) | ((refine gate_dst (N := 4) rfl ?_);(try (refine gate_guard (by rfl) ?_;dsimp only));refine box_event rfl (N := 4) rfl (cs := #[.slice A3 claims.length c3]) (t := 30) ?hr ?_;(case hr => go_simp;try rfl);intro gc hg w2 hbox hb;replace HR0 := (cmv HR0 hb);replace HR2 := (cmv HR2 hb);replace HR3 := (cmv HR3 hb);replace HB := (bmv HB hb);replace BKgb := (kmv hb BKgb);clear hg;have BKgc := am hbox;clear hbox;(try clear hczgb_0 hczgb_1 hczgb_2 hczgb_3 hczgb_4);obtain ⟨hczgb_0,hczgb_1,hczgb_2,hczgb_3,hczgb_4⟩ := cO5 BKgb.out;(try clear hczgc_0);have hczgc_0 := cO1 BKgc.out;clear hb) | ((refine gate_dst (N := 5) rfl ?_);(try (refine gate_guard (by rfl) ?_;dsimp only));refine box_event rfl (N := 5) rfl (cs := #[.int .i64 cups]) (t := 3) ?hr ?_;(case hr => go_simp;try rfl);intro gq hg w2 hbox hb;replace HR0 := (cmv HR0 hb);replace HR2 := (cmv HR2 hb);replace HR3 := (cmv HR3 hb);replace HB := (bmv HB hb);replace BKgb := (kmv hb BKgb);replace BKgc := (kmv hb BKgc);clear hg;have BKgq := am hbox;clear hbox;(try clear hczgb_0 hczgb_1 hczgb_2 hczgb_3 hczgb_4);obtain ⟨hczgb_0,hczgb_1,hczgb_2,hczgb_3,hczgb_4⟩ := cO5 BKgb.out;(try clear hczgc_0);have hczgc_0 := cO1 BKgc.out;(try clear hczgq_0);have hczgq_0 := cO1 BKgq.out;clear hb) | (go_at_call 57;(refine (ca_isBasin.calls A0_0 c0_0 l0_0 a0_1 A0_2 c0_2 l0_2 a0_3 a0_4 true _ HR0.out HC0.out HR2.out HC2.out H1.out).mono ?_);rintro e w1 ⟨rfl,hb⟩;replace HR0 := (cmv HR0 hb);replace HR2 := (cmv HR2 hb);replace HR3 := (cmv HR3 hb);replace HB := (bmv HB hb);replace BKgb := (kmv hb BKgb);replace BKgc := (kmv hb BKgc);replace BKgq := (kmv hb BKgq);(try clear hczgb_0 hczgb_1 hczgb_2 hczgb_3 hczgb_4);obtain ⟨hczgb_0,hczgb_1,hczgb_2,hczgb_3,hczgb_4⟩ := cO5 BKgb.out;(try clear hczgc_0);have hczgc_0 := cO1 BKgc.out;(try clear hczgq_0);have hczgq_0 := cO1 BKgq.out;clear hb) | (go_at_call 75;(refine (cf_Mends.calls A3 c3 claims false _ HR3.out HC3.out H2.out).mono ?_);rintro e w2 ⟨rfl,hb⟩;replace HR0 := (cmv HR0 hb);replace HR2 := (cmv HR2 hb);replace HR3 := (cmv HR3 hb);replace HB := (bmv HB hb);replace BKgb := (kmv hb BKgb);replace BKgc := (kmv hb BKgc);replace BKgq := (kmv hb BKgq);(try clear hczgb_0 hczgb_1 hczgb_2 hczgb_3 hczgb_4);obtain ⟨hczgb_0,hczgb_1,hczgb_2,hczgb_3,hczgb_4⟩ := cO5 BKgb.out;(try clear hczgc_0);have hczgc_0 := cO1 BKgc.out;(try clear hczgq_0);have hczgq_0 := cO1 BKgq.out;clear hb) | (go_at_call 58;(refine (ca_isFlow.calls cups true _ H3.out).mono ?_);rintro e w3 ⟨rfl,hd⟩;have hb := hd.below;clear hd;replace HR0 := (cmv HR0 hb);replace HR2 := (cmv HR2 hb);replace HR3 := (cmv HR3 hb);replace HB := (bmv HB hb);replace BKgb := (kmv hb BKgb);replace BKgc := (kmv hb BKgc);replace BKgq := (kmv hb BKgq);(try clear hczgb_0 hczgb_1 hczgb_2 hczgb_3 hczgb_4);obtain ⟨hczgb_0,hczgb_1,hczgb_2,hczgb_3,hczgb_4⟩ := cO5 BKgb.out;(try clear hczgc_0);have hczgc_0 := cO1 BKgc.out;(try clear hczgq_0);have hczgq_0 := cO1 BKgq.out;clear hb))
    have hw1 : IntKind.i64.wrap (2 * (l0_2.length : Int)) = 2 * (l0_2.length : Int) := (i64_w _).trans (by unfold wrap64;omega)
    have hw2 : IntKind.i64.wrap (2 * (l0_2.length : Int) + 1) = 2 * (l0_2.length : Int) + 1 := (i64_w _).trans (by unfold wrap64;omega)
    go_loopw [39] (fun v39 w' => ∃ i : Int,0 ≤ i ∧ i ≤ 2 * (l0_2.length : Int) + 1 ∧ v39 = .int .i64 i ∧ Aside0 (mendsGo (suffice.f k l0_0 a0_1 l0_2 a0_3 a0_4 cups claims) (hsOf (l0_2.map (·.f1)) []) (2 * (l0_2.length : Int) + 1 - i).toNat i = some (r1,r2,r3)) ∧ Aside0 (Below w.heap.size w w') ∧ Aside0 (Kd.C k126 w' A0_0 l0_0.length l0_0) ∧ Aside0 (Kd.C k64 w' A0_2 l0_2.length l0_2) ∧ Aside0 (Kd.C (Kd.int .i64) w' A3 claims.length claims) ∧ Aside0 (w'.heap[gb]? = some (.cells #[.slice A0_0 l0_0.length c0_0,.int .i64 a0_1,.slice A0_2 l0_2.length c0_2,.int .i64 a0_3,.int .i64 a0_4] 27 (0,0))) ∧ Aside0 (w'.heap[gc]? = some (.cells #[.slice A3 claims.length c3] 30 (0,0))) ∧ Aside0 (w'.heap[gq]? = some (.cells #[.int .i64 cups] 3 (0,0)))) (fun v39 _ => (2 * (l0_2.length : Int) + 1 - intOf v39).toNat)
    case atStart => exact ⟨0,by omega,by omega,rfl,HG,HB,HR0,HR2,HR3,BKgb,BKgc,BKgq⟩
    case round =>
     clear HG HB HR0 HR2 HR3 BKgb BKgc BKgq
     (try clear hczgb_0 hczgb_1 hczgb_2 hczgb_3 hczgb_4 hczgc_0 hczgq_0)
     obtain ⟨i,p1,hi,rfl,HG,HB,HR0,HR2,HR3,BKgb,BKgc,BKgq⟩ := hrel
     by_cases hlt : i < 2 * (l0_2.length : Int) + 1
     case neg =>
      have hg := HG.out
      rw [show (2 * (l0_2.length : Int) + 1 - i).toNat = 0 by omega] at hg
      simp only [mendsGo,Option.some.injEq,Prod.mk.injEq] at hg
      obtain ⟨rfl,rfl,rfl⟩ := hg
      go_wp2
      go_ret3
      exact ⟨none,0,rfl,Nat.le_refl _,(Kd.R_reads' (Kd.R_nil (Kd.int .i64) 3 _ 0 (fun _ => True))).2.2,HB.out⟩
     have hg := HG.out
     rw [show (2 * (l0_2.length : Int) + 1 - i).toNat = (2 * (l0_2.length : Int) + 1 - (i + 1)).toNat + 1 by omega] at hg
     simp only [mendsGo] at hg
     obtain ⟨x,hx,hg2⟩ := obm hg
     clear hg HG
     have HX := am hx
     clear hx
     have hw3 : IntKind.i64.wrap (i + 1) = i + 1 := (i64_w _).trans (by unfold wrap64;omega)
     have hch : 0 ≤ i ∧ i ≤ 1000 := by omega
     (try clear hczgb_0 hfzgb_0);have hczgb_0 : wr.cell? ⟨gb,0,none⟩ = some (.slice A0_0 l0_0.length c0_0) := (blk_cell BKgb.out 0).trans rfl;have hfzgb_0 := blk_frozen BKgb.out 0
     (try clear hczgb_1 hfzgb_1);have hczgb_1 : wr.cell? ⟨gb,1,none⟩ = some (.int .i64 a0_1) := (blk_cell BKgb.out 1).trans rfl;have hfzgb_1 := blk_frozen BKgb.out 1
     (try clear hczgb_2 hfzgb_2);have hczgb_2 : wr.cell? ⟨gb,2,none⟩ = some (.slice A0_2 l0_2.length c0_2) := (blk_cell BKgb.out 2).trans rfl;have hfzgb_2 := blk_frozen BKgb.out 2
     (try clear hczgb_3 hfzgb_3);have hczgb_3 : wr.cell? ⟨gb,3,none⟩ = some (.int .i64 a0_3) := (blk_cell BKgb.out 3).trans rfl;have hfzgb_3 := blk_frozen BKgb.out 3
     (try clear hczgb_4 hfzgb_4);have hczgb_4 : wr.cell? ⟨gb,4,none⟩ = some (.int .i64 a0_4) := (blk_cell BKgb.out 4).trans rfl;have hfzgb_4 := blk_frozen BKgb.out 4
     (try clear hczgc_0 hfzgc_0);have hczgc_0 : wr.cell? ⟨gc,0,none⟩ = some (.slice A3 claims.length c3) := (blk_cell BKgc.out 0).trans rfl;have hfzgc_0 := blk_frozen BKgc.out 0
     (try clear hczgq_0 hfzgq_0);have hczgq_0 : wr.cell? ⟨gq,0,none⟩ = some (.int .i64 cups) := (blk_cell BKgq.out 0).trans rfl;have hfzgq_0 := blk_frozen BKgq.out 0
     cases x with
     | none =>
      dsimp only at hg2
      have HG := am hg2
      clear hg2
      go_wp2_with (first | (go_at_call 80;(refine (ca_heights.calls A0_0 l0_0.length c0_0 a0_1 A0_2 l0_2.length c0_2 a0_3 a0_4 i _).mono ?_);rintro e w1 ⟨hgb,hgch,rfl,hbb,hbch,hb⟩;replace HR0 := (cmv HR0 hb);replace HR2 := (cmv HR2 hb);replace HR3 := (cmv HR3 hb);replace HB := (bmv HB hb);replace BKgb := (kmv hb BKgb);replace BKgc := (kmv hb BKgc);replace BKgq := (kmv hb BKgq);(try clear hczgb_0 hczgb_1 hczgb_2 hczgb_3 hczgb_4);obtain ⟨hczgb_0,hczgb_1,hczgb_2,hczgb_3,hczgb_4⟩ := cO5 BKgb.out;(try clear hczgc_0);have hczgc_0 := cO1 BKgc.out;(try clear hczgq_0);have hczgq_0 := cO1 BKgq.out;have BB1 := am hbb;have BB2 := am hbch;clear hbb hbch;clear hb) | (go_at_call 79;(with_reducible refine ((ca_first.calls k hgb hgch gb gq gc A0_0 c0_0 l0_0 a0_1 A0_2 c0_2 l0_2 a0_3 a0_4 i cups A3 c3 claims _ _ BB1.out BB2.out BKgb.out BKgq.out BKgc.out HR0.out HC0.out HR2.out HC2.out HR3.out hch.1 hch.2 HHH.out (Nat.le_trans hh2 (by decide)) (HQ.out H1.out) HX.out).mono (fun e _ h_ => firstPostN (e := e) h_)).mono ?_);rintro e w2 ⟨rfl,hb⟩;replace HR0 := (cmv HR0 hb);replace HR2 := (cmv HR2 hb);replace HR3 := (cmv HR3 hb);replace HB := (bmv HB hb);replace BKgb := (kmv hb BKgb);replace BKgc := (kmv hb BKgc);replace BKgq := (kmv hb BKgq);(try clear hczgb_0 hczgb_1 hczgb_2 hczgb_3 hczgb_4);obtain ⟨hczgb_0,hczgb_1,hczgb_2,hczgb_3,hczgb_4⟩ := cO5 BKgb.out;(try clear hczgc_0);have hczgc_0 := cO1 BKgc.out;(try clear hczgq_0);have hczgq_0 := cO1 BKgq.out;clear hb))
      go_roundw
      case rel => exact ⟨i + 1,by omega,by omega,by go_num,HG,HB,HR0,HR2,HR3,BKgb,BKgc,BKgq⟩
      case measure => simp [intOf];omega
     | some l =>
      dsimp only at hg2
      simp only [Option.some.injEq,Prod.mk.injEq] at hg2
      obtain ⟨rfl,rfl,rfl⟩ := hg2
      go_wp2_with (first | (go_at_call 80;(refine (ca_heights.calls A0_0 l0_0.length c0_0 a0_1 A0_2 l0_2.length c0_2 a0_3 a0_4 i _).mono ?_);rintro e w1 ⟨hgb,hgch,rfl,hbb,hbch,hb⟩;replace HR0 := (cmv HR0 hb);replace HR2 := (cmv HR2 hb);replace HR3 := (cmv HR3 hb);replace HB := (bmv HB hb);replace BKgb := (kmv hb BKgb);replace BKgc := (kmv hb BKgc);replace BKgq := (kmv hb BKgq);(try clear hczgb_0 hczgb_1 hczgb_2 hczgb_3 hczgb_4);obtain ⟨hczgb_0,hczgb_1,hczgb_2,hczgb_3,hczgb_4⟩ := cO5 BKgb.out;(try clear hczgc_0);have hczgc_0 := cO1 BKgc.out;(try clear hczgq_0);have hczgq_0 := cO1 BKgq.out;have BB1 := am hbb;have BB2 := am hbch;clear hbb hbch;clear hb) | (go_at_call 79;(with_reducible refine ((ca_first.calls k hgb hgch gb gq gc A0_0 c0_0 l0_0 a0_1 A0_2 c0_2 l0_2 a0_3 a0_4 i cups A3 c3 claims _ _ BB1.out BB2.out BKgb.out BKgq.out BKgc.out HR0.out HC0.out HR2.out HC2.out HR3.out hch.1 hch.2 HHH.out (Nat.le_trans hh2 (by decide)) (HQ.out H1.out) HX.out).mono (fun e _ h_ => firstPostS (e := e) h_)).mono ?_);rintro e w2 ⟨A,c,⟨rfl,hle,hC⟩,hb⟩;replace HR0 := (cmv HR0 hb);replace HR2 := (cmv HR2 hb);replace HR3 := (cmv HR3 hb);replace HB := (bmv HB hb);replace BKgb := (kmv hb BKgb);replace BKgc := (kmv hb BKgc);replace BKgq := (kmv hb BKgq);(try clear hczgb_0 hczgb_1 hczgb_2 hczgb_3 hczgb_4);obtain ⟨hczgb_0,hczgb_1,hczgb_2,hczgb_3,hczgb_4⟩ := cO5 BKgb.out;(try clear hczgc_0);have hczgc_0 := cO1 BKgc.out;(try clear hczgq_0);have hczgq_0 := cO1 BKgq.out;have HLE := am hle;have HRX := am hC;clear hle hC;clear hb))
      go_ret3
      exact ⟨A,c,rfl,HLE.out,HRX.out,HB.out⟩
section
attribute [local go_sem] max2_int min2_int max_two min_two
def ca_sure.f (a0 : Bool) (a1 : ByteArray) : Option (Unit) := if a0 = true then (some ()) else (none)
theorem ca_sure.calls (a0 : Bool) (a1 : ByteArray) (w : World) (h : ca_sure.f a0 a1 = some ()) :
 Calls Tryz.prog 111 #[.bool a0,.string a1] w fun e w' => e = .returned (.tuple #[]) ∧ Drawn0 w w' := by
 have hu137 := Tryz.underlying137
 have H : (if a0 = true then (some ()) else (none)) = some () := h
 clear h
 by_cases c3 : a0 = true
 · subst c3
   have H1 : (some ()) = some () := rfl
   clear H
   have H := H1
   clear H1
   go_enter Tryz.func111,Tryz.ntmps111
   go_wp2
   first | go_end0 | ((try simp only [Exit.inBlock,Exit.then]);refine bodyPost_ret (results_none rfl _ _ _) rfl ?_)
   exact ⟨by first | rfl | (simp;done) | (simp [*];done),by repeat (first | exact Drawn0.refl _ | apply Drawn0.step)⟩
 · replace c3 := Bool.eq_false_iff.mpr c3
   subst c3
   have H1 : (none) = some () := by rw [if_neg (show ¬ (false = true) by decide)] at H;exact H
   clear H
   have H := H1
   clear H1
   exact absurd H (by simp)
set_option linter.unusedSimpArgs false
end
end Go.Proofs.YticlelgmmonloaaGreatDoor.C

/- A part of the proof: the walks of the functions that it reaches. TIGHT. -/
import Derived.Test.YticlelgmmonloaaGreatDoorM12
set_option linter.unusedVariables false
set_option linter.unusedSimpArgs false
namespace Go.Proofs.YticlelgmmonloaaGreatDoor.C
open Go.RowKit Go.Proofs.YticlelgmmonloaaGreatDoorW.PrintWords Go.Proofs.YticlelgmmonloaaGreatDoorW.PrintLast Go.Proofs.YticlelgmmonloaaGreatDoorW.PrintMore
set_option linter.unusedVariables false
set_option linter.unusedSimpArgs false
set_option maxHeartbeats 16000000
set_option maxRecDepth 100000
section
attribute [local go_sem] max2_int min2_int max_two min_two
def q4_At.l0 : Nat → List Int → Int → List (S126) → Int → List (S64) → Int → Int → Option (Int × (List (S64)) × Int × Int)
 | 0,_,_,_,_,_,_,_ => none
 | k + 1,x1,x5,x816000,x816001,x816002,x816003,x816004 => if x5 < (x1.length : Int) then (if 0 ≤ x5 then (if x5 < (x816002.length : Int) then (q4_At.l0 k x1 (wrap64 (x5 + 1)) x816000 x816001 (x816002.set (x5 : Int).toNat (⟨(rd_T64 x816002 x5).f0,rd x1 x5⟩ : S64)) x816003 x816004) else (none)) else (none)) else (some (x816001,x816002,x816003,x816004))
def q4_At.f (k : Nat) (l0_0 : List (S126)) (a0_1 : Int) (l0_2 : List (S64)) (a0_3 : Int) (a0_4 : Int) (l1 : List Int) : Option (Int × (List (S64)) × Int × Int) := if ([] : List (S64)).length + l0_2.length < 8796093022208 then (q4_At.l0 k l1 0 l0_0 a0_1 (([] : List (S64)) ++ l0_2) a0_3 a0_4) else (none)
def q4_At.T5 : Bool × List (List Nat × List Nat) := (true,[([],[]),([0],[0]),([],[]),([],[]),([],[]),([3,4],[3,4]),([5],[5]),([1,2,0,1,2,3,4,5,6],[1,2]),([7,0,1,2,3,4,5,6],[7]),([8,6,0,1,2,3,4,5,6],[6,8])])
def q4_At.B5 : List Nat := [0,1,0,0,0,24,56,127,255,511]
theorem q4_At.tab5 : rtab .any (opsOf Tryz.f43 5) = q4_At.T5 := by kernel_rfl
theorem q4_At.bits5 : waitsOk q4_At.T5.2 q4_At.B5 = true := by kernel_rfl
theorem q4_At.calls (k : Nat) (A0_0 : Option Addr) (c0_0 : Nat) (l0_0 : List (S126)) (a0_1 : Int) (A0_2 : Option Addr) (c0_2 : Nat) (l0_2 : List (S64)) (a0_3 : Int) (a0_4 : Int) (A1 : Option Addr) (c1 : Nat) (l1 : List Int) (r1 : Int) (r2 : List (S64)) (r3 : Int) (r4 : Int) (w : World) (hr0_0 : Kd.C k126 w A0_0 l0_0.length l0_0) (hc0_0 : l0_0.length ≤ c0_0) (hr0_2 : Kd.C k64 w A0_2 l0_2.length l0_2) (hc0_2 : l0_2.length ≤ c0_2) (hr1 : Kd.C (Kd.int .i64) w A1 l1.length l1) (hc1 : l1.length ≤ c1) (h : q4_At.f k l0_0 a0_1 l0_2 a0_3 a0_4 l1 = some (r1,r2,r3,r4)) :
 Calls Tryz.prog 43 #[.agg #[.slice A0_0 l0_0.length c0_0,.int .i64 a0_1,.slice A0_2 l0_2.length c0_2,.int .i64 a0_3,.int .i64 a0_4],.slice A1 l1.length c1] w fun e w' => ∃ v1_ : Value,e = .returned (.agg #[.slice A0_0 l0_0.length c0_0,.int .i64 r1,v1_,.int .i64 r3,.int .i64 r4]) ∧ Kd.R k64 64 w' w.heap.size (fun _ => True) v1_ r2 ∧ Below w.heap.size w w' := by
 have hu27 := Tryz.underlying27
 have HR0_0 := am hr0_0
 have HC0_0 := am hc0_0
 clear hr0_0 hc0_0
 have HR0_2 := am hr0_2
 have HC0_2 := am hc0_2
 clear hr0_2 hc0_2
 have HR1 := am hr1
 have HC1 := am hc1
 clear hr1 hc1
 have HB := am (Below.refl w.heap.size w)
 have H : (if ([] : List (S64)).length + l0_2.length < 8796093022208 then (q4_At.l0 k l1 0 l0_0 a0_1 (([] : List (S64)) ++ l0_2) a0_3 a0_4) else (none)) = some (r1,r2,r3,r4) := h
 clear h
 by_cases c3 : ([] : List (S64)).length + l0_2.length < 8796093022208
 case neg =>
  rw [if_neg c3] at H
  exact absurd H (by simp)
 rw [if_pos c3] at H
 have LMc3 := am c3
 clear c3
 obtain ⟨y817,hy817⟩ : ∃ y_ : List (S64),y_ = (([] : List (S64)) ++ l0_2) := ⟨_,rfl⟩
 replace H : (q4_At.l0 k l1 0 l0_0 a0_1 y817 a0_3 a0_4) = some (r1,r2,r3,r4) := by first | (rw [hy817];with_reducible exact H) | (have H2_ := (Option.bind_some _ _).symm.trans H;rw [hy817];with_reducible exact H2_) | (have H2_ := (Option.bind_some _ _).symm.trans H;with_reducible exact H2_) | with_reducible exact H | (rw [hy817];exact H) | exact H
 have Ny817 := am hy817
 clear hy817
 replace H' := am H
 go_enter Tryz.func43,Tryz.ntmps43
 go_wp2_with (first | ((refine gate_dst (N := 2) rfl ?_);refine box_event rfl (N := 2) rfl (cs := #[.slice A0_0 l0_0.length c0_0,.int .i64 a0_1,.slice A0_2 l0_2.length c0_2,.int .i64 a0_3,.int .i64 a0_4]) (t := 27) ?hr ?_;(case hr => go_simp;try rfl);intro gb815 hg w4 hbox hb;have BK815 := am (hbox);have GW815 := am (ge_new (HB.out) hg);have GE815 := am (ge_new (HB.out) hg);replace HB := am (below_step (HB.out) hb);clear hb hbox hg) | ((refine gate_dst (N := 4) rfl ?_);refine box_event rfl (N := 4) rfl (cs := #[.slice none 0 0,.int .i64 0,.slice none 0 0,.int .i64 0,.int .i64 0]) (t := 27) ?hr ?_;(case hr => go_simp;try rfl);intro gb816 hg w5 hbox hb;have BK816 := am (hbox);have GW816 := am (ge_new (HB.out) hg);have GE816 := am (ge_new (HB.out) hg);have NB815_816 := am (ne_new BK815.out hg);have NB816_815 := am (ne_new2 BK815.out hg);replace BK815 := (kmv hb BK815);replace HB := am (below_step (HB.out) hb);clear hb hbox hg;have hnb6 := NB815_816.out;have hnc6 := NB816_815.out;obtain ⟨hcz7_0,hcz7_1,hcz7_2,hcz7_3,hcz7_4⟩ := cO5 BK815.out;have hfz7_0 := blk_frozen BK815.out 0;have hfz7_1 := blk_frozen BK815.out 1;have hfz7_2 := blk_frozen BK815.out 2;have hfz7_3 := blk_frozen BK815.out 3;have hfz7_4 := blk_frozen BK815.out 4) | ((with_reducible refine gate_builtin (b := .append) (xs := #[.const (.slice none 0 0),.tmp 7]) rfl ?_);at_builtin;refine Kd.R_append_rows k64 (w0 := w) w.heap.size rfl (.const (.slice none 0 0)) (.tmp 7) 25 64 (.agg #[(.int .i64 0),(.int .i64 0)]) 16 rfl Tryz.underlying25 info64 rfl (by decide) (by omega) (.slice none 0 0) ([] : List (S64)) l0_2 _ _ _ (fun _ => True) (fun _ => False) rfl rfl ?aO ?aR (fun _ _ h => h) (fun _ h => h.elim) ?aF ?aB ?aS ?aL ?_;(case aR => repeat (first | exact (kC HR0_2.out HB.out) | (with_reducible refine Kd.C_alloc ?_ _) | (with_reducible refine Kd.C_drewN ?_ _) | (with_reducible refine Kd.C_drew ?_)));(case aB => exact (HB.out));(case aF => exact (fun _ _ => trivial));(case aO => exact ((Kd.R_nil _ _ _ _ (fun _ => True))));(case aS => exact (below_size (HB.out)));(case aL => have := LMc3.out;omega);intro v818 w8 ho hb hg hat;rw [← Ny817.out] at ho;have HO819 := am (ho);replace BK815 := am (blk_grown (g := gb815) (o := .cells #[.slice A0_0 l0_0.length c0_0,.int .i64 a0_1,.slice A0_2 l0_2.length c0_2,.int .i64 a0_3,.int .i64 a0_4] 27 (0,0)) BK815.out hg (by simp [Value.ownBlock]));replace BK816 := am (blk_grown (g := gb816) (o := .cells #[.slice none 0 0,.int .i64 0,.slice none 0 0,.int .i64 0,.int .i64 0] 27 (0,0)) BK816.out hg (by simp [Value.ownBlock]));replace HB := am (hb);clear ho hb hg hat;obtain ⟨Ao9,co9,eo9⟩ := Kd.R_slice HO819.out;subst eo9;obtain ⟨hcz10_0,hcz10_1,hcz10_2,hcz10_3,hcz10_4⟩ := cO5 BK815.out;have hfz10_0 := blk_frozen BK815.out 0;have hfz10_1 := blk_frozen BK815.out 1;have hfz10_2 := blk_frozen BK815.out 2;have hfz10_3 := blk_frozen BK815.out 3;have hfz10_4 := blk_frozen BK815.out 4))
 go_loopg [5] k (fun kq v5 w' => ∃ (x5_1 : Int) (x816002_1 : List (S64)) (u816002 : Value),v5 = .int .i64 x5_1 ∧ Aside0 (q4_At.l0 kq l1 x5_1 l0_0 a0_1 x816002_1 a0_3 a0_4 = some (r1,r2,r3,r4)) ∧ Aside0 (kq ≤ k) ∧ Aside0 (Kd.R k64 64 w' w.heap.size (fun _ => True) u816002 x816002_1) ∧ Aside0 (w'.heap[gb815]? = some (.cells #[(.slice A0_0 l0_0.length c0_0),.int .i64 a0_1,u816002,.int .i64 a0_3,.int .i64 a0_4] 27 (0,0))) ∧ Aside0 (w'.heap[gb816]? = some (.cells #[(.slice none 0 0),.int .i64 0,(.slice none 0 0),.int .i64 0,.int .i64 0] 27 (0,0))) ∧ Aside0 (Below w.heap.size w w'))
 case atStart => exact ⟨(0),(y817),(.slice Ao9 y817.length co9),(by first | rfl | (simp;done) | (simp [*];done)),H',⟨Nat.le_refl _⟩,⟨by (with_reducible repeat (first | apply Kd.R_alloc | apply Kd.R_drewN | apply Kd.R_drew));exact Kd.R_mono (Kd.R_far (p := ⟨gb815,2,none⟩) (Kd.R_types HO819.out BK815.out (by decide)) (fun _ hk => hk.2) (.slice Ao9 y817.length co9)) (fun _ hk => trivial)⟩,⟨(blk_put (cs := #[.slice A0_0 l0_0.length c0_0,.int .i64 a0_1,.slice A0_2 l0_2.length c0_2,.int .i64 a0_3,.int .i64 a0_4]) BK815.out 2 _ rfl)⟩,⟨(blk_far BK816.out NB816_815.out _)⟩,⟨by repeat (first | (with_reducible first | exact HB.out | refine below_set ?_ (Aside0.out (by assumption)) | apply below_alloc | apply pw_below_drewN) | exact HB.out)⟩⟩
 case round =>
  clear H'
  obtain ⟨x5_1,x816002_1,u816002,rfl,HA,HK1,HO_816002,BK815,BK816,HB⟩ := hrel
  cases gk with
  | zero => exact absurd HA.out (by simp [q4_At.l0])
  | succ k1 =>
   have H := HA.out
   clear HA
   simp only [q4_At.l0] at H
   by_cases c11 : x5_1 < (l1.length : Int)
   case neg =>
    rw [if_neg c11] at H
    have c11b0 : decide (x5_1 < (l1.length : Int)) = false := decide_eq_false c11
    clear c11
    simp only [Option.some.injEq,Prod.mk.injEq] at H
    obtain ⟨rfl,rfl,rfl,rfl⟩ := H
    have hnb17 := NB815_816.out
    have hnc17 := NB816_815.out
    obtain ⟨hcz18_0,hcz18_1,hcz18_2,hcz18_3,hcz18_4⟩ := cO5 BK815.out
    have hfz18_0 := blk_frozen BK815.out 0
    have hfz18_1 := blk_frozen BK815.out 1
    have hfz18_2 := blk_frozen BK815.out 2
    have hfz18_3 := blk_frozen BK815.out 3
    have hfz18_4 := blk_frozen BK815.out 4
    obtain ⟨hcz19_0,hcz19_1,hcz19_2,hcz19_3,hcz19_4⟩ := cO5 BK816.out
    have hfz19_0 := blk_frozen BK816.out 0
    have hfz19_1 := blk_frozen BK816.out 1
    have hfz19_2 := blk_frozen BK816.out 2
    have hfz19_3 := blk_frozen BK816.out 3
    have hfz19_4 := blk_frozen BK816.out 4
    obtain ⟨Ao20,co20,eo20⟩ := Kd.R_slice HO_816002.out
    subst eo20
    go_wp2
    refine bodyPost_ret (results_cell_row rfl _ _ gb816 27 #[.slice A0_0 l0_0.length c0_0,.int .i64 a0_1,.slice Ao20 x816002_1.length co20,.int .i64 a0_3,.int .i64 a0_4] (0,0) _ rfl (blk_put (cs := #[.slice A0_0 l0_0.length c0_0,.int .i64 a0_1,.slice Ao20 x816002_1.length co20,.int .i64 a0_3,.int .i64 0]) (blk_put (cs := #[.slice A0_0 l0_0.length c0_0,.int .i64 a0_1,.slice Ao20 x816002_1.length co20,.int .i64 0,.int .i64 0]) (blk_put (cs := #[.slice A0_0 l0_0.length c0_0,.int .i64 a0_1,.slice none 0 0,.int .i64 0,.int .i64 0]) (blk_put (cs := #[.slice A0_0 l0_0.length c0_0,.int .i64 0,.slice none 0 0,.int .i64 0,.int .i64 0]) (blk_put (cs := #[.slice none 0 0,.int .i64 0,.slice none 0 0,.int .i64 0,.int .i64 0]) BK816.out 0 _ rfl) 1 _ rfl) 2 _ rfl) 3 _ rfl) 4 _ rfl) Tryz.underlying27 rfl (by kernel_rfl)) rfl ?_
    exact ⟨_,by first | rfl | (simp [*] <;> rfl),by (with_reducible repeat (first | apply Kd.R_alloc | apply Kd.R_drewN | apply Kd.R_drew));exact Kd.R_mono (Kd.R_far (p := ⟨gb816,4,none⟩) (Kd.R_far (p := ⟨gb816,3,none⟩) (Kd.R_far (p := ⟨gb816,2,none⟩) (Kd.R_far (p := ⟨gb816,1,none⟩) (Kd.R_far (p := ⟨gb816,0,none⟩) (Kd.R_types HO_816002.out BK816.out (by decide)) (fun _ hk => hk.2) (.slice A0_0 l0_0.length c0_0)) (fun _ hk => hk.2) (.int .i64 a0_1)) (fun _ hk => hk.2) (.slice Ao20 x816002_1.length co20)) (fun _ hk => hk.2) (.int .i64 a0_3)) (fun _ hk => hk.2) (.int .i64 a0_4)) (fun _ hk => trivial),by repeat (first | (with_reducible first | exact HB.out | refine below_set ?_ (Aside0.out (by assumption)) | apply below_alloc | apply pw_below_drewN) | exact HB.out)⟩
   rw [if_pos c11] at H
   have c11b0 : decide (x5_1 < (l1.length : Int)) = true := decide_eq_true c11
   clear c11
   by_cases c12 : 0 ≤ x5_1
   case neg =>
    rw [if_neg c12] at H
    exact absurd H (by simp)
   rw [if_pos c12] at H
   have c12b0 : decide (0 ≤ x5_1) = true := decide_eq_true c12
   clear c12
   by_cases c13 : x5_1 < (x816002_1.length : Int)
   case neg =>
    rw [if_neg c13] at H
    exact absurd H (by simp)
   rw [if_pos c13] at H
   have c13b0 : decide (x5_1 < (x816002_1.length : Int)) = true := decide_eq_true c13
   clear c13
   obtain ⟨y821,hy821⟩ : ∃ y_ : List (S64),y_ = (x816002_1.set (x5_1 : Int).toNat (⟨(rd_T64 x816002_1 x5_1).f0,rd l1 x5_1⟩ : S64)) := ⟨_,rfl⟩
   replace H : (q4_At.l0 k1 l1 (wrap64 (x5_1 + 1)) l0_0 a0_1 y821 a0_3 a0_4) = some (r1,r2,r3,r4) := by first | (rw [hy821];with_reducible exact H) | (have H2_ := (Option.bind_some _ _).symm.trans H;rw [hy821];with_reducible exact H2_) | (have H2_ := (Option.bind_some _ _).symm.trans H;with_reducible exact H2_) | with_reducible exact H | (rw [hy821];exact H) | exact H
   have Ny821 := am hy821
   clear hy821
   replace H' := am H
   try go_wp2
   replace HO_816002 := am (Kd.R_drew HO_816002.out)
   replace BK815 := am (blk_drew BK815.out)
   replace BK816 := am (blk_drew BK816.out)
   replace HB := am (below_drew1 HB.out)
   have p820 : 0 ≤ (x5_1 : Int) := of_decide_eq_true (by assumption)
   have q820 : x5_1 < (l1.length : Int) := of_decide_eq_true (by assumption)
   obtain ⟨ad820,e820,hx820_0⟩ := Kd.at_int HR1.out x5_1 p820 q820
   have hw820_0 := hx820_0
   cases e820
   replace hx820_0 := (HB.out.cell (wbl hx820_0)).trans hx820_0
   replace p820 := eq_true p820
   replace q820 := eq_true q820
   have p14 : 0 ≤ (x5_1 : Int) := of_decide_eq_true (by assumption)
   have q14 : (x5_1 : Int) < ((x816002_1.length : Int) : Int) := of_decide_eq_true (by assumption)
   obtain ⟨go14,co14,eo14,gb14,gl14,cl14,HG14⟩ := Kd.R_form HO_816002.out (by omega)
   (first | cases eo14 | (injection eo14 with ea_ en_ ec_;(first | subst ea_ | (injection ea_ with ea_;subst ea_));subst ec_;clear en_))
   have GB14 := am gb14
   have GG14 := am HG14
   clear gb14 gl14 HG14
   obtain ⟨ce14,hcl14,hM14,hcc14,hfr14⟩ := Kd.R_elem HO_816002.out z64 (x5_1 : Int) p14 q14
   obtain rfl := k64_openM hM14
   have hx14_0 : World.cell? _ ⟨go14,(x5_1 : Int).toNat * 2,none⟩ = some (.int .i64 ((rd_T64 x816002_1 x5_1).f0)) := hcc14 0 _ rfl
   have hx14_1 : World.cell? _ ⟨go14,(x5_1 : Int).toNat * 2 + 1,none⟩ = some (.int .i64 ((rd_T64 x816002_1 x5_1).f1)) := hcc14 1 _ rfl
   have hf14_0 : World.frozen? _ ⟨go14,(x5_1 : Int).toNat * 2,none⟩ = false := hfr14 0
   have hf14_1 : World.frozen? _ ⟨go14,(x5_1 : Int).toNat * 2 + 1,none⟩ = false := hfr14 1
   clear hcl14 hcc14 hfr14 hM14
   replace p14 := eq_true p14
   replace q14 := eq_true q14
   obtain ⟨ce16,hcl16,hM16,hcc16,hfr16⟩ := Kd.R_elem HO_816002.out z64 (x5_1 : Int) (of_decide_eq_true (by assumption)) (by have h_ : (x5_1 : Int) < ((x816002_1.length : Int) : Int) := of_decide_eq_true (by assumption);first | exact h_ | (have e_ := (Kd.R_reads' HO_816002.out).1;omega) | simpa using h_)
   obtain rfl := k64_openM hM16
   have HP16 := (Kd.R_seg HO_816002.out (x5_1 : Int) (of_decide_eq_true (by assumption)) (by have h_ : (x5_1 : Int) < ((x816002_1.length : Int) : Int) := of_decide_eq_true (by assumption);first | exact h_ | (have e_ := (Kd.R_reads' HO_816002.out).1;omega) | simpa using h_) (seg := [.int .i64 (rd l1 x5_1)]) (j := 1) hcl16 hcc16 (show 2 ≤ 2 from by decide) (x' := (⟨(rd_T64 x816002_1 x5_1).f0,rd l1 x5_1⟩ : S64)) (k64_mkM _ _ _ (⟨(rd_T64 x816002_1 x5_1).f0,rd l1 x5_1⟩ : S64) ) (fun _ hk => hk)).1
   rw [← Ny821.out] at HP16
   have HQ16 := am HP16
   clear hcl16 hcc16 hfr16 hM16 HP16
   refine start_ (n := 10) (S := fun w' => w'.cell? ⟨gb815,0,none⟩ = some (.slice A0_0 l0_0.length c0_0) ∧ w'.cell? ⟨gb815,1,none⟩ = some (.int .i64 a0_1) ∧ w'.cell? ⟨gb815,2,none⟩ = some (.slice (some ⟨go14,0,none⟩) x816002_1.length co14) ∧ w'.cell? ⟨gb815,3,none⟩ = some (.int .i64 a0_3) ∧ w'.cell? ⟨gb815,4,none⟩ = some (.int .i64 a0_4) ∧ w'.cell? (ad820.add (x5_1).toNat) = some (.int .i64 (rd l1 x5_1))) (ds := [9]) (ba 10 0) (by kernel_rfl) rfl rfl ⟨(blk_cell BK815.out 0).trans rfl,(blk_cell BK815.out 1).trans rfl,(blk_cell BK815.out 2).trans rfl,(blk_cell BK815.out 3).trans rfl,(blk_cell BK815.out 4).trans rfl,((HB.out.cell (wbl hw820_0)).trans hw820_0)⟩ (fun hHeld => ?_);refine with_tabW q4_At.tab5 q4_At.bits5 (fun HT_ HW_ => ?_)
   generalize wr.drew = w15 at HO_816002 BK815 BK816 HB GG14 HQ16 hf14_0 hf14_1 hx14_0 hx14_1 hx820_0 hHeld ⊢
   refine pure_ (i := 0) (N := some 16) (v := ?_) (a' := ?_) (ba 10 1) rfl rfl (any_of HT_.out (by kernel_rfl)) (fun _ _ _ h => h) (Or.inl ⟨by rfl,?_⟩) ?_ ?_
   rotate_left
   · intro w'
     go_simp
     with_reducible rfl
   rotate_left
   · simp only [Act.put,NRM]
     rfl
   refine pure_ (i := 2) (N := some 18) (v := ?_) (a' := ?_) (ba 10 5) rfl rfl (any_of HT_.out (by kernel_rfl)) (fun _ _ _ h => h) (Or.inl ⟨by rfl,?_⟩) ?_ ?_
   rotate_left
   · intro w'
     go_simp
     with_reducible rfl
   rotate_left
   · simp only [Act.put,NRM]
     rfl
   refine pure_ (i := 3) (N := some 19) (v := ?_) (a' := ?_) (ba 10 13) rfl rfl (any_of HT_.out (by kernel_rfl)) (fun _ _ _ h => h) (Or.inl ⟨by rfl,?_⟩) ?_ ?_
   rotate_left
   · intro w'
     go_simp
     with_reducible rfl
   rotate_left
   · simp only [Act.put,NRM]
     rfl
   refine pure_ (i := 4) (N := some 20) (v := ?_) (a' := ?_) (ba 10 29) rfl rfl (any_of HT_.out (by kernel_rfl)) (fun _ _ _ h => h) (Or.inl ⟨by rfl,?_⟩) ?_ ?_
   rotate_left
   · intro w'
     go_simp
     with_reducible rfl
   rotate_left
   · simp only [Act.put,NRM]
     rfl
   refine pure_ (i := 5) (N := some 21) (v := ?_) (a' := ?_) (ba 10 61) rfl rfl (any_of HT_.out (by kernel_rfl)) (fun _ _ _ h => h) (Or.inl ⟨by rfl,?_⟩) ?_ ?_
   rotate_left
   · intro w'
     go_simp
     with_reducible rfl
   rotate_left
   · simp only [Act.put,NRM]
     rfl
   refine take_ (i := 1) (N := some 17) (v := ?_) (a' := ?_) (ba 10 63) rfl rfl (take_ofW HT_.out HW_.out (by kernel_rfl)) (fun _ _ _ h => h) (Or.inl ⟨by rfl,?_⟩) hHeld ?_ ?_
   rotate_left
   · rintro w' ⟨s0,s1,s2,s3,s4,s5⟩
     go_simp
     with_reducible rfl
   rotate_left
   · simp only [Act.put,NRM]
     rfl
   refine take_ (i := 6) (N := some 22) (v := ?_) (a' := ?_) (ba 10 127) rfl rfl (take_ofW HT_.out HW_.out (by kernel_rfl)) (fun _ _ _ h => h) (Or.inl ⟨by rfl,?_⟩) hHeld ?_ ?_
   rotate_left
   · rintro w' ⟨s0,s1,s2,s3,s4,s5⟩
     go_simp
     with_reducible rfl
   rotate_left
   · simp only [Act.put,NRM]
     rfl
   refine pure_ (i := 7) (N := some 23) (v := ?_) (a' := ?_) (ba 10 255) rfl rfl (any_of HT_.out (by kernel_rfl)) (fun _ _ _ h => h) (Or.inl ⟨by rfl,?_⟩) ?_ ?_
   rotate_left
   · intro w'
     go_simp
     with_reducible rfl
   rotate_left
   · simp only [Act.put,NRM]
     rfl
   refine pure_ (i := 8) (N := some 24) (v := ?_) (a' := ?_) (ba 10 511) rfl rfl (any_of HT_.out (by kernel_rfl)) (fun _ _ _ h => h) (Or.inl ⟨by rfl,?_⟩) ?_ ?_
   rotate_left
   · intro w'
     go_simp
     with_reducible rfl
   rotate_left
   · simp only [Act.put,NRM]
     rfl
   refine last_ (i := 9) (N := none) (ba 10 1023) rfl rfl (one_of HT_.out (by kernel_rfl)) (by decide) (fun K hK => ?_)
   refine skip_ (w1 := ?_) (by rfl) rfl ?_ ?_
   rotate_left
   · go_simp
     rfl
   refine hK.out _ _ ?_
   clear hK K
   refine done_ (done_of HT_.out (by kernel_rfl)) ?_
   try go_wp2
   go_roundg k1
   case measure => have := HK1.out;omega
   case rel => exact ⟨(wrap64 (x5_1 + 1)),(y821),(.slice (some ⟨go14,0,none⟩) x816002_1.length co14),(by first | rfl | (simp;done) | (simp [*];done)),H',⟨by have := HK1.out;omega⟩,⟨by (with_reducible repeat (first | apply Kd.R_alloc | apply Kd.R_drewN | apply Kd.R_drew));exact HQ16.out⟩,⟨(blk_far BK815.out (by have h_ := Kd.R_ne HO_816002.out BK815.out (by decide);intro e_;exact h_ (by rw [e_];rfl)) _)⟩,⟨(blk_far BK816.out (by have h_ := Kd.R_ne HO_816002.out BK816.out (by decide);intro e_;exact h_ (by rw [e_];rfl)) _)⟩,⟨by repeat (first | (with_reducible first | exact HB.out | refine below_set ?_ (Aside0.out (by assumption)) | apply below_alloc | apply pw_below_drewN) | exact HB.out)⟩⟩
def q4_Suffices.l0 : Nat → List Int → List Int → Int → Option (Bool)
 | 0,_,_,_ => none
 | k + 1,x2,x9,x11 => if x11 < (x9.length : Int) then (if 0 ≤ x11 then (if x11 < (x2.length : Int) then (if (rd x9 x11) < (rd x2 x11) then (some false) else (q4_Suffices.l0 k x2 x9 (wrap64 (x11 + 1)))) else (none)) else (none)) else (some true)
def q4_Suffices.f (k : Nat) (l0_0 : List (S126)) (a0_1 : Int) (l0_2 : List (S64)) (a0_3 : Int) (a0_4 : Int) (l1 : List Int) (l2 : List Int) (a3 : Int) : Option (Bool) := (q4_At.f k l0_0 a0_1 l0_2 a0_3 a0_4 l1).bind fun bt832 => ((q4_Shares.f k l0_0 bt832.1 bt832.2.1 bt832.2.2.1 bt832.2.2.2 a3).bind fun bt838 => (q4_Suffices.l0 k l2 bt838.1 0))
theorem q4_Suffices.calls (k : Nat) (A0_0 : Option Addr) (c0_0 : Nat) (l0_0 : List (S126)) (a0_1 : Int) (A0_2 : Option Addr) (c0_2 : Nat) (l0_2 : List (S64)) (a0_3 : Int) (a0_4 : Int) (A1 : Option Addr) (c1 : Nat) (l1 : List Int) (A2 : Option Addr) (c2 : Nat) (l2 : List Int) (a3 : Int) (r : Bool) (w : World) (hr0_0 : Kd.C k126 w A0_0 l0_0.length l0_0) (hc0_0 : l0_0.length ≤ c0_0) (hr0_2 : Kd.C k64 w A0_2 l0_2.length l0_2) (hc0_2 : l0_2.length ≤ c0_2) (hr1 : Kd.C (Kd.int .i64) w A1 l1.length l1) (hc1 : l1.length ≤ c1) (hr2 : Kd.C (Kd.int .i64) w A2 l2.length l2) (hc2 : l2.length ≤ c2) (h : q4_Suffices.f k l0_0 a0_1 l0_2 a0_3 a0_4 l1 l2 a3 = some r) :
 Calls Tryz.prog 42 #[.agg #[.slice A0_0 l0_0.length c0_0,.int .i64 a0_1,.slice A0_2 l0_2.length c0_2,.int .i64 a0_3,.int .i64 a0_4],.slice A1 l1.length c1,.slice A2 l2.length c2,.int .i64 a3] w fun e w' => e = .returned (.bool r) ∧ Below w.heap.size w w' := by
 have hu27 := Tryz.underlying27
 have HR0_0 := am hr0_0
 have HC0_0 := am hc0_0
 clear hr0_0 hc0_0
 have HR0_2 := am hr0_2
 have HC0_2 := am hc0_2
 clear hr0_2 hc0_2
 have HR1 := am hr1
 have HC1 := am hc1
 clear hr1 hc1
 have HR2 := am hr2
 have HC2 := am hc2
 clear hr2 hc2
 have HB := am (Below.refl w.heap.size w)
 have H : ((q4_At.f k l0_0 a0_1 l0_2 a0_3 a0_4 l1).bind fun bt832 => ((q4_Shares.f k l0_0 bt832.1 bt832.2.1 bt832.2.2.1 bt832.2.2.2 a3).bind fun bt838 => (q4_Suffices.l0 k l2 bt838.1 0))) = some r := h
 clear h
 replace H := obm H
 obtain ⟨⟨t832,t833,t836,t837⟩,A50,H⟩ := H
 replace H : ((q4_Shares.f k l0_0 t832 t833 t836 t837 a3).bind fun bt838 => (q4_Suffices.l0 k l2 bt838.1 0)) = some r := H
 have A5 := am A50
 clear A50
 replace H := obm H
 obtain ⟨⟨t838,t841⟩,A60,H⟩ := H
 replace H : (q4_Suffices.l0 k l2 t838 0) = some r := H
 have A6 := am A60
 clear A60
 replace H' := am H
 go_enter Tryz.func42,Tryz.ntmps42
 go_wp2_with (first | ((refine gate_dst (N := 4) rfl ?_);refine box_event rfl (N := 4) rfl (cs := #[.slice A0_0 l0_0.length c0_0,.int .i64 a0_1,.slice A0_2 l0_2.length c0_2,.int .i64 a0_3,.int .i64 a0_4]) (t := 27) ?hr ?_;(case hr => go_simp;try rfl);intro gb822 hg w7 hbox hb;have BK822 := am (hbox);have GW822 := am (ge_new (HB.out) hg);have GE822 := am (ge_new (HB.out) hg);replace HB := am (below_step (HB.out) hb);clear hb hbox hg;obtain ⟨hcz8_0,hcz8_1,hcz8_2,hcz8_3,hcz8_4⟩ := cO5 BK822.out) | (go_at_call 43;(with_reducible refine (q4_At.calls k _ _ l0_0 a0_1 _ _ l0_2 a0_3 a0_4 _ _ l1 t832 t833 t836 t837 _ ?side1 ?side2 ?side3 ?side4 ?side5 ?side6 A5.out).mono ?_);(case side1 => exact kC HR0_0.out HB.out);(case side2 => exact HC0_0.out);(case side3 => exact kC HR0_2.out HB.out);(case side4 => exact HC0_2.out);(case side5 => exact kC HR1.out HB.out);(case side6 => exact HC1.out);rintro e w9 ⟨v834,rfl,ho0,hb⟩;have HO835 := am (Kd.R_lower ho0 (below_size (HB.out)));replace BK822 := (kmv hb BK822);replace HB := am (below_step (HB.out) hb);(try clear hb);(try clear hb2);(try clear hk);(try clear hi);(try clear ho0);obtain ⟨Ao10,co10,eo10⟩ := Kd.R_slice HO835.out;subst eo10) | (go_at_call 19;(with_reducible refine (q4_Shares.calls k _ _ l0_0 t832 _ _ t833 t836 t837 a3 t838 t841 _ ?side1 ?side2 ?side3 ?side4 A6.out).mono ?_);(case side1 => exact kC HR0_0.out HB.out);(case side2 => exact HC0_0.out);(case side3 => repeat (first | exact (Kd.R_reads' HO835.out).2.2 | (with_reducible refine Kd.C_alloc ?_ _) | (with_reducible refine Kd.C_drewN ?_ _) | (with_reducible refine Kd.C_drew ?_)));(case side4 => exact (Kd.R_reads' HO835.out).2.1);rintro e w11 ⟨v839,rfl,ho0,hb⟩;have HO840 := am (Kd.R_lower ho0 (below_size (HB.out)));replace HO835 := am (Kd.R_below HO835.out hb);replace BK822 := (kmv hb BK822);replace HB := am (below_step (HB.out) hb);(try clear hb);(try clear hb2);(try clear hk);(try clear hi);(try clear ho0)))
 repeat (go_quiet (first | ((refine gate_dst (N := 4) rfl ?_);refine box_event rfl (N := 4) rfl (cs := #[.slice A0_0 l0_0.length c0_0,.int .i64 a0_1,.slice A0_2 l0_2.length c0_2,.int .i64 a0_3,.int .i64 a0_4]) (t := 27) ?hr ?_;(case hr => go_simp;try rfl);intro gb822 hg w7 hbox hb;have BK822 := am (hbox);have GW822 := am (ge_new (by repeat (first | (with_reducible first | exact HB.out | apply below_alloc | apply pw_below_drewN) | exact HB.out)) hg);have GE822 := am (ge_new (by repeat (first | (with_reducible first | exact HB.out | apply below_alloc | apply pw_below_drewN) | exact HB.out)) hg);replace HB := am (below_step (by repeat (first | (with_reducible first | exact HB.out | apply below_alloc | apply pw_below_drewN) | exact HB.out)) hb);clear hb hbox hg;obtain ⟨hcz8_0,hcz8_1,hcz8_2,hcz8_3,hcz8_4⟩ := cO5 BK822.out) | (go_at_call 43;(with_reducible refine (q4_At.calls k _ _ l0_0 a0_1 _ _ l0_2 a0_3 a0_4 _ _ l1 t832 t833 t836 t837 _ ?side1 ?side2 ?side3 ?side4 ?side5 ?side6 A5.out).mono ?_);(case side1 => repeat (first | exact (kC HR0_0.out HB.out) | (with_reducible refine Kd.C_alloc ?_ _) | (with_reducible refine Kd.C_drewN ?_ _) | (with_reducible refine Kd.C_drew ?_)));(case side2 => exact HC0_0.out);(case side3 => repeat (first | exact (kC HR0_2.out HB.out) | (with_reducible refine Kd.C_alloc ?_ _) | (with_reducible refine Kd.C_drewN ?_ _) | (with_reducible refine Kd.C_drew ?_)));(case side4 => exact HC0_2.out);(case side5 => repeat (first | exact (kC HR1.out HB.out) | (with_reducible refine Kd.C_alloc ?_ _) | (with_reducible refine Kd.C_drewN ?_ _) | (with_reducible refine Kd.C_drew ?_)));(case side6 => exact HC1.out);rintro e w9 ⟨v834,rfl,ho0,hb⟩;have HO835 := am (Kd.R_lower ho0 (below_size (by repeat (first | (with_reducible first | exact HB.out | refine below_set ?_ GE822.out | apply below_alloc | apply pw_below_drewN) | exact HB.out))));replace BK822 := (kmv hb BK822);replace HB := am (below_step (by repeat (first | (with_reducible first | exact HB.out | refine below_set ?_ GE822.out | apply below_alloc | apply pw_below_drewN) | exact HB.out)) hb);(try clear hb);(try clear hb2);(try clear hk);(try clear hi);(try clear ho0);obtain ⟨Ao10,co10,eo10⟩ := Kd.R_slice HO835.out;subst eo10) | (go_at_call 19;(with_reducible refine (q4_Shares.calls k _ _ l0_0 t832 _ _ t833 t836 t837 a3 t838 t841 _ ?side1 ?side2 ?side3 ?side4 A6.out).mono ?_);(case side1 => repeat (first | exact (kC HR0_0.out HB.out) | (with_reducible refine Kd.C_alloc ?_ _) | (with_reducible refine Kd.C_drewN ?_ _) | (with_reducible refine Kd.C_drew ?_)));(case side2 => exact HC0_0.out);(case side3 => repeat (first | exact (Kd.R_reads' HO835.out).2.2 | (with_reducible refine Kd.C_alloc ?_ _) | (with_reducible refine Kd.C_drewN ?_ _) | (with_reducible refine Kd.C_drew ?_)));(case side4 => exact (Kd.R_reads' HO835.out).2.1);rintro e w11 ⟨v839,rfl,ho0,hb⟩;have HO840 := am (Kd.R_lower ho0 (below_size (by repeat (first | (with_reducible first | exact HB.out | refine below_set ?_ GE822.out | apply below_alloc | apply pw_below_drewN) | exact HB.out))));replace HO835 := am (Kd.R_below HO835.out hb);replace BK822 := (kmv hb BK822);replace HB := am (below_step (by repeat (first | (with_reducible first | exact HB.out | refine below_set ?_ GE822.out | apply below_alloc | apply pw_below_drewN) | exact HB.out)) hb);(try clear hb);(try clear hb2);(try clear hk);(try clear hi);(try clear ho0)));try go_wp2_with (first | ((refine gate_dst (N := 4) rfl ?_);refine box_event rfl (N := 4) rfl (cs := #[.slice A0_0 l0_0.length c0_0,.int .i64 a0_1,.slice A0_2 l0_2.length c0_2,.int .i64 a0_3,.int .i64 a0_4]) (t := 27) ?hr ?_;(case hr => go_simp;try rfl);intro gb822 hg w7 hbox hb;have BK822 := am (hbox);have GW822 := am (ge_new (by repeat (first | (with_reducible first | exact HB.out | apply below_alloc | apply pw_below_drewN) | exact HB.out)) hg);have GE822 := am (ge_new (by repeat (first | (with_reducible first | exact HB.out | apply below_alloc | apply pw_below_drewN) | exact HB.out)) hg);replace HB := am (below_step (by repeat (first | (with_reducible first | exact HB.out | apply below_alloc | apply pw_below_drewN) | exact HB.out)) hb);clear hb hbox hg;obtain ⟨hcz8_0,hcz8_1,hcz8_2,hcz8_3,hcz8_4⟩ := cO5 BK822.out) | (go_at_call 43;(with_reducible refine (q4_At.calls k _ _ l0_0 a0_1 _ _ l0_2 a0_3 a0_4 _ _ l1 t832 t833 t836 t837 _ ?side1 ?side2 ?side3 ?side4 ?side5 ?side6 A5.out).mono ?_);(case side1 => repeat (first | exact (kC HR0_0.out HB.out) | (with_reducible refine Kd.C_alloc ?_ _) | (with_reducible refine Kd.C_drewN ?_ _) | (with_reducible refine Kd.C_drew ?_)));(case side2 => exact HC0_0.out);(case side3 => repeat (first | exact (kC HR0_2.out HB.out) | (with_reducible refine Kd.C_alloc ?_ _) | (with_reducible refine Kd.C_drewN ?_ _) | (with_reducible refine Kd.C_drew ?_)));(case side4 => exact HC0_2.out);(case side5 => repeat (first | exact (kC HR1.out HB.out) | (with_reducible refine Kd.C_alloc ?_ _) | (with_reducible refine Kd.C_drewN ?_ _) | (with_reducible refine Kd.C_drew ?_)));(case side6 => exact HC1.out);rintro e w9 ⟨v834,rfl,ho0,hb⟩;have HO835 := am (Kd.R_lower ho0 (below_size (by repeat (first | (with_reducible first | exact HB.out | refine below_set ?_ GE822.out | apply below_alloc | apply pw_below_drewN) | exact HB.out))));replace BK822 := (kmv hb BK822);replace HB := am (below_step (by repeat (first | (with_reducible first | exact HB.out | refine below_set ?_ GE822.out | apply below_alloc | apply pw_below_drewN) | exact HB.out)) hb);(try clear hb);(try clear hb2);(try clear hk);(try clear hi);(try clear ho0);obtain ⟨Ao10,co10,eo10⟩ := Kd.R_slice HO835.out;subst eo10) | (go_at_call 19;(with_reducible refine (q4_Shares.calls k _ _ l0_0 t832 _ _ t833 t836 t837 a3 t838 t841 _ ?side1 ?side2 ?side3 ?side4 A6.out).mono ?_);(case side1 => repeat (first | exact (kC HR0_0.out HB.out) | (with_reducible refine Kd.C_alloc ?_ _) | (with_reducible refine Kd.C_drewN ?_ _) | (with_reducible refine Kd.C_drew ?_)));(case side2 => exact HC0_0.out);(case side3 => repeat (first | exact (Kd.R_reads' HO835.out).2.2 | (with_reducible refine Kd.C_alloc ?_ _) | (with_reducible refine Kd.C_drewN ?_ _) | (with_reducible refine Kd.C_drew ?_)));(case side4 => exact (Kd.R_reads' HO835.out).2.1);rintro e w11 ⟨v839,rfl,ho0,hb⟩;have HO840 := am (Kd.R_lower ho0 (below_size (by repeat (first | (with_reducible first | exact HB.out | refine below_set ?_ GE822.out | apply below_alloc | apply pw_below_drewN) | exact HB.out))));replace HO835 := am (Kd.R_below HO835.out hb);replace BK822 := (kmv hb BK822);replace HB := am (below_step (by repeat (first | (with_reducible first | exact HB.out | refine below_set ?_ GE822.out | apply below_alloc | apply pw_below_drewN) | exact HB.out)) hb);(try clear hb);(try clear hb2);(try clear hk);(try clear hi);(try clear ho0))))
 go_loopg [11] k (fun kq v11 w' => ∃ (x11_1 : Int),v11 = .int .i64 x11_1 ∧ Aside0 (q4_Suffices.l0 kq l2 t838 x11_1 = some r) ∧ Aside0 (kq ≤ k) ∧ Aside0 (Kd.R (Kd.int .i64) 3 w' w.heap.size (fun _ => True) v839 t838) ∧ Aside0 (w'.heap[gb822]? = some (.cells #[(.slice A0_0 l0_0.length c0_0),.int .i64 a0_1,(.slice A0_2 l0_2.length c0_2),.int .i64 a0_3,.int .i64 a0_4] 27 (0,0))) ∧ Aside0 (Below w.heap.size w w'))
 case atStart => exact ⟨(0),(by first | rfl | (simp;done) | (simp [*];done)),H',⟨Nat.le_refl _⟩,⟨by (with_reducible repeat (first | apply Kd.R_alloc | apply Kd.R_drewN | apply Kd.R_drew));exact HO840.out⟩,⟨BK822.out⟩,⟨HB.out⟩⟩
 case round =>
  clear H'
  obtain ⟨x11_1,rfl,HA,HK1,HO_9,BK822,HB⟩ := hrel
  cases gk with
  | zero => exact absurd HA.out (by simp [q4_Suffices.l0])
  | succ k1 =>
   have H := HA.out
   clear HA
   simp only [q4_Suffices.l0] at H
   by_cases c12 : x11_1 < (t838.length : Int)
   case neg =>
    rw [if_neg c12] at H
    have c12b0 : decide (x11_1 < (t838.length : Int)) = false := decide_eq_false c12
    clear c12
    obtain rfl := Option.some.inj H
    obtain ⟨Ao18,co18,eo18⟩ := Kd.R_slice HO_9.out
    subst eo18
    go_wp2
    repeat (go_quiet (fail);try go_wp2)
    go_ret
    exact ⟨by first | rfl | (simp [*] <;> rfl),HB.out⟩
   rw [if_pos c12] at H
   have c12b0 : decide (x11_1 < (t838.length : Int)) = true := decide_eq_true c12
   clear c12
   by_cases c13 : 0 ≤ x11_1
   case neg =>
    rw [if_neg c13] at H
    exact absurd H (by simp)
   rw [if_pos c13] at H
   have c13b0 : decide (0 ≤ x11_1) = true := decide_eq_true c13
   clear c13
   by_cases c14 : x11_1 < (l2.length : Int)
   case neg =>
    rw [if_neg c14] at H
    exact absurd H (by simp)
   rw [if_pos c14] at H
   have c14b0 : decide (x11_1 < (l2.length : Int)) = true := decide_eq_true c14
   clear c14
   by_cases c15 : (rd t838 x11_1) < (rd l2 x11_1)
   · rw [if_pos c15] at H
     have c15b0 : decide ((rd t838 x11_1) < (rd l2 x11_1)) = true := decide_eq_true c15
     clear c15
     obtain rfl := Option.some.inj H
     obtain ⟨Ao16,co16,eo16⟩ := Kd.R_slice HO_9.out
     subst eo16
     have p842 : 0 ≤ (x11_1 : Int) := of_decide_eq_true (by assumption)
     have q842 : x11_1 < (t838.length : Int) := of_decide_eq_true (by assumption)
     obtain ⟨ad842,e842,hx842_0⟩ := Kd.at_int (Kd.R_reads' HO_9.out).2.2 x11_1 p842 q842
     cases e842
     replace p842 := eq_true p842
     replace q842 := eq_true q842
     have p843 : 0 ≤ (x11_1 : Int) := of_decide_eq_true (by assumption)
     have q843 : x11_1 < (l2.length : Int) := of_decide_eq_true (by assumption)
     obtain ⟨ad843,e843,hx843_0⟩ := Kd.at_int HR2.out x11_1 p843 q843
     cases e843
     replace hx843_0 := (HB.out.cell (wbl hx843_0)).trans hx843_0
     replace p843 := eq_true p843
     replace q843 := eq_true q843
     go_wp2
     repeat (go_quiet (fail);try go_wp2)
     go_ret
     exact ⟨by first | rfl | (simp [*] <;> rfl),pw_below_drewN HB.out _⟩
   · rw [if_neg c15] at H
     have c15b0 : decide ((rd t838 x11_1) < (rd l2 x11_1)) = false := decide_eq_false c15
     clear c15
     replace H' := am H
     obtain ⟨Ao17,co17,eo17⟩ := Kd.R_slice HO_9.out
     subst eo17
     have p842 : 0 ≤ (x11_1 : Int) := of_decide_eq_true (by assumption)
     have q842 : x11_1 < (t838.length : Int) := of_decide_eq_true (by assumption)
     obtain ⟨ad842,e842,hx842_0⟩ := Kd.at_int (Kd.R_reads' HO_9.out).2.2 x11_1 p842 q842
     cases e842
     replace p842 := eq_true p842
     replace q842 := eq_true q842
     have p843 : 0 ≤ (x11_1 : Int) := of_decide_eq_true (by assumption)
     have q843 : x11_1 < (l2.length : Int) := of_decide_eq_true (by assumption)
     obtain ⟨ad843,e843,hx843_0⟩ := Kd.at_int HR2.out x11_1 p843 q843
     cases e843
     replace hx843_0 := (HB.out.cell (wbl hx843_0)).trans hx843_0
     replace p843 := eq_true p843
     replace q843 := eq_true q843
     go_wp2
     repeat (go_quiet (fail);try go_wp2)
     go_roundg k1
     case measure => have := HK1.out;omega
     case rel => exact ⟨(wrap64 (x11_1 + 1)),(by first | rfl | (simp;done) | (simp [*];done)),H',⟨by have := HK1.out;omega⟩,⟨by (with_reducible repeat (first | apply Kd.R_alloc | apply Kd.R_drewN | apply Kd.R_drew));exact HO_9.out⟩,⟨BK822.out⟩,⟨pw_below_drewN HB.out _⟩⟩
def q4_far.f (a0 : Int) (a1 : Int) : Option (Int) := some (mx (wrap64 (a0 - a1)) (wrap64 (a1 - a0)))
theorem q4_far.calls (a0 : Int) (a1 : Int) (r : Int) (w : World) (h : q4_far.f a0 a1 = some r) :
 Calls Tryz.prog 82 #[.int .i64 a0,.int .i64 a1] w fun e w' => e = .returned (.int .i64 r) ∧ Below w.heap.size w w' := by
 have HB := am (Below.refl w.heap.size w)
 have H : (some (mx (wrap64 (a0 - a1)) (wrap64 (a1 - a0)))) = some r := h
 clear h
 obtain ⟨ji3,hji3⟩ : ∃ j_ : Int,(mx (wrap64 (a0 - a1)) (wrap64 (a1 - a0))) = j_ := ⟨_,rfl⟩
 replace H : (some ji3) = some r := by first | (rw [hji3] at H;exact H) | (simp only [hji3] at H ⊢;exact H)
 have hji3_ : (if (wrap64 (a0 - a1)) < (wrap64 (a1 - a0)) then (wrap64 (a1 - a0)) else (wrap64 (a0 - a1))) = ji3 := hji3
 obtain rfl := Option.some.inj H
 go_enter Tryz.func82,Tryz.ntmps82
 go_wp2
 go_ret
 exact ⟨by first | rfl | (simp [errW_none,errW_some] <;> rfl) | (simp only [← hji3];first | rfl | (simp [errW_none,errW_some] <;> rfl)) | (simp [*,errW_none,errW_some] <;> rfl),HB.out⟩
end
end Go.Proofs.YticlelgmmonloaaGreatDoor.C

/- A part of the proof: the walks of the functions that it reaches. TIGHT. -/
import Derived.Test.YticlelgmmonloaaGreatDoorM15
set_option linter.unusedVariables false
set_option linter.unusedSimpArgs false
namespace Go.Proofs.YticlelgmmonloaaGreatDoor.C
open Go.RowKit Go.Proofs.YticlelgmmonloaaGreatDoorW.PrintWords Go.Proofs.YticlelgmmonloaaGreatDoorW.PrintLast Go.Proofs.YticlelgmmonloaaGreatDoorW.PrintMore
set_option linter.unusedVariables false
set_option linter.unusedSimpArgs false
set_option maxHeartbeats 16000000
set_option maxRecDepth 100000
section
attribute [local go_sem] max2_int min2_int max_two min_two
def ca_Out.j0 : Nat → Int → Bool → List (S126) → Int → List (S64) → Int → Int → Option (List Int × Int × Int)
 | 0,_,_,_,_,_,_,_ => none
 | k + 1,x1,x15,x220000,x220001,x220002,x220003,x220004 => if x15 = true then (some (([] : List Int),0,2)) else ((ca_fill.f k x220000 x220001 x220002 x220003 x220004).bind fun bt234 => (if 0 ≤ x1 then (if x1 < (bt234.2.2.2.length : Int) then ((gf_weir.f x220000 bt234.1 x220002 bt234.2.1 bt234.2.2.1 bt234.2.2.2 x1).bind fun t242 => (some (rd_L3 bt234.2.2.2 x1,t242,0))) else (none)) else (none)))
def ca_Out.f (k : Nat) (l0_0 : List (S126)) (a0_1 : Int) (l0_2 : List (S64)) (a0_3 : Int) (a0_4 : Int) (a1 : Int) : Option (List Int × Int × Int) := (ca_isBasin.f l0_0 a0_1 l0_2 a0_3 a0_4).bind fun t220 => (if t220 = true then ((ca_isHeight.f a1).bind fun t221 => (ca_Out.j0 k a1 (!t221) l0_0 a0_1 l0_2 a0_3 a0_4)) else (ca_Out.j0 k a1 true l0_0 a0_1 l0_2 a0_3 a0_4))
def ca_Out.T4 : Bool × List (List Nat × List Nat) := (true,[([],[]),([0],[0]),([],[]),([1,2],[1,2]),([3],[3]),([],[]),([],[]),([5,6],[5,6]),([4,7,0,1,2,3,4],[4]),([7,8,0,1,2,3,4,5,6,7,8],[7]),([9,0,1,2,3,4,5,6,7,8,9],[])])
def ca_Out.B4 : List Nat := [0,1,0,7,15,0,0,96,255,511,1023]
theorem ca_Out.tab4 : rtab .any (opsOf Tryz.f24 4) = ca_Out.T4 := by kernel_rfl
theorem ca_Out.bits4 : waitsOk ca_Out.T4.2 ca_Out.B4 = true := by kernel_rfl
theorem ca_Out.calls (k : Nat) (A0_0 : Option Addr) (c0_0 : Nat) (l0_0 : List (S126)) (a0_1 : Int) (A0_2 : Option Addr) (c0_2 : Nat) (l0_2 : List (S64)) (a0_3 : Int) (a0_4 : Int) (a1 : Int) (r1 : List Int) (r2 : Int) (r3 : Int) (w : World) (hr0_0 : Kd.C k126 w A0_0 l0_0.length l0_0) (hc0_0 : l0_0.length ≤ c0_0) (hr0_2 : Kd.C k64 w A0_2 l0_2.length l0_2) (hc0_2 : l0_2.length ≤ c0_2) (h : ca_Out.f k l0_0 a0_1 l0_2 a0_3 a0_4 a1 = some (r1,r2,r3)) :
 Calls Tryz.prog 24 #[.agg #[.slice A0_0 l0_0.length c0_0,.int .i64 a0_1,.slice A0_2 l0_2.length c0_2,.int .i64 a0_3,.int .i64 a0_4],.int .i64 a1] w fun e w' => ∃ v0_ : Value,e = .returned (.tuple #[v0_,.int .i64 r2,.int .i64 r3]) ∧ Kd.R (Kd.int .i64) 3 w' w.heap.size (fun _ => True) v0_ r1 ∧ Below w.heap.size w w' := by
 have hu27 := Tryz.underlying27
 have hu99 := Tryz.underlying99
 have HR0_0 := am hr0_0
 have HC0_0 := am hc0_0
 clear hr0_0 hc0_0
 have HR0_2 := am hr0_2
 have HC0_2 := am hc0_2
 clear hr0_2 hc0_2
 have HB := am (Below.refl w.heap.size w)
 have H : ((ca_isBasin.f l0_0 a0_1 l0_2 a0_3 a0_4).bind fun t220 => (if t220 = true then ((ca_isHeight.f a1).bind fun t221 => (ca_Out.j0 k a1 (!t221) l0_0 a0_1 l0_2 a0_3 a0_4)) else (ca_Out.j0 k a1 true l0_0 a0_1 l0_2 a0_3 a0_4))) = some (r1,r2,r3) := h
 clear h
 have HC3 := am H
 clear H
 go_enter Tryz.func24,Tryz.ntmps24
 go_upto_region 1 with (first | ((refine gate_dst (N := 2) rfl ?_);refine box_event rfl (N := 2) rfl (cs := #[.slice A0_0 l0_0.length c0_0,.int .i64 a0_1,.slice A0_2 l0_2.length c0_2,.int .i64 a0_3,.int .i64 a0_4]) (t := 27) ?hr ?_;(case hr => go_simp;try rfl);intro gb219 hg w4 hbox hb;have BK219 := am (hbox);have GW219 := am (ge_new (HB.out) hg);have GE219 := am (ge_new (HB.out) hg);replace HB := am (below_step (HB.out) hb);clear hb hbox hg))
 (try simp only [Act.put,List.setIfInBounds_toArray,List.set_cons_zero,List.set_cons_succ])
 go_cut [15] (fun v15 wc => ∃ (kq : Nat) (x15_2 : Bool),v15 = .bool x15_2 ∧ Aside0 (ca_Out.j0 kq a1 x15_2 l0_0 a0_1 l0_2 a0_3 a0_4 = some (r1,r2,r3)) ∧ Aside0 (kq ≤ k) ∧ Aside0 (wc.heap[gb219]? = some (.cells #[(.slice A0_0 l0_0.length c0_0),.int .i64 a0_1,(.slice A0_2 l0_2.length c0_2),.int .i64 a0_3,.int .i64 a0_4] 27 (0,0))) ∧ Aside0 (Below w.heap.size w wc))
 case first =>
  have H := HC3.out
  clear HC3
  replace H := obm H
  obtain ⟨t220,A50,H⟩ := H
  replace H : (if t220 = true then ((ca_isHeight.f a1).bind fun t221 => (ca_Out.j0 k a1 (!t221) l0_0 a0_1 l0_2 a0_3 a0_4)) else (ca_Out.j0 k a1 true l0_0 a0_1 l0_2 a0_3 a0_4)) = some (r1,r2,r3) := H
  have A5 := am A50
  clear A50
  by_cases c6 : t220 = true
  case neg =>
   replace c6 := Bool.eq_false_iff.mpr c6
   subst c6
   replace H : (ca_Out.j0 k a1 true l0_0 a0_1 l0_2 a0_3 a0_4) = some (r1,r2,r3) := by rw [if_neg (show ¬ (false = true) by decide)] at H;exact H
   replace H' := am H
   obtain ⟨hcz10_0,hcz10_1,hcz10_2,hcz10_3,hcz10_4⟩ := cO5 BK219.out
   go_wp2_with (first | ((with_reducible refine gate_callee (f := 57) rfl ?_);refine goesL_ (some 9) rfl rfl Tryz.func57 (by kernel_rfl) rfl #[.agg #[.slice A0_0 l0_0.length c0_0,.int .i64 a0_1,.slice A0_2 l0_2.length c0_2,.int .i64 a0_3,.int .i64 a0_4]] rfl (by (try simp only [List.map_toArray,List.map_cons,List.map_nil]);first | done | rfl | (simp only [List.length_drop,List.length_take];rfl)) ?_;(refine (ca_isBasin.calls _ _ l0_0 a0_1 _ _ l0_2 a0_3 a0_4 false _ ?side1 ?side2 ?side3 ?side4 A5.out).mono ?_);(case side1 => exact kC HR0_0.out HB.out);(case side2 => exact HC0_0.out);(case side3 => exact kC HR0_2.out HB.out);(case side4 => exact HC0_2.out);rintro e w11 ⟨rfl,hb⟩;refine ⟨_,rfl,?_⟩;replace BK219 := (kmv hb BK219);replace HB := am (below_step (HB.out) hb);(try clear hb);(try clear hb2);(try clear hk);(try clear hi)))
   go_meet
   case rel => exact ⟨_,(true),(by first | rfl | (simp;done) | (simp [*];done)),H',⟨by first | omega | exact Nat.le_refl _⟩,⟨BK219.out⟩,⟨HB.out⟩⟩
  subst c6
  replace H : ((ca_isHeight.f a1).bind fun t221 => (ca_Out.j0 k a1 (!t221) l0_0 a0_1 l0_2 a0_3 a0_4)) = some (r1,r2,r3) := by rw [if_pos rfl] at H;exact H
  replace H := obm H
  obtain ⟨t221,A70,H⟩ := H
  replace H : (ca_Out.j0 k a1 (!t221) l0_0 a0_1 l0_2 a0_3 a0_4) = some (r1,r2,r3) := H
  have A7 := am A70
  clear A70
  replace H' := am H
  obtain ⟨hcz8_0,hcz8_1,hcz8_2,hcz8_3,hcz8_4⟩ := cO5 BK219.out
  go_wp2_with (first | ((with_reducible refine gate_callee (f := 57) rfl ?_);refine goesL_ (some 9) rfl rfl Tryz.func57 (by kernel_rfl) rfl #[.agg #[.slice A0_0 l0_0.length c0_0,.int .i64 a0_1,.slice A0_2 l0_2.length c0_2,.int .i64 a0_3,.int .i64 a0_4]] rfl (by (try simp only [List.map_toArray,List.map_cons,List.map_nil]);first | done | rfl | (simp only [List.length_drop,List.length_take];rfl)) ?_;(refine (ca_isBasin.calls _ _ l0_0 a0_1 _ _ l0_2 a0_3 a0_4 true _ ?side1 ?side2 ?side3 ?side4 A5.out).mono ?_);(case side1 => exact kC HR0_0.out HB.out);(case side2 => exact HC0_0.out);(case side3 => exact kC HR0_2.out HB.out);(case side4 => exact HC0_2.out);rintro e w9 ⟨rfl,hb⟩;refine ⟨_,rfl,?_⟩;replace BK219 := (kmv hb BK219);replace HB := am (below_step (HB.out) hb);(try clear hb);(try clear hb2);(try clear hk);(try clear hi)) | (go_at_call 68;(refine (ca_isHeight.calls a1 t221 _ A7.out).mono ?_);rintro e w' ⟨rfl,⟨nd,rfl⟩⟩))
  go_meet
  case rel => exact ⟨_,(!t221),(by first | rfl | (simp;done) | (simp [*];done)),H',⟨by first | omega | exact Nat.le_refl _⟩,⟨BK219.out⟩,⟨pw_below_drewN HB.out _⟩⟩
 case rest =>
  clear HC3
  obtain ⟨kq,x15_2,rfl,HA,HJ2,BK219,HB⟩ := hcut
  cases kq with
  | zero => exact absurd HA.out (by simp [ca_Out.j0])
  | succ kj2 =>
   have H := HA.out
   clear HA
   simp only [ca_Out.j0] at H
   by_cases c12 : x15_2 = true
   · subst c12
     replace H : (some (([] : List Int),0,2)) = some (r1,r2,r3) := by rw [if_pos rfl] at H;exact H
     simp only [Option.some.injEq,Prod.mk.injEq] at H
     obtain ⟨rfl,rfl,rfl⟩ := H
     go_wp2
     go_ret3
     exact ⟨_,by first | rfl | (simp [*] <;> rfl),by first | exact Kd.R_nil _ _ _ _ _ | exact Kd.N_nil _ _ _ _ _ | exact Kd.V_nil _ _ _ _ _ | exact Kd.Q_nil _ _ _ _ _ | exact Kd.S_nil _ _ _ _ _,HB.out⟩
   · replace c12 := Bool.eq_false_iff.mpr c12
     subst c12
     replace H : ((ca_fill.f kj2 l0_0 a0_1 l0_2 a0_3 a0_4).bind fun bt234 => (if 0 ≤ a1 then (if a1 < (bt234.2.2.2.length : Int) then ((gf_weir.f l0_0 bt234.1 l0_2 bt234.2.1 bt234.2.2.1 bt234.2.2.2 a1).bind fun t242 => (some (rd_L3 bt234.2.2.2 a1,t242,0))) else (none)) else (none))) = some (r1,r2,r3) := by rw [if_neg (show ¬ (false = true) by decide)] at H;exact H
     replace H := obm H
     obtain ⟨⟨t234,t235,t236,t237⟩,A130,H⟩ := H
     replace H : (if 0 ≤ a1 then (if a1 < (t237.length : Int) then ((gf_weir.f l0_0 t234 l0_2 t235 t236 t237 a1).bind fun t242 => (some (rd_L3 t237 a1,t242,0))) else (none)) else (none)) = some (r1,r2,r3) := H
     have A13 := am A130
     clear A130
     by_cases c14 : 0 ≤ a1
     case neg =>
      rw [if_neg c14] at H
      exact absurd H (by simp)
     rw [if_pos c14] at H
     have c14b0 : decide (0 ≤ a1) = true := decide_eq_true c14
     clear c14
     by_cases c15 : a1 < (t237.length : Int)
     case neg =>
      rw [if_neg c15] at H
      exact absurd H (by simp)
     rw [if_pos c15] at H
     have c15b0 : decide (a1 < (t237.length : Int)) = true := decide_eq_true c15
     clear c15
     replace H := obm H
     obtain ⟨t242,A160,H⟩ := H
     replace H : (some (rd_L3 t237 a1,t242,0)) = some (r1,r2,r3) := H
     have A16 := am A160
     clear A160
     simp only [Option.some.injEq,Prod.mk.injEq] at H
     obtain ⟨rfl,rfl,rfl⟩ := H
     obtain ⟨hcz17_0,hcz17_1,hcz17_2,hcz17_3,hcz17_4⟩ := cO5 BK219.out
     try go_wp2_with (first | ((with_reducible refine gate_callee (f := 59) rfl ?_);refine goesL_ (some 17) rfl rfl Tryz.func59 (by kernel_rfl) rfl #[.agg #[.slice A0_0 l0_0.length c0_0,.int .i64 a0_1,.slice A0_2 l0_2.length c0_2,.int .i64 a0_3,.int .i64 a0_4]] rfl (by (try simp only [List.map_toArray,List.map_cons,List.map_nil]);first | done | rfl | (simp only [List.length_drop,List.length_take];rfl)) ?_;(refine (ca_fill.calls kj2 _ _ l0_0 a0_1 _ _ l0_2 a0_3 a0_4 t234 t235 t236 t237 _ ?side1 ?side2 ?side3 ?side4 A13.out).mono ?_);(case side1 => exact kC HR0_0.out HB.out);(case side2 => exact HC0_0.out);(case side3 => exact kC HR0_2.out HB.out);(case side4 => exact HC0_2.out);rintro e w18 ⟨v238,rfl,ho0,hb⟩;refine ⟨_,rfl,?_⟩;have HO239 := am (Kd.S_lower ho0 (below_size (HB.out)));replace BK219 := (kmv hb BK219);replace HB := am (below_step (HB.out) hb);(try clear hb);(try clear hb2);(try clear hk);(try clear hi);(try clear ho0)) | ((refine gate_dst (N := 7) rfl ?_);refine box_event rfl (N := 7) rfl (cs := #[.slice none 0 0,.int .i64 0,.slice none 0 0,.int .i64 0,.int .i64 0,.slice none 0 0]) (t := 99) ?hr ?_;(case hr => go_simp;try rfl);intro gb240 hg w19 hbox hb;have BK240 := am (hbox);have GW240 := am (ge_new (HB.out) hg);have GE240 := am (ge_new (HB.out) hg);have NB219_240 := am (ne_new BK219.out hg);have NB240_219 := am (ne_new2 BK219.out hg);replace HO239 := am (Kd.S_below HO239.out hb);replace BK219 := (kmv hb BK219);replace HB := am (below_step (HB.out) hb);clear hb hbox hg;have hnb20 := NB240_219.out;have hnc20 := NB219_240.out;obtain ⟨hcz21_0,hcz21_1,hcz21_2,hcz21_3,hcz21_4,hcz21_5⟩ := cO6 BK240.out;have hfz21_0 := blk_frozen BK240.out 0;have hfz21_1 := blk_frozen BK240.out 1;have hfz21_2 := blk_frozen BK240.out 2;have hfz21_3 := blk_frozen BK240.out 3;have hfz21_4 := blk_frozen BK240.out 4;have hfz21_5 := blk_frozen BK240.out 5;obtain ⟨Ao22,co22,eo22⟩ := Kd.S_slice HO239.out;subst eo22))
     have n0_ : Aside0 (Kd.S (Kd.slice 3 (Kd.int .i64)) 30 ((((((w19.setCell ⟨gb240,0,none⟩ (.slice A0_0 l0_0.length c0_0)).setCell ⟨gb240,1,none⟩ (.int .i64 t234)).setCell ⟨gb240,2,none⟩ (.slice A0_2 l0_2.length c0_2)).setCell ⟨gb240,3,none⟩ (.int .i64 t235)).setCell ⟨gb240,4,none⟩ (.int .i64 t236)).setCell ⟨gb240,5,none⟩ (.slice Ao22 t237.length co22)) w.heap.size (fun _ => True) (.slice Ao22 t237.length co22) t237) := ⟨by (with_reducible repeat (first | apply Kd.S_alloc | apply Kd.S_drewN | apply Kd.S_drew));exact Kd.S_mono (Kd.S_far (p := ⟨gb240,5,none⟩) (Kd.S_far (p := ⟨gb240,4,none⟩) (Kd.S_far (p := ⟨gb240,3,none⟩) (Kd.S_far (p := ⟨gb240,2,none⟩) (Kd.S_far (p := ⟨gb240,1,none⟩) (Kd.S_far (p := ⟨gb240,0,none⟩) (Kd.S_types HO239.out BK240.out (by decide)) (fun _ hk => hk.2) (.slice A0_0 l0_0.length c0_0)) (fun _ hk => hk.2) (.int .i64 t234)) (fun _ hk => hk.2) (.slice A0_2 l0_2.length c0_2)) (fun _ hk => hk.2) (.int .i64 t235)) (fun _ hk => hk.2) (.int .i64 t236)) (fun _ hk => hk.2) (.slice Ao22 t237.length co22)) (fun _ hk => trivial)⟩
     have n1_ : Aside0 (((((((w19.setCell ⟨gb240,0,none⟩ (.slice A0_0 l0_0.length c0_0)).setCell ⟨gb240,1,none⟩ (.int .i64 t234)).setCell ⟨gb240,2,none⟩ (.slice A0_2 l0_2.length c0_2)).setCell ⟨gb240,3,none⟩ (.int .i64 t235)).setCell ⟨gb240,4,none⟩ (.int .i64 t236)).setCell ⟨gb240,5,none⟩ (.slice Ao22 t237.length co22)).heap[gb219]? = some (.cells #[.slice A0_0 l0_0.length c0_0,.int .i64 a0_1,.slice A0_2 l0_2.length c0_2,.int .i64 a0_3,.int .i64 a0_4] 27 (0,0))) := ⟨(blk_far (blk_far (blk_far (blk_far (blk_far (blk_far BK219.out NB219_240.out _) NB219_240.out _) NB219_240.out _) NB219_240.out _) NB219_240.out _) NB219_240.out _)⟩
     have n2_ : Aside0 (((((((w19.setCell ⟨gb240,0,none⟩ (.slice A0_0 l0_0.length c0_0)).setCell ⟨gb240,1,none⟩ (.int .i64 t234)).setCell ⟨gb240,2,none⟩ (.slice A0_2 l0_2.length c0_2)).setCell ⟨gb240,3,none⟩ (.int .i64 t235)).setCell ⟨gb240,4,none⟩ (.int .i64 t236)).setCell ⟨gb240,5,none⟩ (.slice Ao22 t237.length co22)).heap[gb240]? = some (.cells #[.slice A0_0 l0_0.length c0_0,.int .i64 t234,.slice A0_2 l0_2.length c0_2,.int .i64 t235,.int .i64 t236,.slice Ao22 t237.length co22] 99 (0,0))) := ⟨(blk_put (cs := #[.slice A0_0 l0_0.length c0_0,.int .i64 t234,.slice A0_2 l0_2.length c0_2,.int .i64 t235,.int .i64 t236,.slice none 0 0]) (blk_put (cs := #[.slice A0_0 l0_0.length c0_0,.int .i64 t234,.slice A0_2 l0_2.length c0_2,.int .i64 t235,.int .i64 0,.slice none 0 0]) (blk_put (cs := #[.slice A0_0 l0_0.length c0_0,.int .i64 t234,.slice A0_2 l0_2.length c0_2,.int .i64 0,.int .i64 0,.slice none 0 0]) (blk_put (cs := #[.slice A0_0 l0_0.length c0_0,.int .i64 t234,.slice none 0 0,.int .i64 0,.int .i64 0,.slice none 0 0]) (blk_put (cs := #[.slice A0_0 l0_0.length c0_0,.int .i64 0,.slice none 0 0,.int .i64 0,.int .i64 0,.slice none 0 0]) (blk_put (cs := #[.slice none 0 0,.int .i64 0,.slice none 0 0,.int .i64 0,.int .i64 0,.slice none 0 0]) BK240.out 0 _ rfl) 1 _ rfl) 2 _ rfl) 3 _ rfl) 4 _ rfl) 5 _ rfl)⟩
     have n3_ : Aside0 (Below w.heap.size w ((((((w19.setCell ⟨gb240,0,none⟩ (.slice A0_0 l0_0.length c0_0)).setCell ⟨gb240,1,none⟩ (.int .i64 t234)).setCell ⟨gb240,2,none⟩ (.slice A0_2 l0_2.length c0_2)).setCell ⟨gb240,3,none⟩ (.int .i64 t235)).setCell ⟨gb240,4,none⟩ (.int .i64 t236)).setCell ⟨gb240,5,none⟩ (.slice Ao22 t237.length co22))) := ⟨by repeat (first | (with_reducible first | exact HB.out | refine below_set ?_ (Aside0.out (by assumption)) | apply below_alloc | apply pw_below_drewN) | exact HB.out)⟩
     (try clear HO239)
     (try clear BK219)
     (try clear BK240)
     (try clear HB)
     generalize ((((((w19.setCell ⟨gb240,0,none⟩ (.slice A0_0 l0_0.length c0_0)).setCell ⟨gb240,1,none⟩ (.int .i64 t234)).setCell ⟨gb240,2,none⟩ (.slice A0_2 l0_2.length c0_2)).setCell ⟨gb240,3,none⟩ (.int .i64 t235)).setCell ⟨gb240,4,none⟩ (.int .i64 t236)).setCell ⟨gb240,5,none⟩ (.slice Ao22 t237.length co22)) = w23 at n0_ n1_ n2_ n3_ ⊢
     have HO239 := n0_
     have BK219 := n1_
     have BK240 := n2_
     have HB := n3_
     clear n0_ n1_ n2_ n3_
     replace HO239 := am (Kd.S_drew HO239.out)
     replace BK219 := am (blk_drew BK219.out)
     replace BK240 := am (blk_drew BK240.out)
     replace HB := am (below_drew1 HB.out)
     have p241 : 0 ≤ (a1 : Int) := of_decide_eq_true (by assumption)
     have q241 : a1 < (t237.length : Int) := of_decide_eq_true (by assumption)
     obtain ⟨ad241,A241_0,c241_0,e241,hx241_0,hl241_0,hi241_0⟩ := at_L3 (Kd.S_reads' HO239.out).2.2 a1 p241 q241
     cases e241
     obtain ⟨ce241,hce241,hMe241,hcc241⟩ := Kd.S_get HO239.out [] a1 p241 (by first | exact q241 | exact of_decide_eq_true (by assumption) | (have e_ := (Kd.S_reads' HO239.out).1;omega))
     obtain ⟨ve241_0,rfl,ge241_0⟩ := hMe241
     have hv241_0 := hcc241 0 _ rfl
     rw [Nat.add_zero,show ((Kd.slice 3 (Kd.int .i64))).sz = 1 from rfl,Nat.mul_one] at hv241_0
     replace hv241_0 := Option.some.inj (hv241_0.symm.trans hx241_0)
     rw [hv241_0] at ge241_0
     have HL241_0 := am (show Kd.R (Kd.int .i64) 3 _ _ _ _ (rd_L3 t237 a1) from ge241_0)
     clear hv241_0 ge241_0
     clear hcc241 hce241
     have HR241_0 := am hi241_0
     have HC241_0 := am hl241_0
     clear hi241_0 hl241_0
     replace p241 := eq_true p241
     replace q241 := eq_true q241
     refine start_ (n := 11) (S := fun w' => w'.cell? ⟨gb240,0,none⟩ = some (.slice A0_0 l0_0.length c0_0) ∧ w'.cell? ⟨gb240,1,none⟩ = some (.int .i64 t234) ∧ w'.cell? ⟨gb240,2,none⟩ = some (.slice A0_2 l0_2.length c0_2) ∧ w'.cell? ⟨gb240,3,none⟩ = some (.int .i64 t235) ∧ w'.cell? ⟨gb240,4,none⟩ = some (.int .i64 t236) ∧ w'.cell? ⟨gb240,5,none⟩ = some (.slice (some ad241) t237.length co22) ∧ w'.cell? (ad241.add (a1).toNat) = some (.slice A241_0 (rd_L3 t237 a1).length c241_0)) (ds := []) (ba 11 0) (by kernel_rfl) rfl rfl ⟨(blk_cell BK240.out 0).trans rfl,(blk_cell BK240.out 1).trans rfl,(blk_cell BK240.out 2).trans rfl,(blk_cell BK240.out 3).trans rfl,(blk_cell BK240.out 4).trans rfl,(blk_cell BK240.out 5).trans rfl,hx241_0⟩ (fun hHeld => ?_);refine with_tabW ca_Out.tab4 ca_Out.bits4 (fun HT_ HW_ => ?_)
     generalize w23.drew = w24 at HO239 BK219 BK240 HB HL241_0 HR241_0 hx241_0 hHeld ⊢
     refine pure_ (i := 0) (N := some 18) (v := ?_) (a' := ?_) (ba 11 1) rfl rfl (any_of HT_.out (by kernel_rfl)) (fun _ _ _ h => h) (Or.inl ⟨by rfl,?_⟩) ?_ ?_
     rotate_left
     · intro w'
       go_simp
       with_reducible rfl
     rotate_left
     · simp only [Act.put,NRM]
       rfl
     refine pure_ (i := 2) (N := some 20) (v := ?_) (a' := ?_) (ba 11 5) rfl rfl (any_of HT_.out (by kernel_rfl)) (fun _ _ _ h => h) (Or.inl ⟨by rfl,?_⟩) ?_ ?_
     rotate_left
     · intro w'
       go_simp
       with_reducible rfl
     rotate_left
     · simp only [Act.put,NRM]
       rfl
     refine pure_ (i := 6) (N := some 24) (v := ?_) (a' := ?_) (ba 11 69) rfl rfl (any_of HT_.out (by kernel_rfl)) (fun _ _ _ h => h) (Or.inl ⟨by rfl,?_⟩) ?_ ?_
     rotate_left
     · intro w'
       go_simp
       with_reducible rfl
     rotate_left
     · simp only [Act.put,NRM]
       rfl
     refine take_ (i := 1) (N := some 19) (v := ?_) (a' := ?_) (ba 11 71) rfl rfl (take_ofW HT_.out HW_.out (by kernel_rfl)) (fun _ _ _ h => h) (Or.inl ⟨by rfl,?_⟩) hHeld ?_ ?_
     rotate_left
     · rintro w' ⟨s0,s1,s2,s3,s4,s5,s6⟩
       go_simp
       with_reducible rfl
     rotate_left
     · simp only [Act.put,NRM]
       rfl
     refine pure_ (i := 3) (N := some 21) (v := ?_) (a' := ?_) (ba 11 79) rfl rfl (any_of HT_.out (by kernel_rfl)) (fun _ _ _ h => h) (Or.inl ⟨by rfl,?_⟩) ?_ ?_
     rotate_left
     · intro w'
       go_simp
       with_reducible rfl
     rotate_left
     · simp only [Act.put,NRM]
       rfl
     refine take_ (i := 4) (N := some 22) (v := ?_) (a' := ?_) (ba 11 95) rfl rfl (take_ofW HT_.out HW_.out (by kernel_rfl)) (fun _ _ _ h => h) (Or.inl ⟨by rfl,?_⟩) hHeld ?_ ?_
     rotate_left
     · rintro w' ⟨s0,s1,s2,s3,s4,s5,s6⟩
       go_simp
       with_reducible rfl
     rotate_left
     · simp only [Act.put,NRM]
       rfl
     refine take_ (i := 5) (N := some 23) (v := ?_) (a' := ?_) (ba 11 127) rfl rfl (take_ofW HT_.out HW_.out (by kernel_rfl)) (fun _ _ _ h => h) (Or.inl ⟨by rfl,?_⟩) hHeld ?_ ?_
     rotate_left
     · rintro w' ⟨s0,s1,s2,s3,s4,s5,s6⟩
       go_simp
       with_reducible rfl
     rotate_left
     · simp only [Act.put,NRM]
       rfl
     refine one_ (i := 7) (N := some 25) (ba 11 255) rfl rfl (one_of HT_.out (by kernel_rfl)) (by decide) (fun K hK => ?_)
     refine goes_ Tryz.func69 (by kernel_rfl) rfl #[.agg #[.slice A0_0 l0_0.length c0_0,.int .i64 t234,.slice A0_2 l0_2.length c0_2,.int .i64 t235,.int .i64 t236,.slice (some ad241) t237.length co22],.int .i64 a1] (by rfl) rfl rfl (by (try simp only [List.map_toArray,List.map_cons,List.map_nil]);first | done | rfl | (simp only [List.length_drop,List.length_take];rfl)) ?_
     with_reducible refine (gf_weir.calls _ _ l0_0 t234 _ _ l0_2 t235 t236 _ _ t237 a1 t242 _ ?side1 ?side2 ?side3 ?side4 ?side5 ?side6 A16.out).mono ?_
     (case side1 => exact kC HR0_0.out HB.out)
     (case side2 => exact HC0_0.out)
     (case side3 => exact kC HR0_2.out HB.out)
     (case side4 => exact HC0_2.out)
     (case side5 => repeat (first | exact (Kd.S_reads' HO239.out).2.2 | (with_reducible refine Kd.C_alloc ?_ _) | (with_reducible refine Kd.C_drewN ?_ _) | (with_reducible refine Kd.C_drew ?_)))
     (case side6 => exact (Kd.S_reads' HO239.out).2.1)
     rintro e w25 ⟨rfl,hb⟩
     have HS6_ := (hb.cell (World.block_lt_of_cell? _ _ (hHeld.2.2.2.2.2.2))).trans (hHeld.2.2.2.2.2.2)
     refine ⟨_,rfl,?_⟩
     replace HO239 := am (Kd.S_below HO239.out hb)
     replace HL241_0 := am (Kd.R_below HL241_0.out hb)
     replace BK219 := (kmv hb BK219)
     replace BK240 := (kmv hb BK240)
     replace HR241_0 := am (kC (by repeat (first | (with_reducible exact HR241_0.out) | (with_reducible refine Kd.C_alloc ?_ _) | (with_reducible refine Kd.C_drewN ?_ _) | (with_reducible refine Kd.C_drew ?_) | exact HR241_0.out)) hb)
     replace HB := am (below_step (HB.out) hb)
     (try clear hb)
     (try clear hb2)
     (try clear hk)
     (try clear hi)
     refine hK.out _ _ ⟨(blk_cell BK240.out 0).trans rfl,(blk_cell BK240.out 1).trans rfl,(blk_cell BK240.out 2).trans rfl,(blk_cell BK240.out 3).trans rfl,(blk_cell BK240.out 4).trans rfl,(blk_cell BK240.out 5).trans rfl,HS6_⟩ (fun hHeld => ?_)
     clear hK K
     refine norm_ (a' := ?_) ?_ ?_
     rotate_left
     · show Act.put _ (some 25) _ = _
       simp only [Act.put,NRM]
       rfl
     refine pure_ (i := 8) (N := some 4) (v := ?_) (a' := ?_) (ba 11 511) rfl rfl (any_of HT_.out (by kernel_rfl)) (fun _ _ _ h => h) (Or.inl ⟨by rfl,?_⟩) ?_ ?_
     rotate_left
     · intro w'
       go_simp
       with_reducible rfl
     rotate_left
     · simp only [Act.put,NRM]
       rfl
     refine pure_ (i := 9) (N := some 5) (v := ?_) (a' := ?_) (ba 11 1023) rfl rfl (any_of HT_.out (by kernel_rfl)) (fun _ _ _ h => h) (Or.inl ⟨by rfl,?_⟩) ?_ ?_
     rotate_left
     · intro w'
       go_simp
       with_reducible rfl
     rotate_left
     · simp only [Act.put,NRM]
       rfl
     refine pure_ (i := 10) (N := some 6) (v := ?_) (a' := ?_) (ba 11 2047) rfl rfl (any_of HT_.out (by kernel_rfl)) (fun _ _ _ h => h) (Or.inl ⟨by rfl,?_⟩) ?_ ?_
     rotate_left
     · intro w'
       go_simp
       with_reducible rfl
     rotate_left
     · simp only [Act.put,NRM]
       rfl
     refine done_ (done_of HT_.out (by kernel_rfl)) ?_
     try go_wp2
     go_ret3
     exact ⟨_,by first | rfl | (simp [*] <;> rfl),by (with_reducible repeat (first | apply Kd.R_alloc | apply Kd.R_drewN | apply Kd.R_drew));exact Kd.R_mono HL241_0.out (fun _ hk => trivial),HB.out⟩
def l4_sum.l0 : Nat → List Int → Int → Int → Option (Int)
 | 0,_,_,_ => none
 | k + 1,x0,x3,x4 => if x4 < (x0.length : Int) then (if 0 ≤ x4 then ((q4_Cups.f (rd x0 x4)).bind fun t528 => (if t528 = true then (l4_sum.l0 k x0 (wrap64 (x3 + (rd x0 x4))) (wrap64 (x4 + 1))) else (some (-1)))) else (none)) else (some x3)
def l4_sum.f (k : Nat) (l0 : List Int) : Option (Int) := l4_sum.l0 k l0 0 0
theorem l4_sum.calls (k : Nat) (A0 : Option Addr) (c0 : Nat) (l0 : List Int) (r : Int) (w : World) (hr0 : Kd.C (Kd.int .i64) w A0 l0.length l0) (hc0 : l0.length ≤ c0) (h : l4_sum.f k l0 = some r) :
 Calls Tryz.prog 23 #[.slice A0 l0.length c0] w fun e w' => e = .returned (.int .i64 r) ∧ Drawn0 w w' := by
 have HR0 := am hr0
 have HC0 := am hc0
 clear hr0 hc0
 have H : (l4_sum.l0 k l0 0 0) = some r := h
 clear h
 replace H' := am H
 go_enter Tryz.func23,Tryz.ntmps23
 go_wp2
 go_loopg [3,4] k (fun kq v3 v4 w' => ∃ (x3_1 : Int) (x4_1 : Int),v3 = .int .i64 x3_1 ∧ v4 = .int .i64 x4_1 ∧ Aside0 (l4_sum.l0 kq l0 x3_1 x4_1 = some r) ∧ Aside0 (kq ≤ k) ∧ Drawn0 w w')
 case atStart => exact ⟨(0),(0),(by first | rfl | (simp;done) | (simp [*];done)),(by first | rfl | (simp;done) | (simp [*];done)),H',⟨Nat.le_refl _⟩,by repeat (first | exact Drawn0.refl _ | apply Drawn0.step)⟩
 case round =>
  clear H'
  obtain ⟨x3_1,x4_1,rfl,rfl,HA,HK1,⟨m1,rfl⟩⟩ := hrel
  cases gk with
  | zero => exact absurd HA.out (by simp [l4_sum.l0])
  | succ k1 =>
   have H := HA.out
   clear HA
   simp only [l4_sum.l0] at H
   by_cases c2 : x4_1 < (l0.length : Int)
   case neg =>
    rw [if_neg c2] at H
    have c2b0 : decide (x4_1 < (l0.length : Int)) = false := decide_eq_false c2
    clear c2
    obtain rfl := Option.some.inj H
    go_wp2
    go_ret
    exact ⟨by first | rfl | (simp;done) | (simp [*];done),by repeat (first | exact Drawn0.refl _ | apply Drawn0.step)⟩
   rw [if_pos c2] at H
   have c2b0 : decide (x4_1 < (l0.length : Int)) = true := decide_eq_true c2
   clear c2
   by_cases c3 : 0 ≤ x4_1
   case neg =>
    rw [if_neg c3] at H
    exact absurd H (by simp)
   rw [if_pos c3] at H
   have c3b0 : decide (0 ≤ x4_1) = true := decide_eq_true c3
   clear c3
   replace H := obm H
   obtain ⟨t528,A40,H⟩ := H
   replace H : (if t528 = true then (l4_sum.l0 k1 l0 (wrap64 (x3_1 + (rd l0 x4_1))) (wrap64 (x4_1 + 1))) else (some (-1))) = some r := H
   have A4 := am A40
   clear A40
   by_cases c5 : t528 = true
   · subst c5
     replace H : (l4_sum.l0 k1 l0 (wrap64 (x3_1 + (rd l0 x4_1))) (wrap64 (x4_1 + 1))) = some r := by rw [if_pos rfl] at H;exact H
     replace H' := am H
     have p527 : 0 ≤ (x4_1 : Int) := of_decide_eq_true (by assumption)
     have q527 : x4_1 < (l0.length : Int) := of_decide_eq_true (by assumption)
     obtain ⟨ad527,e527,hx527_0⟩ := Kd.at_int HR0.out x4_1 p527 q527
     cases e527
     replace p527 := eq_true p527
     replace q527 := eq_true q527
     go_wp2_with (first | ((with_reducible refine gate_callee (f := 18) rfl ?_);refine goesL_ (some 15) rfl rfl Tryz.func18 (by kernel_rfl) rfl #[.int .i64 (rd l0 x4_1)] rfl (by (try simp only [List.map_toArray,List.map_cons,List.map_nil]);first | done | rfl | (simp only [List.length_drop,List.length_take];rfl)) ?_;(with_reducible refine (q4_Cups.calls (rd l0 x4_1) true _ A4.out).mono ?_);rintro e w' ⟨rfl,⟨nd,rfl⟩⟩;refine ⟨_,rfl,?_⟩;have p529 : 0 ≤ (x4_1 : Int) := of_decide_eq_true (by assumption);have q529 : x4_1 < (l0.length : Int) := of_decide_eq_true (by assumption);obtain ⟨ad529,e529,hx529_0⟩ := Kd.at_int HR0.out x4_1 p529 q529;obtain rfl : ad527 = ad529 := (by injection e529);replace p529 := eq_true p529;replace q529 := eq_true q529))
     go_roundg k1
     case measure => have := HK1.out;omega
     case rel => exact ⟨(wrap64 (x3_1 + (rd l0 x4_1))),(wrap64 (x4_1 + 1)),(by first | rfl | (simp;done) | (simp [*];done)),(by first | rfl | (simp;done) | (simp [*];done)),H',⟨by have := HK1.out;omega⟩,by repeat (first | exact Drawn0.refl _ | apply Drawn0.step)⟩
   · replace c5 := Bool.eq_false_iff.mpr c5
     subst c5
     replace H : (some (-1)) = some r := by rw [if_neg (show ¬ (false = true) by decide)] at H;exact H
     obtain rfl := Option.some.inj H
     have p527 : 0 ≤ (x4_1 : Int) := of_decide_eq_true (by assumption)
     have q527 : x4_1 < (l0.length : Int) := of_decide_eq_true (by assumption)
     obtain ⟨ad527,e527,hx527_0⟩ := Kd.at_int HR0.out x4_1 p527 q527
     cases e527
     replace p527 := eq_true p527
     replace q527 := eq_true q527
     go_wp2_with (first | ((with_reducible refine gate_callee (f := 18) rfl ?_);refine goesL_ (some 15) rfl rfl Tryz.func18 (by kernel_rfl) rfl #[.int .i64 (rd l0 x4_1)] rfl (by (try simp only [List.map_toArray,List.map_cons,List.map_nil]);first | done | rfl | (simp only [List.length_drop,List.length_take];rfl)) ?_;(with_reducible refine (q4_Cups.calls (rd l0 x4_1) false _ A4.out).mono ?_);rintro e w' ⟨rfl,⟨nd,rfl⟩⟩;refine ⟨_,rfl,?_⟩))
     go_ret
     exact ⟨by first | rfl | (simp;done) | (simp [*];done),by repeat (first | exact Drawn0.refl _ | apply Drawn0.step)⟩
end
end Go.Proofs.YticlelgmmonloaaGreatDoor.C

/- A part of the proof: the walks of the functions that it reaches. TIGHT. -/
import Derived.Test.YtnnmnhpeblhiiaaGreatDoorM17
set_option linter.unusedVariables false
set_option linter.unusedSimpArgs false
namespace Go.Proofs.YtnnmnhpeblhiiaaGreatDoor.C
open Go.RowKit Go.Proofs.YtnnmnhpeblhiiaaGreatDoorW.PrintWords Go.Proofs.YtnnmnhpeblhiiaaGreatDoorW.PrintLast Go.Proofs.YtnnmnhpeblhiiaaGreatDoorW.PrintMore
set_option linter.unusedVariables false
set_option linter.unusedSimpArgs false
set_option maxHeartbeats 16000000
set_option maxRecDepth 100000
section
attribute [local go_sem] max2_int min2_int max_two min_two
def ca_Out.j0 : Nat → Int → Bool → List (S126) → Int → List (S48) → Int → Int → Option (List Int × Int × Int)
 | 0,_,_,_,_,_,_,_ => none
 | k + 1,x1,x15,x337000,x337001,x337002,x337003,x337004 => if x15 = true then (some (([] : List Int),0,2)) else ((ca_fill.f k x337000 x337001 x337002 x337003 x337004).bind fun bt351 => (if 0 ≤ x1 then (if x1 < (bt351.2.2.2.length : Int) then ((gf_weir.f x337000 bt351.1 x337002 bt351.2.1 bt351.2.2.1 bt351.2.2.2 x1).bind fun t359 => (some (rd_L3 bt351.2.2.2 x1,t359,0))) else (none)) else (none)))
def ca_Out.f (k : Nat) (l0_0 : List (S126)) (a0_1 : Int) (l0_2 : List (S48)) (a0_3 : Int) (a0_4 : Int) (a1 : Int) : Option (List Int × Int × Int) := (ca_isBasin.f l0_0 a0_1 l0_2 a0_3 a0_4).bind fun t337 => (if t337 = true then ((ca_isHeight.f a1).bind fun t338 => (ca_Out.j0 k a1 (!t338) l0_0 a0_1 l0_2 a0_3 a0_4)) else (ca_Out.j0 k a1 true l0_0 a0_1 l0_2 a0_3 a0_4))
def ca_Out.T4 : Bool × List (List Nat × List Nat) := (true,[([],[]),([0],[0]),([],[]),([1,2],[1,2]),([3],[3]),([],[]),([],[]),([5,6],[5,6]),([4,7,0,1,2,3,4],[4]),([7,8,0,1,2,3,4,5,6,7,8],[7]),([9,0,1,2,3,4,5,6,7,8,9],[])])
def ca_Out.B4 : List Nat := [0,1,0,7,15,0,0,96,255,511,1023]
theorem ca_Out.tab4 : rtab .any (opsOf Tryz.f42 4) = ca_Out.T4 := by kernel_rfl
theorem ca_Out.bits4 : waitsOk ca_Out.T4.2 ca_Out.B4 = true := by kernel_rfl
theorem ca_Out.calls (k : Nat) (A0_0 : Option Addr) (c0_0 : Nat) (l0_0 : List (S126)) (a0_1 : Int) (A0_2 : Option Addr) (c0_2 : Nat) (l0_2 : List (S48)) (a0_3 : Int) (a0_4 : Int) (a1 : Int) (r1 : List Int) (r2 : Int) (r3 : Int) (w : World) (hr0_0 : Kd.C k126 w A0_0 l0_0.length l0_0) (hc0_0 : l0_0.length ≤ c0_0) (hr0_2 : Kd.C k48 w A0_2 l0_2.length l0_2) (hc0_2 : l0_2.length ≤ c0_2) (h : ca_Out.f k l0_0 a0_1 l0_2 a0_3 a0_4 a1 = some (r1,r2,r3)) :
 Calls Tryz.prog 42 #[.agg #[.slice A0_0 l0_0.length c0_0,.int .i64 a0_1,.slice A0_2 l0_2.length c0_2,.int .i64 a0_3,.int .i64 a0_4],.int .i64 a1] w fun e w' => ∃ v0_ : Value,e = .returned (.tuple #[v0_,.int .i64 r2,.int .i64 r3]) ∧ Kd.R (Kd.int .i64) 3 w' w.heap.size (fun _ => True) v0_ r1 ∧ Below w.heap.size w w' := by
 have hu27 := Tryz.underlying27
 have hu110 := Tryz.underlying110
 have HR0_0 := am hr0_0
 have HC0_0 := am hc0_0
 clear hr0_0 hc0_0
 have HR0_2 := am hr0_2
 have HC0_2 := am hc0_2
 clear hr0_2 hc0_2
 have HB := am (Below.refl w.heap.size w)
 have H : ((ca_isBasin.f l0_0 a0_1 l0_2 a0_3 a0_4).bind fun t337 => (if t337 = true then ((ca_isHeight.f a1).bind fun t338 => (ca_Out.j0 k a1 (!t338) l0_0 a0_1 l0_2 a0_3 a0_4)) else (ca_Out.j0 k a1 true l0_0 a0_1 l0_2 a0_3 a0_4))) = some (r1,r2,r3) := h
 clear h
 have HC3 := am H
 clear H
 go_enter Tryz.func42,Tryz.ntmps42
 go_upto_region 1 with (first | ((refine gate_dst (N := 2) rfl ?_);refine box_event rfl (N := 2) rfl (cs := #[.slice A0_0 l0_0.length c0_0,.int .i64 a0_1,.slice A0_2 l0_2.length c0_2,.int .i64 a0_3,.int .i64 a0_4]) (t := 27) ?hr ?_;(case hr => go_simp;try rfl);intro gb336 hg w4 hbox hb;have BK336 := am (hbox);have GW336 := am (ge_new (HB.out) hg);have GE336 := am (ge_new (HB.out) hg);replace HB := am (below_step (HB.out) hb);clear hb hbox hg))
 (try simp only [Act.put,List.setIfInBounds_toArray,List.set_cons_zero,List.set_cons_succ])
 go_cut [15] (fun v15 wc => ∃ (kq : Nat) (x15_2 : Bool),v15 = .bool x15_2 ∧ Aside0 (ca_Out.j0 kq a1 x15_2 l0_0 a0_1 l0_2 a0_3 a0_4 = some (r1,r2,r3)) ∧ Aside0 (kq ≤ k) ∧ Aside0 (wc.heap[gb336]? = some (.cells #[(.slice A0_0 l0_0.length c0_0),.int .i64 a0_1,(.slice A0_2 l0_2.length c0_2),.int .i64 a0_3,.int .i64 a0_4] 27 (0,0))) ∧ Aside0 (Below w.heap.size w wc))
 case first =>
  have H := HC3.out
  clear HC3
  replace H := obm H
  obtain ⟨t337,A50,H⟩ := H
  replace H : (if t337 = true then ((ca_isHeight.f a1).bind fun t338 => (ca_Out.j0 k a1 (!t338) l0_0 a0_1 l0_2 a0_3 a0_4)) else (ca_Out.j0 k a1 true l0_0 a0_1 l0_2 a0_3 a0_4)) = some (r1,r2,r3) := H
  have A5 := am A50
  clear A50
  by_cases c6 : t337 = true
  case neg =>
   replace c6 := Bool.eq_false_iff.mpr c6
   subst c6
   replace H : (ca_Out.j0 k a1 true l0_0 a0_1 l0_2 a0_3 a0_4) = some (r1,r2,r3) := by rw [if_neg (show ¬ (false = true) by decide)] at H;exact H
   replace H' := am H
   obtain ⟨hcz10_0,hcz10_1,hcz10_2,hcz10_3,hcz10_4⟩ := cO5 BK336.out
   go_wp2_with (first | ((with_reducible refine gate_callee (f := 64) rfl ?_);refine goesL_ (some 9) rfl rfl Tryz.func64 (by kernel_rfl) rfl #[.agg #[.slice A0_0 l0_0.length c0_0,.int .i64 a0_1,.slice A0_2 l0_2.length c0_2,.int .i64 a0_3,.int .i64 a0_4]] rfl (by (try simp only [List.map_toArray,List.map_cons,List.map_nil]);first | done | rfl | (simp only [List.length_drop,List.length_take];rfl)) ?_;(refine (ca_isBasin.calls _ _ l0_0 a0_1 _ _ l0_2 a0_3 a0_4 false _ ?side1 ?side2 ?side3 ?side4 A5.out).mono ?_);(case side1 => exact kC HR0_0.out HB.out);(case side2 => exact HC0_0.out);(case side3 => exact kC HR0_2.out HB.out);(case side4 => exact HC0_2.out);rintro e w11 ⟨rfl,hb⟩;refine ⟨_,rfl,?_⟩;replace BK336 := (kmv hb BK336);replace HB := am (below_step (HB.out) hb);(try clear hb);(try clear hb2);(try clear hk);(try clear hi)))
   go_meet
   case rel => exact ⟨_,(true),(by first | rfl | (simp;done) | (simp [*];done)),H',⟨by first | omega | exact Nat.le_refl _⟩,⟨BK336.out⟩,⟨HB.out⟩⟩
  subst c6
  replace H : ((ca_isHeight.f a1).bind fun t338 => (ca_Out.j0 k a1 (!t338) l0_0 a0_1 l0_2 a0_3 a0_4)) = some (r1,r2,r3) := by rw [if_pos rfl] at H;exact H
  replace H := obm H
  obtain ⟨t338,A70,H⟩ := H
  replace H : (ca_Out.j0 k a1 (!t338) l0_0 a0_1 l0_2 a0_3 a0_4) = some (r1,r2,r3) := H
  have A7 := am A70
  clear A70
  replace H' := am H
  obtain ⟨hcz8_0,hcz8_1,hcz8_2,hcz8_3,hcz8_4⟩ := cO5 BK336.out
  go_wp2_with (first | ((with_reducible refine gate_callee (f := 64) rfl ?_);refine goesL_ (some 9) rfl rfl Tryz.func64 (by kernel_rfl) rfl #[.agg #[.slice A0_0 l0_0.length c0_0,.int .i64 a0_1,.slice A0_2 l0_2.length c0_2,.int .i64 a0_3,.int .i64 a0_4]] rfl (by (try simp only [List.map_toArray,List.map_cons,List.map_nil]);first | done | rfl | (simp only [List.length_drop,List.length_take];rfl)) ?_;(refine (ca_isBasin.calls _ _ l0_0 a0_1 _ _ l0_2 a0_3 a0_4 true _ ?side1 ?side2 ?side3 ?side4 A5.out).mono ?_);(case side1 => exact kC HR0_0.out HB.out);(case side2 => exact HC0_0.out);(case side3 => exact kC HR0_2.out HB.out);(case side4 => exact HC0_2.out);rintro e w9 ⟨rfl,hb⟩;refine ⟨_,rfl,?_⟩;replace BK336 := (kmv hb BK336);replace HB := am (below_step (HB.out) hb);(try clear hb);(try clear hb2);(try clear hk);(try clear hi)) | (go_at_call 86;(refine (ca_isHeight.calls a1 t338 _ A7.out).mono ?_);rintro e w' ⟨rfl,⟨nd,rfl⟩⟩))
  go_meet
  case rel => exact ⟨_,(!t338),(by first | rfl | (simp;done) | (simp [*];done)),H',⟨by first | omega | exact Nat.le_refl _⟩,⟨BK336.out⟩,⟨pw_below_drewN HB.out _⟩⟩
 case rest =>
  clear HC3
  obtain ⟨kq,x15_2,rfl,HA,HJ2,BK336,HB⟩ := hcut
  cases kq with
  | zero => exact absurd HA.out (by simp [ca_Out.j0])
  | succ kj2 =>
   have H := HA.out
   clear HA
   simp only [ca_Out.j0] at H
   by_cases c12 : x15_2 = true
   · subst c12
     replace H : (some (([] : List Int),0,2)) = some (r1,r2,r3) := by rw [if_pos rfl] at H;exact H
     simp only [Option.some.injEq,Prod.mk.injEq] at H
     obtain ⟨rfl,rfl,rfl⟩ := H
     go_wp2
     go_ret3
     exact ⟨_,by first | rfl | (simp [*] <;> rfl),by first | exact Kd.R_nil _ _ _ _ _ | exact Kd.N_nil _ _ _ _ _ | exact Kd.V_nil _ _ _ _ _ | exact Kd.Q_nil _ _ _ _ _ | exact Kd.S_nil _ _ _ _ _,HB.out⟩
   · replace c12 := Bool.eq_false_iff.mpr c12
     subst c12
     replace H : ((ca_fill.f kj2 l0_0 a0_1 l0_2 a0_3 a0_4).bind fun bt351 => (if 0 ≤ a1 then (if a1 < (bt351.2.2.2.length : Int) then ((gf_weir.f l0_0 bt351.1 l0_2 bt351.2.1 bt351.2.2.1 bt351.2.2.2 a1).bind fun t359 => (some (rd_L3 bt351.2.2.2 a1,t359,0))) else (none)) else (none))) = some (r1,r2,r3) := by rw [if_neg (show ¬ (false = true) by decide)] at H;exact H
     replace H := obm H
     obtain ⟨⟨t351,t352,t353,t354⟩,A130,H⟩ := H
     replace H : (if 0 ≤ a1 then (if a1 < (t354.length : Int) then ((gf_weir.f l0_0 t351 l0_2 t352 t353 t354 a1).bind fun t359 => (some (rd_L3 t354 a1,t359,0))) else (none)) else (none)) = some (r1,r2,r3) := H
     have A13 := am A130
     clear A130
     by_cases c14 : 0 ≤ a1
     case neg =>
      rw [if_neg c14] at H
      exact absurd H (by simp)
     rw [if_pos c14] at H
     have c14b0 : decide (0 ≤ a1) = true := decide_eq_true c14
     clear c14
     by_cases c15 : a1 < (t354.length : Int)
     case neg =>
      rw [if_neg c15] at H
      exact absurd H (by simp)
     rw [if_pos c15] at H
     have c15b0 : decide (a1 < (t354.length : Int)) = true := decide_eq_true c15
     clear c15
     replace H := obm H
     obtain ⟨t359,A160,H⟩ := H
     replace H : (some (rd_L3 t354 a1,t359,0)) = some (r1,r2,r3) := H
     have A16 := am A160
     clear A160
     simp only [Option.some.injEq,Prod.mk.injEq] at H
     obtain ⟨rfl,rfl,rfl⟩ := H
     obtain ⟨hcz17_0,hcz17_1,hcz17_2,hcz17_3,hcz17_4⟩ := cO5 BK336.out
     try go_wp2_with (first | ((with_reducible refine gate_callee (f := 69) rfl ?_);refine goesL_ (some 17) rfl rfl Tryz.func69 (by kernel_rfl) rfl #[.agg #[.slice A0_0 l0_0.length c0_0,.int .i64 a0_1,.slice A0_2 l0_2.length c0_2,.int .i64 a0_3,.int .i64 a0_4]] rfl (by (try simp only [List.map_toArray,List.map_cons,List.map_nil]);first | done | rfl | (simp only [List.length_drop,List.length_take];rfl)) ?_;(refine (ca_fill.calls kj2 _ _ l0_0 a0_1 _ _ l0_2 a0_3 a0_4 t351 t352 t353 t354 _ ?side1 ?side2 ?side3 ?side4 A13.out).mono ?_);(case side1 => exact kC HR0_0.out HB.out);(case side2 => exact HC0_0.out);(case side3 => exact kC HR0_2.out HB.out);(case side4 => exact HC0_2.out);rintro e w18 ⟨v355,rfl,ho0,hb⟩;refine ⟨_,rfl,?_⟩;have HO356 := am (Kd.S_lower ho0 (below_size (HB.out)));replace BK336 := (kmv hb BK336);replace HB := am (below_step (HB.out) hb);(try clear hb);(try clear hb2);(try clear hk);(try clear hi);(try clear ho0)) | ((refine gate_dst (N := 7) rfl ?_);refine box_event rfl (N := 7) rfl (cs := #[.slice none 0 0,.int .i64 0,.slice none 0 0,.int .i64 0,.int .i64 0,.slice none 0 0]) (t := 110) ?hr ?_;(case hr => go_simp;try rfl);intro gb357 hg w19 hbox hb;have BK357 := am (hbox);have GW357 := am (ge_new (HB.out) hg);have GE357 := am (ge_new (HB.out) hg);have NB336_357 := am (ne_new BK336.out hg);have NB357_336 := am (ne_new2 BK336.out hg);replace HO356 := am (Kd.S_below HO356.out hb);replace BK336 := (kmv hb BK336);replace HB := am (below_step (HB.out) hb);clear hb hbox hg;have hnb20 := NB357_336.out;have hnc20 := NB336_357.out;obtain ⟨hcz21_0,hcz21_1,hcz21_2,hcz21_3,hcz21_4,hcz21_5⟩ := cO6 BK357.out;have hfz21_0 := blk_frozen BK357.out 0;have hfz21_1 := blk_frozen BK357.out 1;have hfz21_2 := blk_frozen BK357.out 2;have hfz21_3 := blk_frozen BK357.out 3;have hfz21_4 := blk_frozen BK357.out 4;have hfz21_5 := blk_frozen BK357.out 5;obtain ⟨Ao22,co22,eo22⟩ := Kd.S_slice HO356.out;subst eo22))
     have n0_ : Aside0 (Kd.S (Kd.slice 3 (Kd.int .i64)) 28 ((((((w19.setCell ⟨gb357,0,none⟩ (.slice A0_0 l0_0.length c0_0)).setCell ⟨gb357,1,none⟩ (.int .i64 t351)).setCell ⟨gb357,2,none⟩ (.slice A0_2 l0_2.length c0_2)).setCell ⟨gb357,3,none⟩ (.int .i64 t352)).setCell ⟨gb357,4,none⟩ (.int .i64 t353)).setCell ⟨gb357,5,none⟩ (.slice Ao22 t354.length co22)) w.heap.size (fun _ => True) (.slice Ao22 t354.length co22) t354) := ⟨by (with_reducible repeat (first | apply Kd.S_alloc | apply Kd.S_drewN | apply Kd.S_drew));exact Kd.S_mono (Kd.S_far (p := ⟨gb357,5,none⟩) (Kd.S_far (p := ⟨gb357,4,none⟩) (Kd.S_far (p := ⟨gb357,3,none⟩) (Kd.S_far (p := ⟨gb357,2,none⟩) (Kd.S_far (p := ⟨gb357,1,none⟩) (Kd.S_far (p := ⟨gb357,0,none⟩) (Kd.S_types HO356.out BK357.out (by decide)) (fun _ hk => hk.2) (.slice A0_0 l0_0.length c0_0)) (fun _ hk => hk.2) (.int .i64 t351)) (fun _ hk => hk.2) (.slice A0_2 l0_2.length c0_2)) (fun _ hk => hk.2) (.int .i64 t352)) (fun _ hk => hk.2) (.int .i64 t353)) (fun _ hk => hk.2) (.slice Ao22 t354.length co22)) (fun _ hk => trivial)⟩
     have n1_ : Aside0 (((((((w19.setCell ⟨gb357,0,none⟩ (.slice A0_0 l0_0.length c0_0)).setCell ⟨gb357,1,none⟩ (.int .i64 t351)).setCell ⟨gb357,2,none⟩ (.slice A0_2 l0_2.length c0_2)).setCell ⟨gb357,3,none⟩ (.int .i64 t352)).setCell ⟨gb357,4,none⟩ (.int .i64 t353)).setCell ⟨gb357,5,none⟩ (.slice Ao22 t354.length co22)).heap[gb336]? = some (.cells #[.slice A0_0 l0_0.length c0_0,.int .i64 a0_1,.slice A0_2 l0_2.length c0_2,.int .i64 a0_3,.int .i64 a0_4] 27 (0,0))) := ⟨(blk_far (blk_far (blk_far (blk_far (blk_far (blk_far BK336.out NB336_357.out _) NB336_357.out _) NB336_357.out _) NB336_357.out _) NB336_357.out _) NB336_357.out _)⟩
     have n2_ : Aside0 (((((((w19.setCell ⟨gb357,0,none⟩ (.slice A0_0 l0_0.length c0_0)).setCell ⟨gb357,1,none⟩ (.int .i64 t351)).setCell ⟨gb357,2,none⟩ (.slice A0_2 l0_2.length c0_2)).setCell ⟨gb357,3,none⟩ (.int .i64 t352)).setCell ⟨gb357,4,none⟩ (.int .i64 t353)).setCell ⟨gb357,5,none⟩ (.slice Ao22 t354.length co22)).heap[gb357]? = some (.cells #[.slice A0_0 l0_0.length c0_0,.int .i64 t351,.slice A0_2 l0_2.length c0_2,.int .i64 t352,.int .i64 t353,.slice Ao22 t354.length co22] 110 (0,0))) := ⟨(blk_put (cs := #[.slice A0_0 l0_0.length c0_0,.int .i64 t351,.slice A0_2 l0_2.length c0_2,.int .i64 t352,.int .i64 t353,.slice none 0 0]) (blk_put (cs := #[.slice A0_0 l0_0.length c0_0,.int .i64 t351,.slice A0_2 l0_2.length c0_2,.int .i64 t352,.int .i64 0,.slice none 0 0]) (blk_put (cs := #[.slice A0_0 l0_0.length c0_0,.int .i64 t351,.slice A0_2 l0_2.length c0_2,.int .i64 0,.int .i64 0,.slice none 0 0]) (blk_put (cs := #[.slice A0_0 l0_0.length c0_0,.int .i64 t351,.slice none 0 0,.int .i64 0,.int .i64 0,.slice none 0 0]) (blk_put (cs := #[.slice A0_0 l0_0.length c0_0,.int .i64 0,.slice none 0 0,.int .i64 0,.int .i64 0,.slice none 0 0]) (blk_put (cs := #[.slice none 0 0,.int .i64 0,.slice none 0 0,.int .i64 0,.int .i64 0,.slice none 0 0]) BK357.out 0 _ rfl) 1 _ rfl) 2 _ rfl) 3 _ rfl) 4 _ rfl) 5 _ rfl)⟩
     have n3_ : Aside0 (Below w.heap.size w ((((((w19.setCell ⟨gb357,0,none⟩ (.slice A0_0 l0_0.length c0_0)).setCell ⟨gb357,1,none⟩ (.int .i64 t351)).setCell ⟨gb357,2,none⟩ (.slice A0_2 l0_2.length c0_2)).setCell ⟨gb357,3,none⟩ (.int .i64 t352)).setCell ⟨gb357,4,none⟩ (.int .i64 t353)).setCell ⟨gb357,5,none⟩ (.slice Ao22 t354.length co22))) := ⟨by repeat (first | (with_reducible first | exact HB.out | refine below_set ?_ (Aside0.out (by assumption)) | apply below_alloc | apply pw_below_drewN) | exact HB.out)⟩
     (try clear HO356)
     (try clear BK336)
     (try clear BK357)
     (try clear HB)
     generalize ((((((w19.setCell ⟨gb357,0,none⟩ (.slice A0_0 l0_0.length c0_0)).setCell ⟨gb357,1,none⟩ (.int .i64 t351)).setCell ⟨gb357,2,none⟩ (.slice A0_2 l0_2.length c0_2)).setCell ⟨gb357,3,none⟩ (.int .i64 t352)).setCell ⟨gb357,4,none⟩ (.int .i64 t353)).setCell ⟨gb357,5,none⟩ (.slice Ao22 t354.length co22)) = w23 at n0_ n1_ n2_ n3_ ⊢
     have HO356 := n0_
     have BK336 := n1_
     have BK357 := n2_
     have HB := n3_
     clear n0_ n1_ n2_ n3_
     replace HO356 := am (Kd.S_drew HO356.out)
     replace BK336 := am (blk_drew BK336.out)
     replace BK357 := am (blk_drew BK357.out)
     replace HB := am (below_drew1 HB.out)
     have p358 : 0 ≤ (a1 : Int) := of_decide_eq_true (by assumption)
     have q358 : a1 < (t354.length : Int) := of_decide_eq_true (by assumption)
     obtain ⟨ad358,A358_0,c358_0,e358,hx358_0,hl358_0,hi358_0⟩ := at_L3 (Kd.S_reads' HO356.out).2.2 a1 p358 q358
     cases e358
     obtain ⟨ce358,hce358,hMe358,hcc358⟩ := Kd.S_get HO356.out [] a1 p358 (by first | exact q358 | exact of_decide_eq_true (by assumption) | (have e_ := (Kd.S_reads' HO356.out).1;omega))
     obtain ⟨ve358_0,rfl,ge358_0⟩ := hMe358
     have hv358_0 := hcc358 0 _ rfl
     rw [Nat.add_zero,show ((Kd.slice 3 (Kd.int .i64))).sz = 1 from rfl,Nat.mul_one] at hv358_0
     replace hv358_0 := Option.some.inj (hv358_0.symm.trans hx358_0)
     rw [hv358_0] at ge358_0
     have HL358_0 := am (show Kd.R (Kd.int .i64) 3 _ _ _ _ (rd_L3 t354 a1) from ge358_0)
     clear hv358_0 ge358_0
     clear hcc358 hce358
     have HR358_0 := am hi358_0
     have HC358_0 := am hl358_0
     clear hi358_0 hl358_0
     replace p358 := eq_true p358
     replace q358 := eq_true q358
     refine start_ (n := 11) (S := fun w' => w'.cell? ⟨gb357,0,none⟩ = some (.slice A0_0 l0_0.length c0_0) ∧ w'.cell? ⟨gb357,1,none⟩ = some (.int .i64 t351) ∧ w'.cell? ⟨gb357,2,none⟩ = some (.slice A0_2 l0_2.length c0_2) ∧ w'.cell? ⟨gb357,3,none⟩ = some (.int .i64 t352) ∧ w'.cell? ⟨gb357,4,none⟩ = some (.int .i64 t353) ∧ w'.cell? ⟨gb357,5,none⟩ = some (.slice (some ad358) t354.length co22) ∧ w'.cell? (ad358.add (a1).toNat) = some (.slice A358_0 (rd_L3 t354 a1).length c358_0)) (ds := []) (ba 11 0) (by kernel_rfl) rfl rfl ⟨(blk_cell BK357.out 0).trans rfl,(blk_cell BK357.out 1).trans rfl,(blk_cell BK357.out 2).trans rfl,(blk_cell BK357.out 3).trans rfl,(blk_cell BK357.out 4).trans rfl,(blk_cell BK357.out 5).trans rfl,hx358_0⟩ (fun hHeld => ?_);refine with_tabW ca_Out.tab4 ca_Out.bits4 (fun HT_ HW_ => ?_)
     generalize w23.drew = w24 at HO356 BK336 BK357 HB HL358_0 HR358_0 hx358_0 hHeld ⊢
     refine pure_ (i := 0) (N := some 18) (v := ?_) (a' := ?_) (ba 11 1) rfl rfl (any_of HT_.out (by kernel_rfl)) (fun _ _ _ h => h) (Or.inl ⟨by rfl,?_⟩) ?_ ?_
     rotate_left
     · intro w'
       go_simp
       with_reducible rfl
     rotate_left
     · simp only [Act.put,NRM]
       rfl
     refine pure_ (i := 2) (N := some 20) (v := ?_) (a' := ?_) (ba 11 5) rfl rfl (any_of HT_.out (by kernel_rfl)) (fun _ _ _ h => h) (Or.inl ⟨by rfl,?_⟩) ?_ ?_
     rotate_left
     · intro w'
       go_simp
       with_reducible rfl
     rotate_left
     · simp only [Act.put,NRM]
       rfl
     refine pure_ (i := 6) (N := some 24) (v := ?_) (a' := ?_) (ba 11 69) rfl rfl (any_of HT_.out (by kernel_rfl)) (fun _ _ _ h => h) (Or.inl ⟨by rfl,?_⟩) ?_ ?_
     rotate_left
     · intro w'
       go_simp
       with_reducible rfl
     rotate_left
     · simp only [Act.put,NRM]
       rfl
     refine take_ (i := 1) (N := some 19) (v := ?_) (a' := ?_) (ba 11 71) rfl rfl (take_ofW HT_.out HW_.out (by kernel_rfl)) (fun _ _ _ h => h) (Or.inl ⟨by rfl,?_⟩) hHeld ?_ ?_
     rotate_left
     · rintro w' ⟨s0,s1,s2,s3,s4,s5,s6⟩
       go_simp
       with_reducible rfl
     rotate_left
     · simp only [Act.put,NRM]
       rfl
     refine pure_ (i := 3) (N := some 21) (v := ?_) (a' := ?_) (ba 11 79) rfl rfl (any_of HT_.out (by kernel_rfl)) (fun _ _ _ h => h) (Or.inl ⟨by rfl,?_⟩) ?_ ?_
     rotate_left
     · intro w'
       go_simp
       with_reducible rfl
     rotate_left
     · simp only [Act.put,NRM]
       rfl
     refine take_ (i := 4) (N := some 22) (v := ?_) (a' := ?_) (ba 11 95) rfl rfl (take_ofW HT_.out HW_.out (by kernel_rfl)) (fun _ _ _ h => h) (Or.inl ⟨by rfl,?_⟩) hHeld ?_ ?_
     rotate_left
     · rintro w' ⟨s0,s1,s2,s3,s4,s5,s6⟩
       go_simp
       with_reducible rfl
     rotate_left
     · simp only [Act.put,NRM]
       rfl
     refine take_ (i := 5) (N := some 23) (v := ?_) (a' := ?_) (ba 11 127) rfl rfl (take_ofW HT_.out HW_.out (by kernel_rfl)) (fun _ _ _ h => h) (Or.inl ⟨by rfl,?_⟩) hHeld ?_ ?_
     rotate_left
     · rintro w' ⟨s0,s1,s2,s3,s4,s5,s6⟩
       go_simp
       with_reducible rfl
     rotate_left
     · simp only [Act.put,NRM]
       rfl
     refine one_ (i := 7) (N := some 25) (ba 11 255) rfl rfl (one_of HT_.out (by kernel_rfl)) (by decide) (fun K hK => ?_)
     refine goes_ Tryz.func87 (by kernel_rfl) rfl #[.agg #[.slice A0_0 l0_0.length c0_0,.int .i64 t351,.slice A0_2 l0_2.length c0_2,.int .i64 t352,.int .i64 t353,.slice (some ad358) t354.length co22],.int .i64 a1] (by rfl) rfl rfl (by (try simp only [List.map_toArray,List.map_cons,List.map_nil]);first | done | rfl | (simp only [List.length_drop,List.length_take];rfl)) ?_
     with_reducible refine (gf_weir.calls _ _ l0_0 t351 _ _ l0_2 t352 t353 _ _ t354 a1 t359 _ ?side1 ?side2 ?side3 ?side4 ?side5 ?side6 A16.out).mono ?_
     (case side1 => exact kC HR0_0.out HB.out)
     (case side2 => exact HC0_0.out)
     (case side3 => exact kC HR0_2.out HB.out)
     (case side4 => exact HC0_2.out)
     (case side5 => repeat (first | exact (Kd.S_reads' HO356.out).2.2 | (with_reducible refine Kd.C_alloc ?_ _) | (with_reducible refine Kd.C_drewN ?_ _) | (with_reducible refine Kd.C_drew ?_)))
     (case side6 => exact (Kd.S_reads' HO356.out).2.1)
     rintro e w25 ⟨rfl,hb⟩
     have HS6_ := (hb.cell (World.block_lt_of_cell? _ _ (hHeld.2.2.2.2.2.2))).trans (hHeld.2.2.2.2.2.2)
     refine ⟨_,rfl,?_⟩
     replace HO356 := am (Kd.S_below HO356.out hb)
     replace HL358_0 := am (Kd.R_below HL358_0.out hb)
     replace BK336 := (kmv hb BK336)
     replace BK357 := (kmv hb BK357)
     replace HR358_0 := am (kC (by repeat (first | (with_reducible exact HR358_0.out) | (with_reducible refine Kd.C_alloc ?_ _) | (with_reducible refine Kd.C_drewN ?_ _) | (with_reducible refine Kd.C_drew ?_) | exact HR358_0.out)) hb)
     replace HB := am (below_step (HB.out) hb)
     (try clear hb)
     (try clear hb2)
     (try clear hk)
     (try clear hi)
     refine hK.out _ _ ⟨(blk_cell BK357.out 0).trans rfl,(blk_cell BK357.out 1).trans rfl,(blk_cell BK357.out 2).trans rfl,(blk_cell BK357.out 3).trans rfl,(blk_cell BK357.out 4).trans rfl,(blk_cell BK357.out 5).trans rfl,HS6_⟩ (fun hHeld => ?_)
     clear hK K
     refine norm_ (a' := ?_) ?_ ?_
     rotate_left
     · show Act.put _ (some 25) _ = _
       simp only [Act.put,NRM]
       rfl
     refine pure_ (i := 8) (N := some 4) (v := ?_) (a' := ?_) (ba 11 511) rfl rfl (any_of HT_.out (by kernel_rfl)) (fun _ _ _ h => h) (Or.inl ⟨by rfl,?_⟩) ?_ ?_
     rotate_left
     · intro w'
       go_simp
       with_reducible rfl
     rotate_left
     · simp only [Act.put,NRM]
       rfl
     refine pure_ (i := 9) (N := some 5) (v := ?_) (a' := ?_) (ba 11 1023) rfl rfl (any_of HT_.out (by kernel_rfl)) (fun _ _ _ h => h) (Or.inl ⟨by rfl,?_⟩) ?_ ?_
     rotate_left
     · intro w'
       go_simp
       with_reducible rfl
     rotate_left
     · simp only [Act.put,NRM]
       rfl
     refine pure_ (i := 10) (N := some 6) (v := ?_) (a' := ?_) (ba 11 2047) rfl rfl (any_of HT_.out (by kernel_rfl)) (fun _ _ _ h => h) (Or.inl ⟨by rfl,?_⟩) ?_ ?_
     rotate_left
     · intro w'
       go_simp
       with_reducible rfl
     rotate_left
     · simp only [Act.put,NRM]
       rfl
     refine done_ (done_of HT_.out (by kernel_rfl)) ?_
     try go_wp2
     go_ret3
     exact ⟨_,by first | rfl | (simp [*] <;> rfl),by (with_reducible repeat (first | apply Kd.R_alloc | apply Kd.R_drewN | apply Kd.R_drew));exact Kd.R_mono HL358_0.out (fun _ hk => trivial),HB.out⟩
def ca_Check.f (l0_0 : List (S126)) (a0_1 : Int) (l0_2 : List (S48)) (a0_3 : Int) (a0_4 : Int) : Option (Int) := (ca_isBasin.f l0_0 a0_1 l0_2 a0_3 a0_4).bind fun t862 => (if t862 = true then (some 0) else (some 2))
theorem ca_Check.calls (A0_0 : Option Addr) (c0_0 : Nat) (l0_0 : List (S126)) (a0_1 : Int) (A0_2 : Option Addr) (c0_2 : Nat) (l0_2 : List (S48)) (a0_3 : Int) (a0_4 : Int) (r : Int) (w : World) (hr0_0 : Kd.C k126 w A0_0 l0_0.length l0_0) (hc0_0 : l0_0.length ≤ c0_0) (hr0_2 : Kd.C k48 w A0_2 l0_2.length l0_2) (hc0_2 : l0_2.length ≤ c0_2) (h : ca_Check.f l0_0 a0_1 l0_2 a0_3 a0_4 = some r) :
 Calls Tryz.prog 43 #[.agg #[.slice A0_0 l0_0.length c0_0,.int .i64 a0_1,.slice A0_2 l0_2.length c0_2,.int .i64 a0_3,.int .i64 a0_4]] w fun e w' => e = .returned (.int .i64 r) ∧ Below w.heap.size w w' := by
 have hu27 := Tryz.underlying27
 have HR0_0 := am hr0_0
 have HC0_0 := am hc0_0
 clear hr0_0 hc0_0
 have HR0_2 := am hr0_2
 have HC0_2 := am hc0_2
 clear hr0_2 hc0_2
 have HB := am (Below.refl w.heap.size w)
 have H : ((ca_isBasin.f l0_0 a0_1 l0_2 a0_3 a0_4).bind fun t862 => (if t862 = true then (some 0) else (some 2))) = some r := h
 clear h
 replace H := obm H
 obtain ⟨t862,A20,H⟩ := H
 replace H : (if t862 = true then (some 0) else (some 2)) = some r := H
 have A2 := am A20
 clear A20
 by_cases c3 : t862 = true
 · subst c3
   replace H : (some 0) = some r := by rw [if_pos rfl] at H;exact H
   obtain rfl := Option.some.inj H
   go_enter Tryz.func43,Tryz.ntmps43
   go_wp2_with (first | ((refine gate_dst (N := 1) rfl ?_);refine box_event rfl (N := 1) rfl (cs := #[.slice A0_0 l0_0.length c0_0,.int .i64 a0_1,.slice A0_2 l0_2.length c0_2,.int .i64 a0_3,.int .i64 a0_4]) (t := 27) ?hr ?_;(case hr => go_simp;try rfl);intro gb861 hg w4 hbox hb;have BK861 := am (hbox);have GW861 := am (ge_new (HB.out) hg);have GE861 := am (ge_new (HB.out) hg);replace HB := am (below_step (HB.out) hb);clear hb hbox hg;obtain ⟨hcz5_0,hcz5_1,hcz5_2,hcz5_3,hcz5_4⟩ := cO5 BK861.out) | ((with_reducible refine gate_callee (f := 64) rfl ?_);refine goesL_ (some 4) rfl rfl Tryz.func64 (by kernel_rfl) rfl #[.agg #[.slice A0_0 l0_0.length c0_0,.int .i64 a0_1,.slice A0_2 l0_2.length c0_2,.int .i64 a0_3,.int .i64 a0_4]] rfl (by (try simp only [List.map_toArray,List.map_cons,List.map_nil]);first | done | rfl | (simp only [List.length_drop,List.length_take];rfl)) ?_;(with_reducible refine (ca_isBasin.calls _ _ l0_0 a0_1 _ _ l0_2 a0_3 a0_4 true _ ?side1 ?side2 ?side3 ?side4 A2.out).mono ?_);(case side1 => exact kC HR0_0.out HB.out);(case side2 => exact HC0_0.out);(case side3 => exact kC HR0_2.out HB.out);(case side4 => exact HC0_2.out);rintro e w6 ⟨rfl,hb⟩;refine ⟨_,rfl,?_⟩;replace BK861 := (kmv hb BK861);replace HB := am (below_step (HB.out) hb);(try clear hb);(try clear hb2);(try clear hk);(try clear hi)))
   go_ret
   exact ⟨by first | rfl | (simp [*] <;> rfl),HB.out⟩
 · replace c3 := Bool.eq_false_iff.mpr c3
   subst c3
   replace H : (some 2) = some r := by rw [if_neg (show ¬ (false = true) by decide)] at H;exact H
   obtain rfl := Option.some.inj H
   go_enter Tryz.func43,Tryz.ntmps43
   go_wp2_with (first | ((refine gate_dst (N := 1) rfl ?_);refine box_event rfl (N := 1) rfl (cs := #[.slice A0_0 l0_0.length c0_0,.int .i64 a0_1,.slice A0_2 l0_2.length c0_2,.int .i64 a0_3,.int .i64 a0_4]) (t := 27) ?hr ?_;(case hr => go_simp;try rfl);intro gb861 hg w7 hbox hb;have BK861 := am (hbox);have GW861 := am (ge_new (HB.out) hg);have GE861 := am (ge_new (HB.out) hg);replace HB := am (below_step (HB.out) hb);clear hb hbox hg;obtain ⟨hcz8_0,hcz8_1,hcz8_2,hcz8_3,hcz8_4⟩ := cO5 BK861.out) | ((with_reducible refine gate_callee (f := 64) rfl ?_);refine goesL_ (some 4) rfl rfl Tryz.func64 (by kernel_rfl) rfl #[.agg #[.slice A0_0 l0_0.length c0_0,.int .i64 a0_1,.slice A0_2 l0_2.length c0_2,.int .i64 a0_3,.int .i64 a0_4]] rfl (by (try simp only [List.map_toArray,List.map_cons,List.map_nil]);first | done | rfl | (simp only [List.length_drop,List.length_take];rfl)) ?_;(with_reducible refine (ca_isBasin.calls _ _ l0_0 a0_1 _ _ l0_2 a0_3 a0_4 false _ ?side1 ?side2 ?side3 ?side4 A2.out).mono ?_);(case side1 => exact kC HR0_0.out HB.out);(case side2 => exact HC0_0.out);(case side3 => exact kC HR0_2.out HB.out);(case side4 => exact HC0_2.out);rintro e w9 ⟨rfl,hb⟩;refine ⟨_,rfl,?_⟩;replace BK861 := (kmv hb BK861);replace HB := am (below_step (HB.out) hb);(try clear hb);(try clear hb2);(try clear hk);(try clear hi)))
   go_ret
   exact ⟨by first | rfl | (simp [*] <;> rfl),HB.out⟩
mutual
def l4_CastleOuts.j0 : Nat → Int → List Int → Int → Int → Bool → List (S126) → Int → List (S48) → Int → Int → Option (Bool)
 | 0,_,_,_,_,_,_,_,_,_,_ => none
 | k + 1,x1,x6,x7,x8,x39,x864000,x864001,x864002,x864003,x864004 => if x39 = true then (none) else ((q4_Basin.f k x864000 x864001 x864002 x864003 x864004).bind fun t873 => (if t873 = true then ((q4_Height.f x1).bind fun t874 => (l4_CastleOuts.j1 k x1 x6 x7 x8 (!t874) x864000 x864001 x864002 x864003 x864004)) else (l4_CastleOuts.j1 k x1 x6 x7 x8 true x864000 x864001 x864002 x864003 x864004)))
def l4_CastleOuts.j1 : Nat → Int → List Int → Int → Int → Bool → List (S126) → Int → List (S48) → Int → Int → Option (Bool)
 | 0,_,_,_,_,_,_,_,_,_,_ => none
 | k + 1,x1,x6,x7,x8,x47,x864000,x864001,x864002,x864003,x864004 => if x47 = true then (if x8 = 2 then (if (x6.length : Int) = 0 then (if x7 = 0 then ((l4_known.f).bind fun t875 => (some t875)) else (none)) else (none)) else (none)) else ((q4_Out.f k x864000 x864001 x864002 x864003 x864004 x1).bind fun bt876 => (if x8 = 0 then ((q4_Same.f k x6 bt876.1).bind fun t880 => (if t880 = true then (if x7 = bt876.2 then ((l4_known.f).bind fun t881 => (some t881)) else (none)) else (none))) else (none)))
end
def l4_CastleOuts.f (k : Nat) (l0_0 : List (S126)) (a0_1 : Int) (l0_2 : List (S48)) (a0_3 : Int) (a0_4 : Int) (a1 : Int) : Option (Bool) := (l4_short.f l0_0 a0_1 l0_2 a0_3 a0_4).bind fun t864 => (if t864 = true then ((ca_Check.f l0_0 a0_1 l0_2 a0_3 a0_4).bind fun t866 => ((ca_Out.f k l0_0 a0_1 l0_2 a0_3 a0_4 a1).bind fun bt867 => ((q4_Basin.f k l0_0 a0_1 l0_2 a0_3 a0_4).bind fun t872 => (if t872 = true then (if t866 = 0 then (l4_CastleOuts.j0 k a1 bt867.1 bt867.2.1 bt867.2.2 false l0_0 a0_1 l0_2 a0_3 a0_4) else (l4_CastleOuts.j0 k a1 bt867.1 bt867.2.1 bt867.2.2 true l0_0 a0_1 l0_2 a0_3 a0_4)) else (l4_CastleOuts.j0 k a1 bt867.1 bt867.2.1 bt867.2.2 (t866 != 2) l0_0 a0_1 l0_2 a0_3 a0_4))))) else ((l4_known.f).bind fun t865 => (some t865)))
theorem l4_CastleOuts.j0_dead {k_ : Nat} {y0_} {y1_} {y2_} {y3_} {y5_} {y6_} {y7_} {y8_} {y9_} {r_ : Bool} : l4_CastleOuts.j0 k_ y0_ y1_ y2_ y3_ true y5_ y6_ y7_ y8_ y9_ ≠ some r_ := by cases k_ <;> simp [l4_CastleOuts.j0]
theorem l4_CastleOuts.calls (k : Nat) (A0_0 : Option Addr) (c0_0 : Nat) (l0_0 : List (S126)) (a0_1 : Int) (A0_2 : Option Addr) (c0_2 : Nat) (l0_2 : List (S48)) (a0_3 : Int) (a0_4 : Int) (a1 : Int) (r : Bool) (w : World) (hr0_0 : Kd.C k126 w A0_0 l0_0.length l0_0) (hc0_0 : l0_0.length ≤ c0_0) (hr0_2 : Kd.C k48 w A0_2 l0_2.length l0_2) (hc0_2 : l0_2.length ≤ c0_2) (h : l4_CastleOuts.f k l0_0 a0_1 l0_2 a0_3 a0_4 a1 = some r) :
 Calls Tryz.prog 9 #[.agg #[.slice A0_0 l0_0.length c0_0,.int .i64 a0_1,.slice A0_2 l0_2.length c0_2,.int .i64 a0_3,.int .i64 a0_4],.int .i64 a1] w fun e w' => e = .returned (.bool r) ∧ Below w.heap.size w w' := by
 have hu27 := Tryz.underlying27
 have HR0_0 := am hr0_0
 have HC0_0 := am hc0_0
 clear hr0_0 hc0_0
 have HR0_2 := am hr0_2
 have HC0_2 := am hc0_2
 clear hr0_2 hc0_2
 have HB := am (Below.refl w.heap.size w)
 have H : ((l4_short.f l0_0 a0_1 l0_2 a0_3 a0_4).bind fun t864 => (if t864 = true then ((ca_Check.f l0_0 a0_1 l0_2 a0_3 a0_4).bind fun t866 => ((ca_Out.f k l0_0 a0_1 l0_2 a0_3 a0_4 a1).bind fun bt867 => ((q4_Basin.f k l0_0 a0_1 l0_2 a0_3 a0_4).bind fun t872 => (if t872 = true then (if t866 = 0 then (l4_CastleOuts.j0 k a1 bt867.1 bt867.2.1 bt867.2.2 false l0_0 a0_1 l0_2 a0_3 a0_4) else (l4_CastleOuts.j0 k a1 bt867.1 bt867.2.1 bt867.2.2 true l0_0 a0_1 l0_2 a0_3 a0_4)) else (l4_CastleOuts.j0 k a1 bt867.1 bt867.2.1 bt867.2.2 (t866 != 2) l0_0 a0_1 l0_2 a0_3 a0_4))))) else ((l4_known.f).bind fun t865 => (some t865)))) = some r := h
 clear h
 replace H := obm H
 obtain ⟨t864,A30,H⟩ := H
 replace H : (if t864 = true then ((ca_Check.f l0_0 a0_1 l0_2 a0_3 a0_4).bind fun t866 => ((ca_Out.f k l0_0 a0_1 l0_2 a0_3 a0_4 a1).bind fun bt867 => ((q4_Basin.f k l0_0 a0_1 l0_2 a0_3 a0_4).bind fun t872 => (if t872 = true then (if t866 = 0 then (l4_CastleOuts.j0 k a1 bt867.1 bt867.2.1 bt867.2.2 false l0_0 a0_1 l0_2 a0_3 a0_4) else (l4_CastleOuts.j0 k a1 bt867.1 bt867.2.1 bt867.2.2 true l0_0 a0_1 l0_2 a0_3 a0_4)) else (l4_CastleOuts.j0 k a1 bt867.1 bt867.2.1 bt867.2.2 (t866 != 2) l0_0 a0_1 l0_2 a0_3 a0_4))))) else ((l4_known.f).bind fun t865 => (some t865))) = some r := H
 have A3 := am A30
 clear A30
 by_cases c4 : t864 = true
 case neg =>
  replace c4 := Bool.eq_false_iff.mpr c4
  subst c4
  replace H : ((l4_known.f).bind fun t865 => (some t865)) = some r := by rw [if_neg (show ¬ (false = true) by decide)] at H;exact H
  replace H := obm H
  obtain ⟨t865,A470,H⟩ := H
  replace H : (some t865) = some r := H
  have A47 := am A470
  clear A470
  obtain rfl := Option.some.inj H
  go_enter Tryz.func9,Tryz.ntmps9
  go_wp2_with (first | ((refine gate_dst (N := 2) rfl ?_);(try (refine gate_guard (by rfl) ?_;dsimp only));refine box_event rfl (N := 2) rfl (cs := #[.slice A0_0 l0_0.length c0_0,.int .i64 a0_1,.slice A0_2 l0_2.length c0_2,.int .i64 a0_3,.int .i64 a0_4]) (t := 27) ?hr ?_;(case hr => go_simp;try rfl);intro gb863 hg w48 hbox hb;have BK863 := am (hbox);have GW863 := am (ge_new (HB.out) hg);have GE863 := am (ge_new (HB.out) hg);replace HB := am (below_step (HB.out) hb);clear hb hbox hg;obtain ⟨hcz49_0,hcz49_1,hcz49_2,hcz49_3,hcz49_4⟩ := cO5 BK863.out) | ((with_reducible refine gate_callee (f := 14) rfl ?_);refine goesL_ (some 13) rfl rfl Tryz.func14 (by kernel_rfl) rfl #[.agg #[.slice A0_0 l0_0.length c0_0,.int .i64 a0_1,.slice A0_2 l0_2.length c0_2,.int .i64 a0_3,.int .i64 a0_4]] rfl (by (try simp only [List.map_toArray,List.map_cons,List.map_nil]);first | done | rfl | (simp only [List.length_drop,List.length_take];rfl)) ?_;(with_reducible refine (l4_short.calls _ _ l0_0 a0_1 _ _ l0_2 a0_3 a0_4 false _ ?side1 ?side2 ?side3 ?side4 A3.out).mono ?_);(case side1 => exact kC HR0_0.out HB.out);(case side2 => exact HC0_0.out);(case side3 => exact kC HR0_2.out HB.out);(case side4 => exact HC0_2.out);rintro e w50 ⟨rfl,hb⟩;refine ⟨_,rfl,?_⟩;replace BK863 := am (blk_below (g := gb863) (o := .cells #[.slice A0_0 l0_0.length c0_0,.int .i64 a0_1,.slice A0_2 l0_2.length c0_2,.int .i64 a0_3,.int .i64 a0_4] 27 (0,0)) (by (with_reducible repeat (first | refine blk_drewN ?_ _ | refine blk_drew ?_ | refine blk_alloc ?_ _));exact BK863.out) hb);replace HB := am (below_step (HB.out) hb);(try clear hb);(try clear hb2);(try clear hk);(try clear hi)) | ((with_reducible refine gate_callee (f := 19) rfl ?_);refine goesL_ (some 15) rfl rfl Tryz.func19 (by kernel_rfl) rfl #[] rfl (by (try simp only [List.map_toArray,List.map_cons,List.map_nil]);first | done | rfl | (simp only [List.length_drop,List.length_take];rfl)) ?_;(with_reducible refine (l4_known.calls  t865 _ A47.out).mono ?_);rintro e w51 ⟨rfl,hb⟩;refine ⟨_,rfl,?_⟩;replace BK863 := am (blk_below (g := gb863) (o := .cells #[.slice A0_0 l0_0.length c0_0,.int .i64 a0_1,.slice A0_2 l0_2.length c0_2,.int .i64 a0_3,.int .i64 a0_4] 27 (0,0)) (by (with_reducible repeat (first | refine blk_drewN ?_ _ | refine blk_drew ?_ | refine blk_alloc ?_ _));exact BK863.out) hb);replace HB := am (below_step (HB.out) hb);(try clear hb);(try clear hb2);(try clear hk);(try clear hi)))
  go_ret
  exact ⟨by first | rfl | (simp [*] <;> rfl),HB.out⟩
 subst c4
 replace H : ((ca_Check.f l0_0 a0_1 l0_2 a0_3 a0_4).bind fun t866 => ((ca_Out.f k l0_0 a0_1 l0_2 a0_3 a0_4 a1).bind fun bt867 => ((q4_Basin.f k l0_0 a0_1 l0_2 a0_3 a0_4).bind fun t872 => (if t872 = true then (if t866 = 0 then (l4_CastleOuts.j0 k a1 bt867.1 bt867.2.1 bt867.2.2 false l0_0 a0_1 l0_2 a0_3 a0_4) else (l4_CastleOuts.j0 k a1 bt867.1 bt867.2.1 bt867.2.2 true l0_0 a0_1 l0_2 a0_3 a0_4)) else (l4_CastleOuts.j0 k a1 bt867.1 bt867.2.1 bt867.2.2 (t866 != 2) l0_0 a0_1 l0_2 a0_3 a0_4))))) = some r := by rw [if_pos rfl] at H;exact H
 replace H := obm H
 obtain ⟨t866,A50,H⟩ := H
 replace H : ((ca_Out.f k l0_0 a0_1 l0_2 a0_3 a0_4 a1).bind fun bt867 => ((q4_Basin.f k l0_0 a0_1 l0_2 a0_3 a0_4).bind fun t872 => (if t872 = true then (if t866 = 0 then (l4_CastleOuts.j0 k a1 bt867.1 bt867.2.1 bt867.2.2 false l0_0 a0_1 l0_2 a0_3 a0_4) else (l4_CastleOuts.j0 k a1 bt867.1 bt867.2.1 bt867.2.2 true l0_0 a0_1 l0_2 a0_3 a0_4)) else (l4_CastleOuts.j0 k a1 bt867.1 bt867.2.1 bt867.2.2 (t866 != 2) l0_0 a0_1 l0_2 a0_3 a0_4)))) = some r := H
 have A5 := am A50
 clear A50
 replace H := obm H
 obtain ⟨⟨t867,t870,t871⟩,A60,H⟩ := H
 replace H : ((q4_Basin.f k l0_0 a0_1 l0_2 a0_3 a0_4).bind fun t872 => (if t872 = true then (if t866 = 0 then (l4_CastleOuts.j0 k a1 t867 t870 t871 false l0_0 a0_1 l0_2 a0_3 a0_4) else (l4_CastleOuts.j0 k a1 t867 t870 t871 true l0_0 a0_1 l0_2 a0_3 a0_4)) else (l4_CastleOuts.j0 k a1 t867 t870 t871 (t866 != 2) l0_0 a0_1 l0_2 a0_3 a0_4))) = some r := H
 have A6 := am A60
 clear A60
 replace H := obm H
 obtain ⟨t872,A70,H⟩ := H
 replace H : (if t872 = true then (if t866 = 0 then (l4_CastleOuts.j0 k a1 t867 t870 t871 false l0_0 a0_1 l0_2 a0_3 a0_4) else (l4_CastleOuts.j0 k a1 t867 t870 t871 true l0_0 a0_1 l0_2 a0_3 a0_4)) else (l4_CastleOuts.j0 k a1 t867 t870 t871 (t866 != 2) l0_0 a0_1 l0_2 a0_3 a0_4)) = some r := H
 have A7 := am A70
 clear A70
 have HC8 := am H
 clear H
 go_enter Tryz.func9,Tryz.ntmps9
 go_upto_region 6 with (first | ((refine gate_dst (N := 2) rfl ?_);(try (refine gate_guard (by rfl) ?_;dsimp only));refine box_event rfl (N := 2) rfl (cs := #[.slice A0_0 l0_0.length c0_0,.int .i64 a0_1,.slice A0_2 l0_2.length c0_2,.int .i64 a0_3,.int .i64 a0_4]) (t := 27) ?hr ?_;(case hr => go_simp;try rfl);intro gb863 hg w9 hbox hb;have BK863 := am (hbox);have GW863 := am (ge_new (HB.out) hg);have GE863 := am (ge_new (HB.out) hg);replace HB := am (below_step (HB.out) hb);clear hb hbox hg;obtain ⟨hcz10_0,hcz10_1,hcz10_2,hcz10_3,hcz10_4⟩ := cO5 BK863.out) | ((with_reducible refine gate_callee (f := 14) rfl ?_);refine goesL_ (some 13) rfl rfl Tryz.func14 (by kernel_rfl) rfl #[.agg #[.slice A0_0 l0_0.length c0_0,.int .i64 a0_1,.slice A0_2 l0_2.length c0_2,.int .i64 a0_3,.int .i64 a0_4]] rfl (by (try simp only [List.map_toArray,List.map_cons,List.map_nil]);first | done | rfl | (simp only [List.length_drop,List.length_take];rfl)) ?_;(with_reducible refine (l4_short.calls _ _ l0_0 a0_1 _ _ l0_2 a0_3 a0_4 true _ ?side1 ?side2 ?side3 ?side4 A3.out).mono ?_);(case side1 => exact kC HR0_0.out HB.out);(case side2 => exact HC0_0.out);(case side3 => exact kC HR0_2.out HB.out);(case side4 => exact HC0_2.out);rintro e w11 ⟨rfl,hb⟩;refine ⟨_,rfl,?_⟩;replace BK863 := am (blk_below (g := gb863) (o := .cells #[.slice A0_0 l0_0.length c0_0,.int .i64 a0_1,.slice A0_2 l0_2.length c0_2,.int .i64 a0_3,.int .i64 a0_4] 27 (0,0)) (by (with_reducible repeat (first | refine blk_drewN ?_ _ | refine blk_drew ?_ | refine blk_alloc ?_ _));exact BK863.out) hb);replace HB := am (below_step (HB.out) hb);(try clear hb);(try clear hb2);(try clear hk);(try clear hi);obtain ⟨hcz12_0,hcz12_1,hcz12_2,hcz12_3,hcz12_4⟩ := cO5 BK863.out) | ((with_reducible refine gate_callee (f := 43) rfl ?_);refine goesL_ (some 17) rfl rfl Tryz.func43 (by kernel_rfl) rfl #[.agg #[.slice A0_0 l0_0.length c0_0,.int .i64 a0_1,.slice A0_2 l0_2.length c0_2,.int .i64 a0_3,.int .i64 a0_4]] rfl (by (try simp only [List.map_toArray,List.map_cons,List.map_nil]);first | done | rfl | (simp only [List.length_drop,List.length_take];rfl)) ?_;(with_reducible refine (ca_Check.calls _ _ l0_0 a0_1 _ _ l0_2 a0_3 a0_4 t866 _ ?side1 ?side2 ?side3 ?side4 A5.out).mono ?_);(case side1 => exact kC HR0_0.out HB.out);(case side2 => exact HC0_0.out);(case side3 => exact kC HR0_2.out HB.out);(case side4 => exact HC0_2.out);rintro e w13 ⟨rfl,hb⟩;refine ⟨_,rfl,?_⟩;replace BK863 := am (blk_below (g := gb863) (o := .cells #[.slice A0_0 l0_0.length c0_0,.int .i64 a0_1,.slice A0_2 l0_2.length c0_2,.int .i64 a0_3,.int .i64 a0_4] 27 (0,0)) (by (with_reducible repeat (first | refine blk_drewN ?_ _ | refine blk_drew ?_ | refine blk_alloc ?_ _));exact BK863.out) hb);replace HB := am (below_step (HB.out) hb);(try clear hb);(try clear hb2);(try clear hk);(try clear hi);obtain ⟨hcz14_0,hcz14_1,hcz14_2,hcz14_3,hcz14_4⟩ := cO5 BK863.out) | ((with_reducible refine gate_callee (f := 42) rfl ?_);refine goesL_ (some 21) rfl rfl Tryz.func42 (by kernel_rfl) rfl #[.agg #[.slice A0_0 l0_0.length c0_0,.int .i64 a0_1,.slice A0_2 l0_2.length c0_2,.int .i64 a0_3,.int .i64 a0_4],.int .i64 a1] rfl (by (try simp only [List.map_toArray,List.map_cons,List.map_nil]);first | done | rfl | (simp only [List.length_drop,List.length_take];rfl)) ?_;(with_reducible refine (ca_Out.calls k _ _ l0_0 a0_1 _ _ l0_2 a0_3 a0_4 a1 t867 t870 t871 _ ?side1 ?side2 ?side3 ?side4 A6.out).mono ?_);(case side1 => exact kC HR0_0.out HB.out);(case side2 => exact HC0_0.out);(case side3 => exact kC HR0_2.out HB.out);(case side4 => exact HC0_2.out);rintro e w15 ⟨v868,rfl,ho0,hb⟩;refine ⟨_,rfl,?_⟩;have HO869 := am (Kd.R_lower ho0 (below_size (HB.out)));replace BK863 := am (blk_below (g := gb863) (o := .cells #[.slice A0_0 l0_0.length c0_0,.int .i64 a0_1,.slice A0_2 l0_2.length c0_2,.int .i64 a0_3,.int .i64 a0_4] 27 (0,0)) (by (with_reducible repeat (first | refine blk_drewN ?_ _ | refine blk_drew ?_ | refine blk_alloc ?_ _));exact BK863.out) hb);replace HB := am (below_step (HB.out) hb);(try clear hb);(try clear hb2);(try clear hk);(try clear hi);(try clear ho0);obtain ⟨hcz16_0,hcz16_1,hcz16_2,hcz16_3,hcz16_4⟩ := cO5 BK863.out) | ((with_reducible refine gate_callee (f := 15) rfl ?_);refine goesL_ (some 26) rfl rfl Tryz.func15 (by kernel_rfl) rfl #[.agg #[.slice A0_0 l0_0.length c0_0,.int .i64 a0_1,.slice A0_2 l0_2.length c0_2,.int .i64 a0_3,.int .i64 a0_4]] rfl (by (try simp only [List.map_toArray,List.map_cons,List.map_nil]);first | done | rfl | (simp only [List.length_drop,List.length_take];rfl)) ?_;(with_reducible refine (q4_Basin.calls k _ _ l0_0 a0_1 _ _ l0_2 a0_3 a0_4 t872 _ ?side1 ?side2 ?side3 ?side4 A7.out).mono ?_);(case side1 => exact kC HR0_0.out HB.out);(case side2 => exact HC0_0.out);(case side3 => exact kC HR0_2.out HB.out);(case side4 => exact HC0_2.out);rintro e w17 ⟨rfl,hb⟩;refine ⟨_,rfl,?_⟩;replace HO869 := am (Kd.R_below (by (with_reducible repeat (first | apply Kd.R_alloc | apply Kd.R_drewN | apply Kd.R_drew));exact HO869.out) hb);replace BK863 := am (blk_below (g := gb863) (o := .cells #[.slice A0_0 l0_0.length c0_0,.int .i64 a0_1,.slice A0_2 l0_2.length c0_2,.int .i64 a0_3,.int .i64 a0_4] 27 (0,0)) (by (with_reducible repeat (first | refine blk_drewN ?_ _ | refine blk_drew ?_ | refine blk_alloc ?_ _));exact BK863.out) hb);replace HB := am (below_step (HB.out) hb);(try clear hb);(try clear hb2);(try clear hk);(try clear hi)))
 (try simp only [Act.put,List.setIfInBounds_toArray,List.set_cons_zero,List.set_cons_succ])
 go_cut [39] (fun v39 wc => ∃ (kq : Nat) (x39_7 : Bool),v39 = .bool x39_7 ∧ Aside0 (l4_CastleOuts.j0 kq a1 t867 t870 t871 x39_7 l0_0 a0_1 l0_2 a0_3 a0_4 = some r) ∧ Aside0 (kq ≤ k) ∧ Aside0 (Kd.R (Kd.int .i64) 3 wc w.heap.size (fun _ => True) v868 t867) ∧ Aside0 (wc.heap[gb863]? = some (.cells #[(.slice A0_0 l0_0.length c0_0),.int .i64 a0_1,(.slice A0_2 l0_2.length c0_2),.int .i64 a0_3,.int .i64 a0_4] 27 (0,0))) ∧ Aside0 (Below w.heap.size w wc))
 case first =>
  have H := HC8.out
  clear HC8
  by_cases c18 : t872 = true
  case neg =>
   replace c18 := Bool.eq_false_iff.mpr c18
   subst c18
   replace H : (l4_CastleOuts.j0 k a1 t867 t870 t871 (t866 != 2) l0_0 a0_1 l0_2 a0_3 a0_4) = some r := by rw [if_neg (show ¬ (false = true) by decide)] at H;exact H
   replace H' := am H
   go_wp2
   go_meet
   case rel => exact ⟨_,((t866 != 2)),(by first | rfl | (simp;done) | (simp [*];done)),H',⟨by first | omega | exact Nat.le_refl _⟩,⟨by (with_reducible repeat (first | apply Kd.R_alloc | apply Kd.R_drewN | apply Kd.R_drew));exact HO869.out⟩,⟨BK863.out⟩,⟨HB.out⟩⟩
  subst c18
  replace H : (if t866 = 0 then (l4_CastleOuts.j0 k a1 t867 t870 t871 false l0_0 a0_1 l0_2 a0_3 a0_4) else (l4_CastleOuts.j0 k a1 t867 t870 t871 true l0_0 a0_1 l0_2 a0_3 a0_4)) = some r := by rw [if_pos rfl] at H;exact H
  by_cases c19 : t866 = 0
  case neg =>
   rw [if_neg c19] at H
   exact absurd H l4_CastleOuts.j0_dead
  rw [if_pos c19] at H
  have c19b0 : (t866 == 0) = true := beq_iff_eq.mpr c19
  have c19b1 : (t866 != 0) = false := bne_eq_false_iff_eq.mpr c19
  clear c19
  (first | rw [c19b0] | (simp only [i64_w,i32_w];rw [c19b0]) | skip)
  replace H' := am H
  go_wp2
  go_meet
  case rel => exact ⟨_,(false),(by first | rfl | (simp;done) | (simp [*];done)),H',⟨by first | omega | exact Nat.le_refl _⟩,⟨by (with_reducible repeat (first | apply Kd.R_alloc | apply Kd.R_drewN | apply Kd.R_drew));exact HO869.out⟩,⟨BK863.out⟩,⟨HB.out⟩⟩
 case rest =>
  clear HC8
  obtain ⟨kq,x39_7,rfl,HA,HJ7,HO_6,BK863,HB⟩ := hcut
  cases kq with
  | zero => exact absurd HA.out (by simp [l4_CastleOuts.j0])
  | succ kj7 =>
   have H := HA.out
   clear HA
   simp only [l4_CastleOuts.j0] at H
   by_cases c20 : x39_7 = true
   · subst c20
     replace H : (none) = some r := by rw [if_pos rfl] at H;exact H
     exact absurd H (by simp)
   · replace c20 := Bool.eq_false_iff.mpr c20
     subst c20
     replace H : ((q4_Basin.f kj7 l0_0 a0_1 l0_2 a0_3 a0_4).bind fun t873 => (if t873 = true then ((q4_Height.f a1).bind fun t874 => (l4_CastleOuts.j1 kj7 a1 t867 t870 t871 (!t874) l0_0 a0_1 l0_2 a0_3 a0_4)) else (l4_CastleOuts.j1 kj7 a1 t867 t870 t871 true l0_0 a0_1 l0_2 a0_3 a0_4))) = some r := by rw [if_neg (show ¬ (false = true) by decide)] at H;exact H
     have HC21 := am H
     clear H
     go_upto_region 8 with (fail)
     go_cut [47] (fun v47 wc => ∃ (kq : Nat) (x47_20 : Bool),v47 = .bool x47_20 ∧ Aside0 (l4_CastleOuts.j1 kq a1 t867 t870 t871 x47_20 l0_0 a0_1 l0_2 a0_3 a0_4 = some r) ∧ Aside0 (kq ≤ kj7) ∧ Aside0 (Kd.R (Kd.int .i64) 3 wc w.heap.size (fun _ => True) v868 t867) ∧ Aside0 (wc.heap[gb863]? = some (.cells #[(.slice A0_0 l0_0.length c0_0),.int .i64 a0_1,(.slice A0_2 l0_2.length c0_2),.int .i64 a0_3,.int .i64 a0_4] 27 (0,0))) ∧ Aside0 (Below w.heap.size w wc))
     case first =>
      have H := HC21.out
      clear HC21
      replace H := obm H
      obtain ⟨t873,A220,H⟩ := H
      replace H : (if t873 = true then ((q4_Height.f a1).bind fun t874 => (l4_CastleOuts.j1 kj7 a1 t867 t870 t871 (!t874) l0_0 a0_1 l0_2 a0_3 a0_4)) else (l4_CastleOuts.j1 kj7 a1 t867 t870 t871 true l0_0 a0_1 l0_2 a0_3 a0_4)) = some r := H
      have A22 := am A220
      clear A220
      by_cases c23 : t873 = true
      case neg =>
       replace c23 := Bool.eq_false_iff.mpr c23
       subst c23
       replace H : (l4_CastleOuts.j1 kj7 a1 t867 t870 t871 true l0_0 a0_1 l0_2 a0_3 a0_4) = some r := by rw [if_neg (show ¬ (false = true) by decide)] at H;exact H
       replace H' := am H
       obtain ⟨hcz27_0,hcz27_1,hcz27_2,hcz27_3,hcz27_4⟩ := cO5 BK863.out
       go_wp2_with (first | ((with_reducible refine gate_callee (f := 15) rfl ?_);refine goesL_ (some 41) rfl rfl Tryz.func15 (by kernel_rfl) rfl #[.agg #[.slice A0_0 l0_0.length c0_0,.int .i64 a0_1,.slice A0_2 l0_2.length c0_2,.int .i64 a0_3,.int .i64 a0_4]] rfl (by (try simp only [List.map_toArray,List.map_cons,List.map_nil]);first | done | rfl | (simp only [List.length_drop,List.length_take];rfl)) ?_;(with_reducible refine (q4_Basin.calls kj7 _ _ l0_0 a0_1 _ _ l0_2 a0_3 a0_4 false _ ?side1 ?side2 ?side3 ?side4 A22.out).mono ?_);(case side1 => exact kC HR0_0.out HB.out);(case side2 => exact HC0_0.out);(case side3 => exact kC HR0_2.out HB.out);(case side4 => exact HC0_2.out);rintro e w28 ⟨rfl,hb⟩;refine ⟨_,rfl,?_⟩;replace HO_6 := am (Kd.R_below (by (with_reducible repeat (first | apply Kd.R_alloc | apply Kd.R_drewN | apply Kd.R_drew));exact HO_6.out) hb);replace BK863 := am (blk_below (g := gb863) (o := .cells #[.slice A0_0 l0_0.length c0_0,.int .i64 a0_1,.slice A0_2 l0_2.length c0_2,.int .i64 a0_3,.int .i64 a0_4] 27 (0,0)) (by (with_reducible repeat (first | refine blk_drewN ?_ _ | refine blk_drew ?_ | refine blk_alloc ?_ _));exact BK863.out) hb);replace HB := am (below_step (HB.out) hb);(try clear hb);(try clear hb2);(try clear hk);(try clear hi)))
       go_meet
       case rel => exact ⟨_,(true),(by first | rfl | (simp;done) | (simp [*];done)),H',⟨by have := HJ7.out;first | omega | exact Nat.le_refl _⟩,⟨by (with_reducible repeat (first | apply Kd.R_alloc | apply Kd.R_drewN | apply Kd.R_drew));exact HO_6.out⟩,⟨BK863.out⟩,⟨HB.out⟩⟩
      subst c23
      replace H : ((q4_Height.f a1).bind fun t874 => (l4_CastleOuts.j1 kj7 a1 t867 t870 t871 (!t874) l0_0 a0_1 l0_2 a0_3 a0_4)) = some r := by rw [if_pos rfl] at H;exact H
      replace H := obm H
      obtain ⟨t874,A240,H⟩ := H
      replace H : (l4_CastleOuts.j1 kj7 a1 t867 t870 t871 (!t874) l0_0 a0_1 l0_2 a0_3 a0_4) = some r := H
      have A24 := am A240
      clear A240
      replace H' := am H
      obtain ⟨hcz25_0,hcz25_1,hcz25_2,hcz25_3,hcz25_4⟩ := cO5 BK863.out
      go_wp2_with (first | ((with_reducible refine gate_callee (f := 15) rfl ?_);refine goesL_ (some 41) rfl rfl Tryz.func15 (by kernel_rfl) rfl #[.agg #[.slice A0_0 l0_0.length c0_0,.int .i64 a0_1,.slice A0_2 l0_2.length c0_2,.int .i64 a0_3,.int .i64 a0_4]] rfl (by (try simp only [List.map_toArray,List.map_cons,List.map_nil]);first | done | rfl | (simp only [List.length_drop,List.length_take];rfl)) ?_;(with_reducible refine (q4_Basin.calls kj7 _ _ l0_0 a0_1 _ _ l0_2 a0_3 a0_4 true _ ?side1 ?side2 ?side3 ?side4 A22.out).mono ?_);(case side1 => exact kC HR0_0.out HB.out);(case side2 => exact HC0_0.out);(case side3 => exact kC HR0_2.out HB.out);(case side4 => exact HC0_2.out);rintro e w26 ⟨rfl,hb⟩;refine ⟨_,rfl,?_⟩;replace HO_6 := am (Kd.R_below (by (with_reducible repeat (first | apply Kd.R_alloc | apply Kd.R_drewN | apply Kd.R_drew));exact HO_6.out) hb);replace BK863 := am (blk_below (g := gb863) (o := .cells #[.slice A0_0 l0_0.length c0_0,.int .i64 a0_1,.slice A0_2 l0_2.length c0_2,.int .i64 a0_3,.int .i64 a0_4] 27 (0,0)) (by (with_reducible repeat (first | refine blk_drewN ?_ _ | refine blk_drew ?_ | refine blk_alloc ?_ _));exact BK863.out) hb);replace HB := am (below_step (HB.out) hb);(try clear hb);(try clear hb2);(try clear hk);(try clear hi)) | (go_at_call 39;(with_reducible refine (q4_Height.calls a1 t874 _ A24.out).mono ?_);rintro e w' ⟨rfl,⟨nd,rfl⟩⟩))
      go_meet
      case rel => exact ⟨_,(!t874),(by first | rfl | (simp;done) | (simp [*];done)),H',⟨by have := HJ7.out;first | omega | exact Nat.le_refl _⟩,⟨by (with_reducible repeat (first | apply Kd.R_alloc | apply Kd.R_drewN | apply Kd.R_drew));exact HO_6.out⟩,⟨BK863.out⟩,⟨pw_below_drewN HB.out _⟩⟩
     case rest =>
      clear HC21
      obtain ⟨kq,x47_20,rfl,HA,HJ20,HO_6,BK863,HB⟩ := hcut
      cases kq with
      | zero => exact absurd HA.out (by simp [l4_CastleOuts.j1])
      | succ kj20 =>
       have H := HA.out
       clear HA
       simp only [l4_CastleOuts.j1] at H
       by_cases c29 : x47_20 = true
       · subst c29
         replace H : (if t871 = 2 then (if (t867.length : Int) = 0 then (if t870 = 0 then ((l4_known.f).bind fun t875 => (some t875)) else (none)) else (none)) else (none)) = some r := by rw [if_pos rfl] at H;exact H
         by_cases c30 : t871 = 2
         case neg =>
          rw [if_neg c30] at H
          exact absurd H (by simp)
         rw [if_pos c30] at H
         have c30b0 : (t871 == 2) = true := beq_iff_eq.mpr c30
         have c30b1 : (t871 != 2) = false := bne_eq_false_iff_eq.mpr c30
         clear c30
         by_cases c31 : (t867.length : Int) = 0
         case neg =>
          rw [if_neg c31] at H
          exact absurd H (by simp)
         rw [if_pos c31] at H
         have c31b0 : ((t867.length : Int) == 0) = true := beq_iff_eq.mpr c31
         have c31b1 : ((t867.length : Int) != 0) = false := bne_eq_false_iff_eq.mpr c31
         clear c31
         by_cases c32 : t870 = 0
         case neg =>
          rw [if_neg c32] at H
          exact absurd H (by simp)
         rw [if_pos c32] at H
         have c32b0 : (t870 == 0) = true := beq_iff_eq.mpr c32
         have c32b1 : (t870 != 0) = false := bne_eq_false_iff_eq.mpr c32
         clear c32
         replace H := obm H
         obtain ⟨t875,A330,H⟩ := H
         replace H : (some t875) = some r := H
         have A33 := am A330
         clear A330
         obtain rfl := Option.some.inj H
         obtain ⟨Ao34,co34,eo34⟩ := Kd.R_slice HO_6.out
         subst eo34
         go_wp2_with (first | (go_at_call 19;(with_reducible refine (l4_known.calls  t875 _ A33.out).mono ?_);rintro e w35 ⟨rfl,hb⟩;replace HO_6 := am (Kd.R_below (by (with_reducible repeat (first | apply Kd.R_alloc | apply Kd.R_drewN | apply Kd.R_drew));exact HO_6.out) hb);replace BK863 := am (blk_below (g := gb863) (o := .cells #[.slice A0_0 l0_0.length c0_0,.int .i64 a0_1,.slice A0_2 l0_2.length c0_2,.int .i64 a0_3,.int .i64 a0_4] 27 (0,0)) (by (with_reducible repeat (first | refine blk_drewN ?_ _ | refine blk_drew ?_ | refine blk_alloc ?_ _));exact BK863.out) hb);replace HB := am (below_step (HB.out) hb);(try clear hb);(try clear hb2);(try clear hk);(try clear hi)))
         go_ret
         exact ⟨by first | rfl | (simp [*] <;> rfl),HB.out⟩
       · replace c29 := Bool.eq_false_iff.mpr c29
         subst c29
         replace H : ((q4_Out.f kj20 l0_0 a0_1 l0_2 a0_3 a0_4 a1).bind fun bt876 => (if t871 = 0 then ((q4_Same.f kj20 t867 bt876.1).bind fun t880 => (if t880 = true then (if t870 = bt876.2 then ((l4_known.f).bind fun t881 => (some t881)) else (none)) else (none))) else (none))) = some r := by rw [if_neg (show ¬ (false = true) by decide)] at H;exact H
         replace H := obm H
         obtain ⟨⟨t876,t879⟩,A360,H⟩ := H
         replace H : (if t871 = 0 then ((q4_Same.f kj20 t867 t876).bind fun t880 => (if t880 = true then (if t870 = t879 then ((l4_known.f).bind fun t881 => (some t881)) else (none)) else (none))) else (none)) = some r := H
         have A36 := am A360
         clear A360
         by_cases c37 : t871 = 0
         case neg =>
          rw [if_neg c37] at H
          exact absurd H (by simp)
         rw [if_pos c37] at H
         have c37b0 : (t871 == 0) = true := beq_iff_eq.mpr c37
         have c37b1 : (t871 != 0) = false := bne_eq_false_iff_eq.mpr c37
         clear c37
         replace H := obm H
         obtain ⟨t880,A380,H⟩ := H
         replace H : (if t880 = true then (if t870 = t879 then ((l4_known.f).bind fun t881 => (some t881)) else (none)) else (none)) = some r := H
         have A38 := am A380
         clear A380
         by_cases c39 : t880 = true
         case neg =>
          replace c39 := Bool.eq_false_iff.mpr c39
          subst c39
          replace H : (none) = some r := by rw [if_neg (show ¬ (false = true) by decide)] at H;exact H
          exact absurd H (by simp)
         subst c39
         replace H : (if t870 = t879 then ((l4_known.f).bind fun t881 => (some t881)) else (none)) = some r := by rw [if_pos rfl] at H;exact H
         by_cases c40 : t870 = t879
         case neg =>
          rw [if_neg c40] at H
          exact absurd H (by simp)
         rw [if_pos c40] at H
         have c40b0 : (t870 == t879) = true := beq_iff_eq.mpr c40
         have c40b1 : (t870 != t879) = false := bne_eq_false_iff_eq.mpr c40
         clear c40
         replace H := obm H
         obtain ⟨t881,A410,H⟩ := H
         replace H : (some t881) = some r := H
         have A41 := am A410
         clear A410
         obtain rfl := Option.some.inj H
         obtain ⟨hcz42_0,hcz42_1,hcz42_2,hcz42_3,hcz42_4⟩ := cO5 BK863.out
         go_wp2_with (first | ((with_reducible refine gate_callee (f := 44) rfl ?_);refine goesL_ (some 65) rfl rfl Tryz.func44 (by kernel_rfl) rfl #[.agg #[.slice A0_0 l0_0.length c0_0,.int .i64 a0_1,.slice A0_2 l0_2.length c0_2,.int .i64 a0_3,.int .i64 a0_4],.int .i64 a1] rfl (by (try simp only [List.map_toArray,List.map_cons,List.map_nil]);first | done | rfl | (simp only [List.length_drop,List.length_take];rfl)) ?_;(with_reducible refine (q4_Out.calls kj20 _ _ l0_0 a0_1 _ _ l0_2 a0_3 a0_4 a1 t876 t879 _ ?side1 ?side2 ?side3 ?side4 A36.out).mono ?_);(case side1 => exact kC HR0_0.out HB.out);(case side2 => exact HC0_0.out);(case side3 => exact kC HR0_2.out HB.out);(case side4 => exact HC0_2.out);rintro e w43 ⟨v877,rfl,ho0,hb⟩;refine ⟨_,rfl,?_⟩;have HO878 := am (Kd.R_lower (Kd.R_new' ho0 (Kd.R_lt (by (with_reducible repeat (first | apply Kd.R_alloc | apply Kd.R_drewN | apply Kd.R_drew));exact HO_6.out))) (below_size (HB.out)));replace HO_6 := am (Kd.R_elder' (by (with_reducible repeat (first | apply Kd.R_alloc | apply Kd.R_drewN | apply Kd.R_drew));exact HO_6.out) (Kd.R_base ho0) hb);replace BK863 := am (blk_below (g := gb863) (o := .cells #[.slice A0_0 l0_0.length c0_0,.int .i64 a0_1,.slice A0_2 l0_2.length c0_2,.int .i64 a0_3,.int .i64 a0_4] 27 (0,0)) (by (with_reducible repeat (first | refine blk_drewN ?_ _ | refine blk_drew ?_ | refine blk_alloc ?_ _));exact BK863.out) hb);replace HB := am (below_step (HB.out) hb);(try clear hb);(try clear hb2);(try clear hk);(try clear hi);(try clear ho0);obtain ⟨Ao44,co44,eo44⟩ := Kd.R_slice HO_6.out;subst eo44;obtain ⟨Ao45,co45,eo45⟩ := Kd.R_slice HO878.out;subst eo45) | (go_at_call 45;(with_reducible refine (q4_Same.calls kj20 _ _ t867 _ _ t876 true _ ?side1 ?side2 ?side3 ?side4 A38.out).mono ?_);(case side1 => repeat (first | exact (Kd.R_reads' HO_6.out).2.2 | (with_reducible refine Kd.C_alloc ?_ _) | (with_reducible refine Kd.C_drewN ?_ _) | (with_reducible refine Kd.C_drew ?_)));(case side2 => exact (Kd.R_reads' HO_6.out).2.1);(case side3 => repeat (first | exact (Kd.R_reads' HO878.out).2.2 | (with_reducible refine Kd.C_alloc ?_ _) | (with_reducible refine Kd.C_drewN ?_ _) | (with_reducible refine Kd.C_drew ?_)));(case side4 => exact (Kd.R_reads' HO878.out).2.1);rintro e w' ⟨rfl,⟨nd,rfl⟩⟩) | (go_at_call 19;(with_reducible refine (l4_known.calls  t881 _ A41.out).mono ?_);rintro e w46 ⟨rfl,hb⟩;replace HO_6 := am (Kd.R_below (by (with_reducible repeat (first | apply Kd.R_alloc | apply Kd.R_drewN | apply Kd.R_drew));exact HO_6.out) hb);replace HO878 := am (Kd.R_below (by (with_reducible repeat (first | apply Kd.R_alloc | apply Kd.R_drewN | apply Kd.R_drew));exact HO878.out) hb);replace BK863 := am (blk_below (g := gb863) (o := .cells #[.slice A0_0 l0_0.length c0_0,.int .i64 a0_1,.slice A0_2 l0_2.length c0_2,.int .i64 a0_3,.int .i64 a0_4] 27 (0,0)) (by (with_reducible repeat (first | refine blk_drewN ?_ _ | refine blk_drew ?_ | refine blk_alloc ?_ _));exact BK863.out) hb);replace HB := am (below_step (pw_below_drewN HB.out _) hb);(try clear hb);(try clear hb2);(try clear hk);(try clear hi)))
         go_ret
         exact ⟨by first | rfl | (simp [*] <;> rfl),HB.out⟩
set_option linter.unusedSimpArgs false
end
section
variable {rows : List S126} {draw : Int} {noz : List S48} {weir spill : Int}
theorem cOut_eq (h : OkB rows draw noz weir spill) {x : Int} (h0 : 0 ≤ x) (h1 : x ≤ 40) {k : Nat} (hk : 410 ≤ k) : ca_Out.f k rows draw noz weir spill x = some (gat rows noz x,over weir spill x,0) := by
 obtain ⟨k,rfl⟩ := ksucc (by omega : 0 < k)
 unfold ca_Out.f
 rw [isBasin_eq (by have := h.r2;omega),okB_iff.2 h,Option.bind_some,if_pos rfl,c_height,decide_eq_true ⟨h0,h1⟩,Option.bind_some]
 simp only [ca_Out.j0,Bool.not_true]
 rw [if_neg (by decide),fill_eq h (by omega),Option.bind_some]
 simp only
 rw [if_pos h0,if_pos (by rw [grid_len];omega),weir_eq h h0 h1,Option.bind_some,grid_at _ _ h0 h1]
end
theorem cOut_bad {rows : List S126} {draw : Int} {noz : List S48} {weir spill x : Int} (hl : rows.length ≤ 1000) (hb : ¬ (okB rows draw noz weir spill = true ∧ 0 ≤ x ∧ x ≤ 40)) {k : Nat} (hk : 1 ≤ k) : ca_Out.f k rows draw noz weir spill x = some ([],0,2) := by
 obtain ⟨k,rfl⟩ := ksucc (by omega : 0 < k)
 unfold ca_Out.f
 rw [isBasin_eq hl,Option.bind_some]
 cases c : okB rows draw noz weir spill with
 | false => rfl
 | true =>
  rw [if_pos rfl,c_height,Option.bind_some]
  by_cases e : 0 ≤ x ∧ x ≤ 40
  · exact absurd ⟨c,e⟩ hb
  · rw [decide_eq_false e];rfl
theorem outs_pure (rows : List S126) (draw : Int) (noz : List S48) (weir spill x : Int) {k : Nat} (hk : 500 ≤ k) : l4_CastleOuts.f k rows draw noz weir spill x = some true := by
 obtain ⟨k,rfl⟩ : ∃ m,k = m + 1 + 1 := ⟨k - 2,by omega⟩
 unfold l4_CastleOuts.f
 rw [short_eq,Option.bind_some]
 by_cases s : rows.length ≤ 15 ∧ noz.length ≤ 8
 case neg => rw [decide_eq_false s,if_neg (by decide),known_true];rfl
 rw [decide_eq_true s,if_pos rfl]
 have hc : ca_Check.f rows draw noz weir spill = some (if okB rows draw noz weir spill = true then 0 else 2) := by
  unfold ca_Check.f
  rw [isBasin_eq (by omega),Option.bind_some]
  split <;> rfl
 rw [hc,Option.bind_some]
 cases b : okB rows draw noz weir spill with
 | false =>
  rw [cOut_bad (by omega) (by rw [b];rintro ⟨h,_⟩;cases h) (by omega),Option.bind_some,refBasin_eq (by omega) (by omega) (by omega),b,Option.bind_some]
  simp only [l4_CastleOuts.j0,Bool.false_eq_true,if_false]
  rw [refBasin_eq (by omega) (by omega) (by omega),b,Option.bind_some]
  simp [l4_CastleOuts.j1,known_true]
 | true =>
  have h := okB_iff.1 b
  have hn := h.n2
  rw [refBasin_eq (by omega) (by omega) (by omega),b]
  by_cases c : 0 ≤ x ∧ x ≤ 40
  · rw [cOut_eq h c.1 c.2 (by omega),Option.bind_some,Option.bind_some]
    simp only [if_true,l4_CastleOuts.j0,Bool.false_eq_true,if_false]
    rw [refBasin_eq (by omega) (by omega) (by omega),b,Option.bind_some]
    simp only [if_true,r_height,decide_eq_true c,Option.bind_some,Bool.not_true,l4_CastleOuts.j1,Bool.false_eq_true,if_false]
    rw [rout_eq h c.1 c.2 (by omega),Option.bind_some]
    simp only [if_true]
    rw [same_eq (by rw [gat_len];omega) (by rw [gat_len];omega)]
    simp [known_true]
  · rw [cOut_bad (by omega) (fun q => c q.2) (by omega),Option.bind_some,Option.bind_some]
    simp only [if_true,l4_CastleOuts.j0,Bool.false_eq_true,if_false]
    rw [refBasin_eq (by omega) (by omega) (by omega),b,Option.bind_some]
    simp [r_height,decide_eq_false c,l4_CastleOuts.j1,known_true]
end Go.Proofs.YtnnmnhpeblhiiaaGreatDoor.C

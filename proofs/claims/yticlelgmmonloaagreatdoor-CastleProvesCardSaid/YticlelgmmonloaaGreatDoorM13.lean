/- A part of the proof: the walks of the functions that it reaches. TIGHT. -/
import Derived.Test.YticlelgmmonloaaGreatDoorM10
namespace Go.Proofs.YticlelgmmonloaaGreatDoor.C
open Go.RowKit Go.Proofs.YticlelgmmonloaaGreatDoorW.PrintWords Go.Proofs.YticlelgmmonloaaGreatDoorW.PrintLast Go.Proofs.YticlelgmmonloaaGreatDoorW.PrintMore
set_option linter.unusedVariables false
set_option linter.unusedSimpArgs false
set_option maxHeartbeats 16000000
set_option maxRecDepth 100000
section
attribute [local go_sem] max2_int min2_int max_two min_two
def ca_Out.j0 : Nat → Int → Bool → List (S126) → Int → List (S64) → Int → Int → Option (List Int × Int × Int)
 | 0,_,_,_,_,_,_,_ => none
 | k + 1,x1,x15,x220000,x220001,x220002,x220003,x220004 => if x15 = true then (some (([] : List Int),0,2)) else ((ca_fill.f k x220000 x220001 x220002 x220003 x220004).bind fun bt234 => (if 0 ≤ x1 then (if x1 < (bt234.2.2.2.length : Int) then ((gf_weir.f x220000 bt234.1 x220002 bt234.2.1 bt234.2.2.1 bt234.2.2.2 x1).bind fun t242 => (some (rd_L3 bt234.2.2.2 x1,t242,0))) else (none)) else (none)))
def ca_Out.f (k : Nat) (l0_0 : List (S126)) (a0_1 : Int) (l0_2 : List (S64)) (a0_3 : Int) (a0_4 : Int) (a1 : Int) : Option (List Int × Int × Int) := (ca_isBasin.f l0_0 a0_1 l0_2 a0_3 a0_4).bind fun t220 => (if t220 = true then ((ca_isHeight.f a1).bind fun t221 => (ca_Out.j0 k a1 (!t221) l0_0 a0_1 l0_2 a0_3 a0_4)) else (ca_Out.j0 k a1 true l0_0 a0_1 l0_2 a0_3 a0_4))
def ca_Out.T4 : Bool × List (List Nat × List Nat) := (true,[([],[]),([0],[0]),([],[]),([1,2],[1,2]),([3],[3]),([],[]),([],[]),([5,6],[5,6]),([4,7,0,1,2,3,4],[4]),([7,8,0,1,2,3,4,5,6,7,8],[7]),([9,0,1,2,3,4,5,6,7,8,9],[])])
def ca_Out.B4 : List Nat := [0,1,0,7,15,0,0,96,255,511,1023]
theorem ca_Out.tab4 : rtab .any (opsOf Tryz.f24 4) = ca_Out.T4 := by kernel_rfl
theorem ca_Out.bits4 : waitsOk ca_Out.T4.2 ca_Out.B4 = true := by kernel_rfl
theorem ca_Out.calls (k : Nat) (A0_0 : Option Addr) (c0_0 : Nat) (l0_0 : List (S126)) (a0_1 : Int) (A0_2 : Option Addr) (c0_2 : Nat) (l0_2 : List (S64)) (a0_3 : Int) (a0_4 : Int) (a1 : Int) (r1 : List Int) (r2 : Int) (r3 : Int) (w : World) (hr0_0 : Kd.C k126 w A0_0 l0_0.length l0_0) (hc0_0 : l0_0.length ≤ c0_0) (hr0_2 : Kd.C k64 w A0_2 l0_2.length l0_2) (hc0_2 : l0_2.length ≤ c0_2) (h : ca_Out.f k l0_0 a0_1 l0_2 a0_3 a0_4 a1 = some (r1,r2,r3)) (hz : r3 = 0) :
 Calls Tryz.prog 24 #[.agg #[.slice A0_0 l0_0.length c0_0,.int .i64 a0_1,.slice A0_2 l0_2.length c0_2,.int .i64 a0_3,.int .i64 a0_4],.int .i64 a1] w fun e w' => ∃ v0_ : Value,e = .returned (.tuple #[v0_,.int .i64 r2,.int .i64 r3]) ∧ Kd.R (Kd.int .i64) 3 w' w.heap.size (fun _ => True) v0_ r1 ∧ Below w.heap.size w w' := by
 have hu27 := Tryz.underlying27
 have hu99 := Tryz.underlying99
 have HR0_0 := am hr0_0
 have HC0_0 := am hc0_0
 clear hr0_0 hc0_0
 have HR0_2 := am hr0_2
 have HC0_2 := am hc0_2
 clear hr0_2 hc0_2
 have HB := am (Below.refl w.heap.size w)
 have H : ((ca_isBasin.f l0_0 a0_1 l0_2 a0_3 a0_4).bind fun t220 => (if t220 = true then ((ca_isHeight.f a1).bind fun t221 => (ca_Out.j0 k a1 (!t221) l0_0 a0_1 l0_2 a0_3 a0_4)) else (ca_Out.j0 k a1 true l0_0 a0_1 l0_2 a0_3 a0_4))) = some (r1,r2,r3) := h
 clear h
 have HC3 := am H
 clear H
 go_enter Tryz.func24,Tryz.ntmps24
 go_upto_region 1 with (first | ((refine gate_dst (N := 2) rfl ?_);refine box_event rfl (N := 2) rfl (cs := #[.slice A0_0 l0_0.length c0_0,.int .i64 a0_1,.slice A0_2 l0_2.length c0_2,.int .i64 a0_3,.int .i64 a0_4]) (t := 27) ?hr ?_;(case hr => go_simp;try rfl);intro gb219 hg w4 hbox hb;have BK219 := am (hbox);have GE219 := am (ge_new (HB.out) hg);replace HB := am (below_step (HB.out) hb);clear hb hbox hg))
 (try simp only [Act.put,NR3])
 go_cut [15] (fun v15 wc => ∃ (kq : Nat) (x15_2 : Bool),v15 = .bool x15_2 ∧ Aside0 (ca_Out.j0 kq a1 x15_2 l0_0 a0_1 l0_2 a0_3 a0_4 = some (r1,r2,r3)) ∧ Aside0 (kq ≤ k) ∧ Aside0 (wc.heap[gb219]? = some (.cells #[(.slice A0_0 l0_0.length c0_0),.int .i64 a0_1,(.slice A0_2 l0_2.length c0_2),.int .i64 a0_3,.int .i64 a0_4] 27 (0,0))) ∧ Aside0 (Below w.heap.size w wc))
 case first =>
  have H := HC3.out
  clear HC3
  replace H := obm H
  obtain ⟨t220,A50,H⟩ := H
  (try dsimp only at H)
  have A5 := am A50
  clear A50
  by_cases c6 : t220 = true
  case neg =>
   replace c6 := Bool.eq_false_iff.mpr c6
   subst c6
   have H1 : (ca_Out.j0 k a1 true l0_0 a0_1 l0_2 a0_3 a0_4) = some (r1,r2,r3) := by rw [if_neg (show ¬ (false = true) by decide)] at H;exact H
   subst hz
   cases k <;> simp [ca_Out.j0] at H1
  subst c6
  rw [if_pos rfl] at H
  replace H := obm H
  obtain ⟨t221,A70,H⟩ := H
  (try dsimp only at H)
  have A7 := am A70
  clear A70
  replace H' := am H
  obtain ⟨hcz8_0,hcz8_1,hcz8_2,hcz8_3,hcz8_4⟩ := cO5 BK219.out
  go_wp2_with (first | ((with_reducible refine gate_callee (f := 57) rfl ?_);refine goesL_ (some 9) rfl rfl Tryz.func57 (by kernel_rfl) rfl #[.agg #[.slice A0_0 l0_0.length c0_0,.int .i64 a0_1,.slice A0_2 l0_2.length c0_2,.int .i64 a0_3,.int .i64 a0_4]] rfl (by (try simp only [List.map_toArray,List.map_cons,List.map_nil]);first | done | rfl | (simp only [List.length_drop,List.length_take];rfl)) ?_;(refine (ca_isBasin.calls _ _ l0_0 a0_1 _ _ l0_2 a0_3 a0_4 true _ ?side1 ?side2 ?side3 ?side4 A5.out).mono ?_);(case side1 => exact kC HR0_0.out HB.out);(case side2 => exact HC0_0.out);(case side3 => exact kC HR0_2.out HB.out);(case side4 => exact HC0_2.out);rintro e w9 ⟨rfl,hb⟩;refine ⟨_,rfl,?_⟩;replace BK219 := (kmv hb BK219);replace HB := am (below_step (HB.out) hb);(try clear hb);(try clear hb2);(try clear hk);(try clear hi)) | (go_at_call 68;(refine (ca_isHeight.calls a1 t221 _ A7.out).mono ?_);rintro e w' ⟨rfl,⟨nd,rfl⟩⟩))
  go_meet
  case rel => exact ⟨_,(!t221),(by first | rfl | (simp;done) | (simp [*];done)),H',⟨by first | omega | exact Nat.le_refl _⟩,⟨BK219.out⟩,⟨pw_below_drewN HB.out _⟩⟩
 case rest =>
  clear HC3
  obtain ⟨kq,x15_2,rfl,HA,HJ2,BK219,HB⟩ := hcut
  cases kq with
  | zero => exact absurd HA.out (by simp [ca_Out.j0])
  | succ kj2 =>
   have H := HA.out
   clear HA
   simp only [ca_Out.j0] at H
   by_cases c12 : x15_2 = true
   · subst c12
     have H1 : (some (([] : List Int),0,2)) = some (r1,r2,r3) := by rw [if_pos rfl] at H;exact H
     subst hz
     simp at H1
   · replace c12 := Bool.eq_false_iff.mpr c12
     subst c12
     rw [if_neg (show ¬ (false = true) by decide)] at H
     replace H := obm H
     obtain ⟨⟨t234,t235,t236,t237⟩,A130,H⟩ := H
     (try dsimp only at H)
     have A13 := am A130
     clear A130
     by_cases c14 : 0 ≤ a1
     case neg =>
      rw [if_neg c14] at H
      exact absurd H (by simp)
     rw [if_pos c14] at H
     have c14b0 : decide (0 ≤ a1) = true := decide_eq_true c14
     clear c14
     by_cases c15 : a1 < (t237.length : Int)
     case neg =>
      rw [if_neg c15] at H
      exact absurd H (by simp)
     rw [if_pos c15] at H
     have c15b0 : decide (a1 < (t237.length : Int)) = true := decide_eq_true c15
     clear c15
     replace H := obm H
     obtain ⟨t242,A160,H⟩ := H
     (try dsimp only at H)
     have A16 := am A160
     clear A160
     simp only [Option.some.injEq,Prod.mk.injEq] at H
     obtain ⟨rfl,rfl,rfl⟩ := H
     obtain ⟨hcz17_0,hcz17_1,hcz17_2,hcz17_3,hcz17_4⟩ := cO5 BK219.out
     try go_wp2_with (first | ((with_reducible refine gate_callee (f := 59) rfl ?_);refine goesL_ (some 17) rfl rfl Tryz.func59 (by kernel_rfl) rfl #[.agg #[.slice A0_0 l0_0.length c0_0,.int .i64 a0_1,.slice A0_2 l0_2.length c0_2,.int .i64 a0_3,.int .i64 a0_4]] rfl (by (try simp only [List.map_toArray,List.map_cons,List.map_nil]);first | done | rfl | (simp only [List.length_drop,List.length_take];rfl)) ?_;(refine (ca_fill.calls kj2 _ _ l0_0 a0_1 _ _ l0_2 a0_3 a0_4 t234 t235 t236 t237 _ ?side1 ?side2 ?side3 ?side4 A13.out).mono ?_);(case side1 => exact kC HR0_0.out HB.out);(case side2 => exact HC0_0.out);(case side3 => exact kC HR0_2.out HB.out);(case side4 => exact HC0_2.out);rintro e w18 ⟨v238,rfl,ho0,hb⟩;refine ⟨_,rfl,?_⟩;have HO239 := am (Kd.S_lower ho0 (below_size (HB.out)));replace BK219 := (kmv hb BK219);replace HB := am (below_step (HB.out) hb);(try clear hb);(try clear hb2);(try clear hk);(try clear hi);(try clear ho0)) | ((refine gate_dst (N := 7) rfl ?_);refine box_event rfl (N := 7) rfl (cs := #[.slice none 0 0,.int .i64 0,.slice none 0 0,.int .i64 0,.int .i64 0,.slice none 0 0]) (t := 99) ?hr ?_;(case hr => go_simp;try rfl);intro gb240 hg w19 hbox hb;have BK240 := am (hbox);have GE240 := am (ge_new (HB.out) hg);have NB219_240 := am (ne_new BK219.out hg);have NB240_219 := am (ne_new2 BK219.out hg);replace HO239 := am (Kd.S_below HO239.out hb);replace BK219 := (kmv hb BK219);replace HB := am (below_step (HB.out) hb);clear hb hbox hg;have hnb20 := NB240_219.out;have hnc20 := NB219_240.out;obtain ⟨hcz21_0,hcz21_1,hcz21_2,hcz21_3,hcz21_4,hcz21_5⟩ := cO6 BK240.out;have hfz21_0 := blk_frozen BK240.out 0;have hfz21_1 := blk_frozen BK240.out 1;have hfz21_2 := blk_frozen BK240.out 2;have hfz21_3 := blk_frozen BK240.out 3;have hfz21_4 := blk_frozen BK240.out 4;have hfz21_5 := blk_frozen BK240.out 5;obtain ⟨Ao22,co22,eo22⟩ := Kd.S_slice HO239.out;subst eo22))
     have n0_ : Aside0 (Kd.S (Kd.slice 3 (Kd.int .i64)) 30 ((((((w19.setCell ⟨gb240,0,none⟩ (.slice A0_0 l0_0.length c0_0)).setCell ⟨gb240,1,none⟩ (.int .i64 t234)).setCell ⟨gb240,2,none⟩ (.slice A0_2 l0_2.length c0_2)).setCell ⟨gb240,3,none⟩ (.int .i64 t235)).setCell ⟨gb240,4,none⟩ (.int .i64 t236)).setCell ⟨gb240,5,none⟩ (.slice Ao22 t237.length co22)) w.heap.size (fun _ => True) (.slice Ao22 t237.length co22) t237) := ⟨by (with_reducible repeat (first | apply Kd.S_alloc | apply Kd.S_drewN | apply Kd.S_drew));exact Kd.S_mono (Kd.S_far (p := ⟨gb240,5,none⟩) (Kd.S_far (p := ⟨gb240,4,none⟩) (Kd.S_far (p := ⟨gb240,3,none⟩) (Kd.S_far (p := ⟨gb240,2,none⟩) (Kd.S_far (p := ⟨gb240,1,none⟩) (Kd.S_far (p := ⟨gb240,0,none⟩) (Kd.S_types HO239.out BK240.out (by decide)) (fun _ hk => hk.2) (.slice A0_0 l0_0.length c0_0)) (fun _ hk => hk.2) (.int .i64 t234)) (fun _ hk => hk.2) (.slice A0_2 l0_2.length c0_2)) (fun _ hk => hk.2) (.int .i64 t235)) (fun _ hk => hk.2) (.int .i64 t236)) (fun _ hk => hk.2) (.slice Ao22 t237.length co22)) (fun _ hk => trivial)⟩
     have n1_ : Aside0 (((((((w19.setCell ⟨gb240,0,none⟩ (.slice A0_0 l0_0.length c0_0)).setCell ⟨gb240,1,none⟩ (.int .i64 t234)).setCell ⟨gb240,2,none⟩ (.slice A0_2 l0_2.length c0_2)).setCell ⟨gb240,3,none⟩ (.int .i64 t235)).setCell ⟨gb240,4,none⟩ (.int .i64 t236)).setCell ⟨gb240,5,none⟩ (.slice Ao22 t237.length co22)).heap[gb219]? = some (.cells #[.slice A0_0 l0_0.length c0_0,.int .i64 a0_1,.slice A0_2 l0_2.length c0_2,.int .i64 a0_3,.int .i64 a0_4] 27 (0,0))) := ⟨(blk_far (blk_far (blk_far (blk_far (blk_far (blk_far BK219.out NB219_240.out _) NB219_240.out _) NB219_240.out _) NB219_240.out _) NB219_240.out _) NB219_240.out _)⟩
     have n2_ : Aside0 (((((((w19.setCell ⟨gb240,0,none⟩ (.slice A0_0 l0_0.length c0_0)).setCell ⟨gb240,1,none⟩ (.int .i64 t234)).setCell ⟨gb240,2,none⟩ (.slice A0_2 l0_2.length c0_2)).setCell ⟨gb240,3,none⟩ (.int .i64 t235)).setCell ⟨gb240,4,none⟩ (.int .i64 t236)).setCell ⟨gb240,5,none⟩ (.slice Ao22 t237.length co22)).heap[gb240]? = some (.cells #[.slice A0_0 l0_0.length c0_0,.int .i64 t234,.slice A0_2 l0_2.length c0_2,.int .i64 t235,.int .i64 t236,.slice Ao22 t237.length co22] 99 (0,0))) := ⟨(blk_put (cs := #[.slice A0_0 l0_0.length c0_0,.int .i64 t234,.slice A0_2 l0_2.length c0_2,.int .i64 t235,.int .i64 t236,.slice none 0 0]) (blk_put (cs := #[.slice A0_0 l0_0.length c0_0,.int .i64 t234,.slice A0_2 l0_2.length c0_2,.int .i64 t235,.int .i64 0,.slice none 0 0]) (blk_put (cs := #[.slice A0_0 l0_0.length c0_0,.int .i64 t234,.slice A0_2 l0_2.length c0_2,.int .i64 0,.int .i64 0,.slice none 0 0]) (blk_put (cs := #[.slice A0_0 l0_0.length c0_0,.int .i64 t234,.slice none 0 0,.int .i64 0,.int .i64 0,.slice none 0 0]) (blk_put (cs := #[.slice A0_0 l0_0.length c0_0,.int .i64 0,.slice none 0 0,.int .i64 0,.int .i64 0,.slice none 0 0]) (blk_put (cs := #[.slice none 0 0,.int .i64 0,.slice none 0 0,.int .i64 0,.int .i64 0,.slice none 0 0]) BK240.out 0 _ rfl) 1 _ rfl) 2 _ rfl) 3 _ rfl) 4 _ rfl) 5 _ rfl)⟩
     have n3_ : Aside0 (Below w.heap.size w ((((((w19.setCell ⟨gb240,0,none⟩ (.slice A0_0 l0_0.length c0_0)).setCell ⟨gb240,1,none⟩ (.int .i64 t234)).setCell ⟨gb240,2,none⟩ (.slice A0_2 l0_2.length c0_2)).setCell ⟨gb240,3,none⟩ (.int .i64 t235)).setCell ⟨gb240,4,none⟩ (.int .i64 t236)).setCell ⟨gb240,5,none⟩ (.slice Ao22 t237.length co22))) := ⟨by repeat (first | (with_reducible first | exact HB.out | refine below_set ?_ (Aside0.out (by assumption)) | apply below_alloc | apply pw_below_drewN) | exact HB.out)⟩
     (try clear HO239)
     (try clear BK219)
     (try clear BK240)
     (try clear HB)
     generalize ((((((w19.setCell ⟨gb240,0,none⟩ (.slice A0_0 l0_0.length c0_0)).setCell ⟨gb240,1,none⟩ (.int .i64 t234)).setCell ⟨gb240,2,none⟩ (.slice A0_2 l0_2.length c0_2)).setCell ⟨gb240,3,none⟩ (.int .i64 t235)).setCell ⟨gb240,4,none⟩ (.int .i64 t236)).setCell ⟨gb240,5,none⟩ (.slice Ao22 t237.length co22)) = w23 at n0_ n1_ n2_ n3_ ⊢
     have HO239 := n0_
     have BK219 := n1_
     have BK240 := n2_
     have HB := n3_
     clear n0_ n1_ n2_ n3_
     replace HO239 := am (Kd.S_drew HO239.out)
     replace BK219 := am (blk_drew BK219.out)
     replace BK240 := am (blk_drew BK240.out)
     replace HB := am (below_drew1 HB.out)
     have p241 : 0 ≤ (a1 : Int) := of_decide_eq_true (by assumption)
     have q241 : a1 < (t237.length : Int) := of_decide_eq_true (by assumption)
     obtain ⟨ad241,A241_0,c241_0,e241,hx241_0,hl241_0,hi241_0⟩ := at_L3 (Kd.S_reads' HO239.out).2.2 a1 p241 q241
     cases e241
     obtain ⟨ce241,hce241,hMe241,hcc241⟩ := Kd.S_get HO239.out [] a1 p241 (by first | exact q241 | exact of_decide_eq_true (by assumption) | (have e_ := (Kd.S_reads' HO239.out).1;omega))
     obtain ⟨ve241_0,rfl,ge241_0⟩ := hMe241
     have hv241_0 := hcc241 0 _ rfl
     rw [Nat.add_zero,show ((Kd.slice 3 (Kd.int .i64))).sz = 1 from rfl,Nat.mul_one] at hv241_0
     replace hv241_0 := Option.some.inj (hv241_0.symm.trans hx241_0)
     rw [hv241_0] at ge241_0
     have HL241_0 := am (show Kd.R (Kd.int .i64) 3 _ _ _ _ (rd_L3 t237 a1) from ge241_0)
     clear hv241_0 ge241_0
     clear hcc241 hce241
     have HR241_0 := am hi241_0
     have HC241_0 := am hl241_0
     clear hi241_0 hl241_0
     replace p241 := eq_true p241
     replace q241 := eq_true q241
     refine start_ (n := 11) (S := fun w' => w'.cell? ⟨gb240,0,none⟩ = some (.slice A0_0 l0_0.length c0_0) ∧ w'.cell? ⟨gb240,1,none⟩ = some (.int .i64 t234) ∧ w'.cell? ⟨gb240,2,none⟩ = some (.slice A0_2 l0_2.length c0_2) ∧ w'.cell? ⟨gb240,3,none⟩ = some (.int .i64 t235) ∧ w'.cell? ⟨gb240,4,none⟩ = some (.int .i64 t236) ∧ w'.cell? ⟨gb240,5,none⟩ = some (.slice (some ad241) t237.length co22) ∧ w'.cell? (ad241.add (a1).toNat) = some (.slice A241_0 (rd_L3 t237 a1).length c241_0)) (ds := []) (ba 11 0) (by kernel_rfl) rfl rfl ⟨(blk_cell BK240.out 0).trans rfl,(blk_cell BK240.out 1).trans rfl,(blk_cell BK240.out 2).trans rfl,(blk_cell BK240.out 3).trans rfl,(blk_cell BK240.out 4).trans rfl,(blk_cell BK240.out 5).trans rfl,hx241_0⟩ (fun hHeld => ?_);refine with_tabW ca_Out.tab4 ca_Out.bits4 (fun HT_ HW_ => ?_)
     generalize w23.drew = w24 at HO239 BK219 BK240 HB HL241_0 HR241_0 hx241_0 hHeld ⊢
     refine pure_ (i := 0) (N := some 18) (v := ?_) (a' := ?_) (ba 11 1) rfl rfl (any_of HT_.out (by kernel_rfl)) (fun _ _ _ h => h) (Or.inl ⟨by rfl,?_⟩) ?_ ?_
     rotate_left
     · intro w'
       go_simp
       with_reducible rfl
     rotate_left
     · simp only [Act.put,NRM]
       rfl
     refine pure_ (i := 2) (N := some 20) (v := ?_) (a' := ?_) (ba 11 5) rfl rfl (any_of HT_.out (by kernel_rfl)) (fun _ _ _ h => h) (Or.inl ⟨by rfl,?_⟩) ?_ ?_
     rotate_left
     · intro w'
       go_simp
       with_reducible rfl
     rotate_left
     · simp only [Act.put,NRM]
       rfl
     refine pure_ (i := 6) (N := some 24) (v := ?_) (a' := ?_) (ba 11 69) rfl rfl (any_of HT_.out (by kernel_rfl)) (fun _ _ _ h => h) (Or.inl ⟨by rfl,?_⟩) ?_ ?_
     rotate_left
     · intro w'
       go_simp
       with_reducible rfl
     rotate_left
     · simp only [Act.put,NRM]
       rfl
     refine take_ (i := 1) (N := some 19) (v := ?_) (a' := ?_) (ba 11 71) rfl rfl (take_ofW HT_.out HW_.out (by kernel_rfl)) (fun _ _ _ h => h) (Or.inl ⟨by rfl,?_⟩) hHeld ?_ ?_
     rotate_left
     · rintro w' ⟨s0,s1,s2,s3,s4,s5,s6⟩
       go_simp
       with_reducible rfl
     rotate_left
     · simp only [Act.put,NRM]
       rfl
     refine pure_ (i := 3) (N := some 21) (v := ?_) (a' := ?_) (ba 11 79) rfl rfl (any_of HT_.out (by kernel_rfl)) (fun _ _ _ h => h) (Or.inl ⟨by rfl,?_⟩) ?_ ?_
     rotate_left
     · intro w'
       go_simp
       with_reducible rfl
     rotate_left
     · simp only [Act.put,NRM]
       rfl
     refine take_ (i := 4) (N := some 22) (v := ?_) (a' := ?_) (ba 11 95) rfl rfl (take_ofW HT_.out HW_.out (by kernel_rfl)) (fun _ _ _ h => h) (Or.inl ⟨by rfl,?_⟩) hHeld ?_ ?_
     rotate_left
     · rintro w' ⟨s0,s1,s2,s3,s4,s5,s6⟩
       go_simp
       with_reducible rfl
     rotate_left
     · simp only [Act.put,NRM]
       rfl
     refine take_ (i := 5) (N := some 23) (v := ?_) (a' := ?_) (ba 11 127) rfl rfl (take_ofW HT_.out HW_.out (by kernel_rfl)) (fun _ _ _ h => h) (Or.inl ⟨by rfl,?_⟩) hHeld ?_ ?_
     rotate_left
     · rintro w' ⟨s0,s1,s2,s3,s4,s5,s6⟩
       go_simp
       with_reducible rfl
     rotate_left
     · simp only [Act.put,NRM]
       rfl
     refine one_ (i := 7) (N := some 25) (ba 11 255) rfl rfl (one_of HT_.out (by kernel_rfl)) (by decide) (fun K hK => ?_)
     refine goes_ Tryz.func69 (by kernel_rfl) rfl #[.agg #[.slice A0_0 l0_0.length c0_0,.int .i64 t234,.slice A0_2 l0_2.length c0_2,.int .i64 t235,.int .i64 t236,.slice (some ad241) t237.length co22],.int .i64 a1] (by rfl) rfl rfl (by (try simp only [List.map_toArray,List.map_cons,List.map_nil]);first | done | rfl | (simp only [List.length_drop,List.length_take];rfl)) ?_
     with_reducible refine (gf_weir.calls _ _ l0_0 t234 _ _ l0_2 t235 t236 _ _ t237 a1 t242 _ ?side1 ?side2 ?side3 ?side4 ?side5 ?side6 A16.out).mono ?_
     (case side1 => exact kC HR0_0.out HB.out)
     (case side2 => exact HC0_0.out)
     (case side3 => exact kC HR0_2.out HB.out)
     (case side4 => exact HC0_2.out)
     (case side5 => repeat (first | exact (Kd.S_reads' HO239.out).2.2 | (with_reducible refine Kd.C_alloc ?_ _) | (with_reducible refine Kd.C_drewN ?_ _) | (with_reducible refine Kd.C_drew ?_)))
     (case side6 => exact (Kd.S_reads' HO239.out).2.1)
     rintro e w25 ⟨rfl,hb⟩
     have HS6_ := (hb.cell (World.block_lt_of_cell? _ _ (hHeld.2.2.2.2.2.2))).trans (hHeld.2.2.2.2.2.2)
     refine ⟨_,rfl,?_⟩
     replace HO239 := am (Kd.S_below HO239.out hb)
     replace HL241_0 := am (Kd.R_below HL241_0.out hb)
     replace BK219 := (kmv hb BK219)
     replace BK240 := (kmv hb BK240)
     replace HR241_0 := am (kC (by repeat (first | (with_reducible exact HR241_0.out) | (with_reducible refine Kd.C_alloc ?_ _) | (with_reducible refine Kd.C_drewN ?_ _) | (with_reducible refine Kd.C_drew ?_) | exact HR241_0.out)) hb)
     replace HB := am (below_step (HB.out) hb)
     (try clear hb)
     (try clear hb2)
     (try clear hk)
     (try clear hi)
     refine hK.out _ _ ⟨(blk_cell BK240.out 0).trans rfl,(blk_cell BK240.out 1).trans rfl,(blk_cell BK240.out 2).trans rfl,(blk_cell BK240.out 3).trans rfl,(blk_cell BK240.out 4).trans rfl,(blk_cell BK240.out 5).trans rfl,HS6_⟩ (fun hHeld => ?_)
     clear hK K
     refine norm_ (a' := ?_) ?_ ?_
     rotate_left
     · show Act.put _ (some 25) _ = _
       simp only [Act.put,NRM]
       rfl
     refine pure_ (i := 8) (N := some 4) (v := ?_) (a' := ?_) (ba 11 511) rfl rfl (any_of HT_.out (by kernel_rfl)) (fun _ _ _ h => h) (Or.inl ⟨by rfl,?_⟩) ?_ ?_
     rotate_left
     · intro w'
       go_simp
       with_reducible rfl
     rotate_left
     · simp only [Act.put,NRM]
       rfl
     refine pure_ (i := 9) (N := some 5) (v := ?_) (a' := ?_) (ba 11 1023) rfl rfl (any_of HT_.out (by kernel_rfl)) (fun _ _ _ h => h) (Or.inl ⟨by rfl,?_⟩) ?_ ?_
     rotate_left
     · intro w'
       go_simp
       with_reducible rfl
     rotate_left
     · simp only [Act.put,NRM]
       rfl
     refine pure_ (i := 10) (N := some 6) (v := ?_) (a' := ?_) (ba 11 2047) rfl rfl (any_of HT_.out (by kernel_rfl)) (fun _ _ _ h => h) (Or.inl ⟨by rfl,?_⟩) ?_ ?_
     rotate_left
     · intro w'
       go_simp
       with_reducible rfl
     rotate_left
     · simp only [Act.put,NRM]
       rfl
     refine done_ (done_of HT_.out (by kernel_rfl)) ?_
     try go_wp2
     go_ret3
     exact ⟨_,by first | rfl | (simp [*] <;> rfl),by (with_reducible repeat (first | apply Kd.R_alloc | apply Kd.R_drewN | apply Kd.R_drew));exact Kd.R_mono HL241_0.out (fun _ hk => trivial),HB.out⟩
def ca_Shares.j0 : Nat → Int → Bool → List (S126) → Int → List (S64) → Int → Int → Option (List Int × Int × Int)
 | 0,_,_,_,_,_,_,_ => none
 | k + 1,x1,x16,x165000,x165001,x165002,x165003,x165004 => if x16 = true then (some (([] : List Int),0,2)) else ((ca_fill.f k x165000 x165001 x165002 x165003 x165004).bind fun bt179 => ((gf_shares.f k x165000 bt179.1 x165002 bt179.2.1 bt179.2.2.1 bt179.2.2.2 x1).bind fun bt185 => (some (bt185.1,bt185.2,0))))
def ca_Shares.f (k : Nat) (l0_0 : List (S126)) (a0_1 : Int) (l0_2 : List (S64)) (a0_3 : Int) (a0_4 : Int) (a1 : Int) : Option (List Int × Int × Int) := (ca_isBasin.f l0_0 a0_1 l0_2 a0_3 a0_4).bind fun t165 => (if t165 = true then ((ca_isFlow.f a1).bind fun t166 => (ca_Shares.j0 k a1 (!t166) l0_0 a0_1 l0_2 a0_3 a0_4)) else (ca_Shares.j0 k a1 true l0_0 a0_1 l0_2 a0_3 a0_4))
theorem ca_Shares.calls (k : Nat) (A0_0 : Option Addr) (c0_0 : Nat) (l0_0 : List (S126)) (a0_1 : Int) (A0_2 : Option Addr) (c0_2 : Nat) (l0_2 : List (S64)) (a0_3 : Int) (a0_4 : Int) (a1 : Int) (r1 : List Int) (r2 : Int) (r3 : Int) (w : World) (hr0_0 : Kd.C k126 w A0_0 l0_0.length l0_0) (hc0_0 : l0_0.length ≤ c0_0) (hr0_2 : Kd.C k64 w A0_2 l0_2.length l0_2) (hc0_2 : l0_2.length ≤ c0_2) (h : ca_Shares.f k l0_0 a0_1 l0_2 a0_3 a0_4 a1 = some (r1,r2,r3)) (hz : r3 = 0) :
 Calls Tryz.prog 16 #[.agg #[.slice A0_0 l0_0.length c0_0,.int .i64 a0_1,.slice A0_2 l0_2.length c0_2,.int .i64 a0_3,.int .i64 a0_4],.int .i64 a1] w fun e w' => ∃ v0_ : Value,e = .returned (.tuple #[v0_,.int .i64 r2,.int .i64 r3]) ∧ Kd.R (Kd.int .i64) 3 w' w.heap.size (fun _ => True) v0_ r1 ∧ Below w.heap.size w w' := by
 have hu27 := Tryz.underlying27
 have HR0_0 := am hr0_0
 have HC0_0 := am hc0_0
 clear hr0_0 hc0_0
 have HR0_2 := am hr0_2
 have HC0_2 := am hc0_2
 clear hr0_2 hc0_2
 have HB := am (Below.refl w.heap.size w)
 have H : ((ca_isBasin.f l0_0 a0_1 l0_2 a0_3 a0_4).bind fun t165 => (if t165 = true then ((ca_isFlow.f a1).bind fun t166 => (ca_Shares.j0 k a1 (!t166) l0_0 a0_1 l0_2 a0_3 a0_4)) else (ca_Shares.j0 k a1 true l0_0 a0_1 l0_2 a0_3 a0_4))) = some (r1,r2,r3) := h
 clear h
 have HC3 := am H
 clear H
 go_enter Tryz.func16,Tryz.ntmps16
 go_upto_region 1 with (first | ((refine gate_dst (N := 2) rfl ?_);refine box_event rfl (N := 2) rfl (cs := #[.slice A0_0 l0_0.length c0_0,.int .i64 a0_1,.slice A0_2 l0_2.length c0_2,.int .i64 a0_3,.int .i64 a0_4]) (t := 27) ?hr ?_;(case hr => go_simp;try rfl);intro gb164 hg w4 hbox hb;have BK164 := am (hbox);have GE164 := am (ge_new (HB.out) hg);replace HB := am (below_step (HB.out) hb);clear hb hbox hg))
 (try simp only [Act.put,NR3])
 go_cut [16] (fun v16 wc => ∃ (kq : Nat) (x16_2 : Bool),v16 = .bool x16_2 ∧ Aside0 (ca_Shares.j0 kq a1 x16_2 l0_0 a0_1 l0_2 a0_3 a0_4 = some (r1,r2,r3)) ∧ Aside0 (kq ≤ k) ∧ Aside0 (wc.heap[gb164]? = some (.cells #[(.slice A0_0 l0_0.length c0_0),.int .i64 a0_1,(.slice A0_2 l0_2.length c0_2),.int .i64 a0_3,.int .i64 a0_4] 27 (0,0))) ∧ Aside0 (Below w.heap.size w wc))
 case first =>
  have H := HC3.out
  clear HC3
  replace H := obm H
  obtain ⟨t165,A50,H⟩ := H
  (try dsimp only at H)
  have A5 := am A50
  clear A50
  by_cases c6 : t165 = true
  case neg =>
   replace c6 := Bool.eq_false_iff.mpr c6
   subst c6
   have H1 : (ca_Shares.j0 k a1 true l0_0 a0_1 l0_2 a0_3 a0_4) = some (r1,r2,r3) := by rw [if_neg (show ¬ (false = true) by decide)] at H;exact H
   subst hz
   cases k <;> simp [ca_Shares.j0] at H1
  subst c6
  rw [if_pos rfl] at H
  replace H := obm H
  obtain ⟨t166,A70,H⟩ := H
  (try dsimp only at H)
  have A7 := am A70
  clear A70
  replace H' := am H
  obtain ⟨hcz8_0,hcz8_1,hcz8_2,hcz8_3,hcz8_4⟩ := cO5 BK164.out
  go_wp2_with (first | ((with_reducible refine gate_callee (f := 57) rfl ?_);refine goesL_ (some 10) rfl rfl Tryz.func57 (by kernel_rfl) rfl #[.agg #[.slice A0_0 l0_0.length c0_0,.int .i64 a0_1,.slice A0_2 l0_2.length c0_2,.int .i64 a0_3,.int .i64 a0_4]] rfl (by (try simp only [List.map_toArray,List.map_cons,List.map_nil]);first | done | rfl | (simp only [List.length_drop,List.length_take];rfl)) ?_;(refine (ca_isBasin.calls _ _ l0_0 a0_1 _ _ l0_2 a0_3 a0_4 true _ ?side1 ?side2 ?side3 ?side4 A5.out).mono ?_);(case side1 => exact kC HR0_0.out HB.out);(case side2 => exact HC0_0.out);(case side3 => exact kC HR0_2.out HB.out);(case side4 => exact HC0_2.out);rintro e w9 ⟨rfl,hb⟩;refine ⟨_,rfl,?_⟩;replace BK164 := (kmv hb BK164);replace HB := am (below_step (HB.out) hb);(try clear hb);(try clear hb2);(try clear hk);(try clear hi)) | (go_at_call 58;(refine (ca_isFlow.calls a1 t166 _ A7.out).mono ?_);rintro e w' ⟨rfl,⟨nd,rfl⟩⟩))
  go_meet
  case rel => exact ⟨_,(!t166),(by first | rfl | (simp;done) | (simp [*];done)),H',⟨by first | omega | exact Nat.le_refl _⟩,⟨BK164.out⟩,⟨pw_below_drewN HB.out _⟩⟩
 case rest =>
  clear HC3
  obtain ⟨kq,x16_2,rfl,HA,HJ2,BK164,HB⟩ := hcut
  cases kq with
  | zero => exact absurd HA.out (by simp [ca_Shares.j0])
  | succ kj2 =>
   have H := HA.out
   clear HA
   simp only [ca_Shares.j0] at H
   by_cases c12 : x16_2 = true
   · subst c12
     have H1 : (some (([] : List Int),0,2)) = some (r1,r2,r3) := by rw [if_pos rfl] at H;exact H
     subst hz
     simp at H1
   · replace c12 := Bool.eq_false_iff.mpr c12
     subst c12
     rw [if_neg (show ¬ (false = true) by decide)] at H
     replace H := obm H
     obtain ⟨⟨t179,t180,t181,t182⟩,A130,H⟩ := H
     (try dsimp only at H)
     have A13 := am A130
     clear A130
     replace H := obm H
     obtain ⟨⟨t185,t188⟩,A140,H⟩ := H
     (try dsimp only at H)
     have A14 := am A140
     clear A140
     simp only [Option.some.injEq,Prod.mk.injEq] at H
     obtain ⟨rfl,rfl,rfl⟩ := H
     obtain ⟨hcz15_0,hcz15_1,hcz15_2,hcz15_3,hcz15_4⟩ := cO5 BK164.out
     go_wp2_with (first | ((with_reducible refine gate_callee (f := 59) rfl ?_);refine goesL_ (some 19) rfl rfl Tryz.func59 (by kernel_rfl) rfl #[.agg #[.slice A0_0 l0_0.length c0_0,.int .i64 a0_1,.slice A0_2 l0_2.length c0_2,.int .i64 a0_3,.int .i64 a0_4]] rfl (by (try simp only [List.map_toArray,List.map_cons,List.map_nil]);first | done | rfl | (simp only [List.length_drop,List.length_take];rfl)) ?_;(refine (ca_fill.calls kj2 _ _ l0_0 a0_1 _ _ l0_2 a0_3 a0_4 t179 t180 t181 t182 _ ?side1 ?side2 ?side3 ?side4 A13.out).mono ?_);(case side1 => exact kC HR0_0.out HB.out);(case side2 => exact HC0_0.out);(case side3 => exact kC HR0_2.out HB.out);(case side4 => exact HC0_2.out);rintro e w16 ⟨v183,rfl,ho0,hb⟩;refine ⟨_,rfl,?_⟩;have HO184 := am (Kd.S_lower ho0 (below_size (HB.out)));replace BK164 := (kmv hb BK164);replace HB := am (below_step (HB.out) hb);(try clear hb);(try clear hb2);(try clear hk);(try clear hi);(try clear ho0);obtain ⟨Ao17,co17,eo17⟩ := Kd.S_slice HO184.out;subst eo17) | ((with_reducible refine gate_callee (f := 60) rfl ?_);refine goesL_ (some 21) rfl rfl Tryz.func60 (by kernel_rfl) rfl #[.agg #[.slice A0_0 l0_0.length c0_0,.int .i64 t179,.slice A0_2 l0_2.length c0_2,.int .i64 t180,.int .i64 t181,.slice Ao17 t182.length co17],.int .i64 a1] rfl (by (try simp only [List.map_toArray,List.map_cons,List.map_nil]);first | done | rfl | (simp only [List.length_drop,List.length_take];rfl)) ?_;(refine (gf_shares.calls kj2 _ _ l0_0 t179 _ _ l0_2 t180 t181 _ _ t182 a1 t185 t188 _ ?side1 ?side2 ?side3 ?side4 ?side5 ?side6 A14.out).mono ?_);(case side1 => exact kC HR0_0.out HB.out);(case side2 => exact HC0_0.out);(case side3 => exact kC HR0_2.out HB.out);(case side4 => exact HC0_2.out);(case side5 => repeat (first | exact (Kd.S_reads' HO184.out).2.2 | (with_reducible refine Kd.C_alloc ?_ _) | (with_reducible refine Kd.C_drewN ?_ _) | (with_reducible refine Kd.C_drew ?_)));(case side6 => exact (Kd.S_reads' HO184.out).2.1);rintro e w18 ⟨v186,rfl,ho0,hb⟩;refine ⟨_,rfl,?_⟩;have HO187 := am (Kd.R_lower ho0 (below_size (HB.out)));replace HO184 := am (Kd.S_elder' HO184.out (Kd.R_base ho0) hb);replace BK164 := (kmv hb BK164);replace HB := am (below_step (HB.out) hb);(try clear hb);(try clear hb2);(try clear hk);(try clear hi);(try clear ho0)))
     go_ret3
     exact ⟨_,by first | rfl | (simp [*] <;> rfl),by (with_reducible repeat (first | apply Kd.R_alloc | apply Kd.R_drewN | apply Kd.R_drew));exact HO187.out,HB.out⟩
def ca_Level.j0 : Nat → Bool → List (S126) → Int → List (S64) → Int → Int → Int → Int → Option (Int × Int × Int)
 | 0,_,_,_,_,_,_,_,_ => none
 | k + 1,x14,x193000,x193001,x193002,x193003,x193004,x194000,x194001 => if x14 = true then (some (0,0,2)) else ((ca_fill.f k x193000 x193001 x193002 x193003 x193004).bind fun bt209 => ((gf_level.f x193000 bt209.1 x193002 bt209.2.1 bt209.2.2.1 bt209.2.2.2 x194000).bind fun t216 => ((gf_level.f x193000 bt209.1 x193002 bt209.2.1 bt209.2.2.1 bt209.2.2.2 x194001).bind fun t217 => (some (t216,t217,0)))))
def ca_Level.f (k : Nat) (l0_0 : List (S126)) (a0_1 : Int) (l0_2 : List (S64)) (a0_3 : Int) (a0_4 : Int) (a1_0 : Int) (a1_1 : Int) : Option (Int × Int × Int) := (ca_isBasin.f l0_0 a0_1 l0_2 a0_3 a0_4).bind fun t195 => (if t195 = true then ((isSpan_isFlow.f a1_0 a1_1).bind fun t196 => (ca_Level.j0 k (!t196) l0_0 a0_1 l0_2 a0_3 a0_4 a1_0 a1_1)) else (ca_Level.j0 k true l0_0 a0_1 l0_2 a0_3 a0_4 a1_0 a1_1))
def ca_Level.T4 : Bool × List (List Nat × List Nat) := (true,[([],[]),([],[]),([1],[1]),([0,2],[0,2]),([],[]),([],[]),([5],[5]),([4,6,3],[4,6]),([3,7],[3,7]),([8,7,0,1,2,3,4,5,6,7,8],[8]),([9,0,1,2,3,4,5,6,7,8,9],[])])
def ca_Level.B4 : List Nat := [0,0,2,7,0,0,32,127,255,511,1023]
theorem ca_Level.tab4 : rtab .any (opsOf Tryz.f22 4) = ca_Level.T4 := by kernel_rfl
theorem ca_Level.bits4 : waitsOk ca_Level.T4.2 ca_Level.B4 = true := by kernel_rfl
theorem ca_Level.calls (k : Nat) (A0_0 : Option Addr) (c0_0 : Nat) (l0_0 : List (S126)) (a0_1 : Int) (A0_2 : Option Addr) (c0_2 : Nat) (l0_2 : List (S64)) (a0_3 : Int) (a0_4 : Int) (a1_0 : Int) (a1_1 : Int) (r1 : Int) (r2 : Int) (r3 : Int) (w : World) (hr0_0 : Kd.C k126 w A0_0 l0_0.length l0_0) (hc0_0 : l0_0.length ≤ c0_0) (hr0_2 : Kd.C k64 w A0_2 l0_2.length l0_2) (hc0_2 : l0_2.length ≤ c0_2) (h : ca_Level.f k l0_0 a0_1 l0_2 a0_3 a0_4 a1_0 a1_1 = some (r1,r2,r3)) (hz : r3 = 0) :
 Calls Tryz.prog 22 #[.agg #[.slice A0_0 l0_0.length c0_0,.int .i64 a0_1,.slice A0_2 l0_2.length c0_2,.int .i64 a0_3,.int .i64 a0_4],.agg #[.int .i64 a1_0,.int .i64 a1_1]] w fun e w' => e = .returned (.tuple #[.agg #[.int .i64 r1,.int .i64 r2],.int .i64 r3]) ∧ Below w.heap.size w w' := by
 have hu27 := Tryz.underlying27
 have hu40 := Tryz.underlying40
 have hu99 := Tryz.underlying99
 have HR0_0 := am hr0_0
 have HC0_0 := am hc0_0
 clear hr0_0 hc0_0
 have HR0_2 := am hr0_2
 have HC0_2 := am hc0_2
 clear hr0_2 hc0_2
 have HB := am (Below.refl w.heap.size w)
 have H : ((ca_isBasin.f l0_0 a0_1 l0_2 a0_3 a0_4).bind fun t195 => (if t195 = true then ((isSpan_isFlow.f a1_0 a1_1).bind fun t196 => (ca_Level.j0 k (!t196) l0_0 a0_1 l0_2 a0_3 a0_4 a1_0 a1_1)) else (ca_Level.j0 k true l0_0 a0_1 l0_2 a0_3 a0_4 a1_0 a1_1))) = some (r1,r2,r3) := h
 clear h
 have HC3 := am H
 clear H
 go_enter Tryz.func22,Tryz.ntmps22
 go_upto_region 1 with (first | ((refine gate_dst (N := 2) rfl ?_);refine box_event rfl (N := 2) rfl (cs := #[.slice A0_0 l0_0.length c0_0,.int .i64 a0_1,.slice A0_2 l0_2.length c0_2,.int .i64 a0_3,.int .i64 a0_4]) (t := 27) ?hr ?_;(case hr => go_simp;try rfl);intro gb192 hg w4 hbox hb;have BK192 := am (hbox);have GE192 := am (ge_new (HB.out) hg);replace HB := am (below_step (HB.out) hb);clear hb hbox hg) | ((refine gate_dst (N := 3) rfl ?_);refine box_event rfl (N := 3) rfl (cs := #[.int .i64 a1_0,.int .i64 a1_1]) (t := 40) ?hr ?_;(case hr => go_simp;try rfl);intro gb193 hg w5 hbox hb;have BK193 := am (hbox);have GE193 := am (ge_new (HB.out) hg);have NB192_193 := am (ne_new BK192.out hg);have NB193_192 := am (ne_new2 BK192.out hg);replace BK192 := (kmv hb BK192);replace HB := am (below_step (HB.out) hb);clear hb hbox hg) | ((refine gate_dst (N := 4) rfl ?_);refine box_event rfl (N := 4) rfl (cs := #[.int .i64 0,.int .i64 0]) (t := 40) ?hr ?_;(case hr => go_simp;try rfl);intro gb194 hg w6 hbox hb;have BK194 := am (hbox);have GE194 := am (ge_new (HB.out) hg);have NB192_194 := am (ne_new BK192.out hg);have NB194_192 := am (ne_new2 BK192.out hg);have NB193_194 := am (ne_new BK193.out hg);have NB194_193 := am (ne_new2 BK193.out hg);replace BK192 := (kmv hb BK192);replace BK193 := (kmv hb BK193);replace HB := am (below_step (HB.out) hb);clear hb hbox hg))
 (try simp only [Act.put,NR3])
 go_cut [14] (fun v14 wc => ∃ (kq : Nat) (x14_2 : Bool),v14 = .bool x14_2 ∧ Aside0 (ca_Level.j0 kq x14_2 l0_0 a0_1 l0_2 a0_3 a0_4 a1_0 a1_1 = some (r1,r2,r3)) ∧ Aside0 (kq ≤ k) ∧ Aside0 (wc.heap[gb192]? = some (.cells #[(.slice A0_0 l0_0.length c0_0),.int .i64 a0_1,(.slice A0_2 l0_2.length c0_2),.int .i64 a0_3,.int .i64 a0_4] 27 (0,0))) ∧ Aside0 (wc.heap[gb193]? = some (.cells #[.int .i64 a1_0,.int .i64 a1_1] 40 (0,0))) ∧ Aside0 (wc.heap[gb194]? = some (.cells #[.int .i64 0,.int .i64 0] 40 (0,0))) ∧ Aside0 (Below w.heap.size w wc))
 case first =>
  have H := HC3.out
  clear HC3
  replace H := obm H
  obtain ⟨t195,A70,H⟩ := H
  (try dsimp only at H)
  have A7 := am A70
  clear A70
  by_cases c8 : t195 = true
  case neg =>
   replace c8 := Bool.eq_false_iff.mpr c8
   subst c8
   have H1 : (ca_Level.j0 k true l0_0 a0_1 l0_2 a0_3 a0_4 a1_0 a1_1) = some (r1,r2,r3) := by rw [if_neg (show ¬ (false = true) by decide)] at H;exact H
   subst hz
   cases k <;> simp [ca_Level.j0] at H1
  subst c8
  rw [if_pos rfl] at H
  replace H := obm H
  obtain ⟨t196,A90,H⟩ := H
  (try dsimp only at H)
  have A9 := am A90
  clear A90
  replace H' := am H
  have hnb10 := NB192_193.out
  have hnc10 := NB193_192.out
  have hnb11 := NB192_194.out
  have hnc11 := NB194_192.out
  obtain ⟨hcz12_0,hcz12_1,hcz12_2,hcz12_3,hcz12_4⟩ := cO5 BK192.out
  go_wp2_with (first | ((with_reducible refine gate_callee (f := 57) rfl ?_);refine goesL_ (some 8) rfl rfl Tryz.func57 (by kernel_rfl) rfl #[.agg #[.slice A0_0 l0_0.length c0_0,.int .i64 a0_1,.slice A0_2 l0_2.length c0_2,.int .i64 a0_3,.int .i64 a0_4]] rfl (by (try simp only [List.map_toArray,List.map_cons,List.map_nil]);first | done | rfl | (simp only [List.length_drop,List.length_take];rfl)) ?_;(refine (ca_isBasin.calls _ _ l0_0 a0_1 _ _ l0_2 a0_3 a0_4 true _ ?side1 ?side2 ?side3 ?side4 A7.out).mono ?_);(case side1 => exact kC HR0_0.out HB.out);(case side2 => exact HC0_0.out);(case side3 => exact kC HR0_2.out HB.out);(case side4 => exact HC0_2.out);rintro e w13 ⟨rfl,hb⟩;refine ⟨_,rfl,?_⟩;replace BK192 := (kmv hb BK192);replace BK193 := (kmv hb BK193);replace BK194 := (kmv hb BK194);replace HB := am (below_step (HB.out) hb);(try clear hb);(try clear hb2);(try clear hk);(try clear hi);have hnb14 := NB193_194.out;have hnc14 := NB194_193.out;obtain ⟨hcz15_0,hcz15_1⟩ := cO2 BK193.out) | (go_at_call 66;(refine (isSpan_isFlow.calls a1_0 a1_1  t196 _ A9.out).mono ?_);rintro e w16 ⟨rfl,hb⟩;replace BK192 := (kmv hb BK192);replace BK193 := (kmv hb BK193);replace BK194 := (kmv hb BK194);replace HB := am (below_step (HB.out) hb);(try clear hb);(try clear hb2);(try clear hk);(try clear hi)))
  go_meet
  case rel => exact ⟨_,(!t196),(by first | rfl | (simp;done) | (simp [*];done)),H',⟨by first | omega | exact Nat.le_refl _⟩,⟨BK192.out⟩,⟨BK193.out⟩,⟨BK194.out⟩,⟨HB.out⟩⟩
 case rest =>
  clear HC3
  obtain ⟨kq,x14_2,rfl,HA,HJ2,BK192,BK193,BK194,HB⟩ := hcut
  cases kq with
  | zero => exact absurd HA.out (by simp [ca_Level.j0])
  | succ kj2 =>
   have H := HA.out
   clear HA
   simp only [ca_Level.j0] at H
   by_cases c21 : x14_2 = true
   · subst c21
     have H1 : (some (0,0,2)) = some (r1,r2,r3) := by rw [if_pos rfl] at H;exact H
     subst hz
     simp at H1
   · replace c21 := Bool.eq_false_iff.mpr c21
     subst c21
     rw [if_neg (show ¬ (false = true) by decide)] at H
     replace H := obm H
     obtain ⟨⟨t209,t210,t211,t212⟩,A250,H⟩ := H
     (try dsimp only at H)
     have A25 := am A250
     clear A250
     replace H := obm H
     obtain ⟨t216,A260,H⟩ := H
     (try dsimp only at H)
     have A26 := am A260
     clear A260
     replace H := obm H
     obtain ⟨t217,A270,H⟩ := H
     (try dsimp only at H)
     have A27 := am A270
     clear A270
     simp only [Option.some.injEq,Prod.mk.injEq] at H
     obtain ⟨rfl,rfl,rfl⟩ := H
     have hnb28 := NB192_193.out
     have hnc28 := NB193_192.out
     have hnb29 := NB192_194.out
     have hnc29 := NB194_192.out
     obtain ⟨hcz30_0,hcz30_1,hcz30_2,hcz30_3,hcz30_4⟩ := cO5 BK192.out
     try go_wp2_with (first | ((with_reducible refine gate_callee (f := 59) rfl ?_);refine goesL_ (some 17) rfl rfl Tryz.func59 (by kernel_rfl) rfl #[.agg #[.slice A0_0 l0_0.length c0_0,.int .i64 a0_1,.slice A0_2 l0_2.length c0_2,.int .i64 a0_3,.int .i64 a0_4]] rfl (by (try simp only [List.map_toArray,List.map_cons,List.map_nil]);first | done | rfl | (simp only [List.length_drop,List.length_take];rfl)) ?_;(refine (ca_fill.calls kj2 _ _ l0_0 a0_1 _ _ l0_2 a0_3 a0_4 t209 t210 t211 t212 _ ?side1 ?side2 ?side3 ?side4 A25.out).mono ?_);(case side1 => exact kC HR0_0.out HB.out);(case side2 => exact HC0_0.out);(case side3 => exact kC HR0_2.out HB.out);(case side4 => exact HC0_2.out);rintro e w31 ⟨v213,rfl,ho0,hb⟩;refine ⟨_,rfl,?_⟩;have HO214 := am (Kd.S_lower ho0 (below_size (HB.out)));replace BK192 := (kmv hb BK192);replace BK193 := (kmv hb BK193);replace BK194 := (kmv hb BK194);replace HB := am (below_step (HB.out) hb);(try clear hb);(try clear hb2);(try clear hk);(try clear hi);(try clear ho0)) | ((refine gate_dst (N := 6) rfl ?_);refine box_event rfl (N := 6) rfl (cs := #[.slice none 0 0,.int .i64 0,.slice none 0 0,.int .i64 0,.int .i64 0,.slice none 0 0]) (t := 99) ?hr ?_;(case hr => go_simp;try rfl);intro gb215 hg w32 hbox hb;have BK215 := am (hbox);have GE215 := am (ge_new (HB.out) hg);have NB192_215 := am (ne_new BK192.out hg);have NB215_192 := am (ne_new2 BK192.out hg);have NB193_215 := am (ne_new BK193.out hg);have NB215_193 := am (ne_new2 BK193.out hg);have NB194_215 := am (ne_new BK194.out hg);have NB215_194 := am (ne_new2 BK194.out hg);replace HO214 := am (Kd.S_below HO214.out hb);replace BK192 := (kmv hb BK192);replace BK193 := (kmv hb BK193);replace BK194 := (kmv hb BK194);replace HB := am (below_step (HB.out) hb);clear hb hbox hg;have hnb33 := NB215_192.out;have hnc33 := NB192_215.out;have hnb34 := NB215_193.out;have hnc34 := NB193_215.out;have hnb35 := NB215_194.out;have hnc35 := NB194_215.out;obtain ⟨hcz36_0,hcz36_1,hcz36_2,hcz36_3,hcz36_4,hcz36_5⟩ := cO6 BK215.out;have hfz36_0 := blk_frozen BK215.out 0;have hfz36_1 := blk_frozen BK215.out 1;have hfz36_2 := blk_frozen BK215.out 2;have hfz36_3 := blk_frozen BK215.out 3;have hfz36_4 := blk_frozen BK215.out 4;have hfz36_5 := blk_frozen BK215.out 5;obtain ⟨Ao37,co37,eo37⟩ := Kd.S_slice HO214.out;subst eo37))
     have n0_ : Aside0 (Kd.S (Kd.slice 3 (Kd.int .i64)) 30 ((((((w32.setCell ⟨gb215,0,none⟩ (.slice A0_0 l0_0.length c0_0)).setCell ⟨gb215,1,none⟩ (.int .i64 t209)).setCell ⟨gb215,2,none⟩ (.slice A0_2 l0_2.length c0_2)).setCell ⟨gb215,3,none⟩ (.int .i64 t210)).setCell ⟨gb215,4,none⟩ (.int .i64 t211)).setCell ⟨gb215,5,none⟩ (.slice Ao37 t212.length co37)) w.heap.size (fun _ => True) (.slice Ao37 t212.length co37) t212) := ⟨by (with_reducible repeat (first | apply Kd.S_alloc | apply Kd.S_drewN | apply Kd.S_drew));exact Kd.S_mono (Kd.S_far (p := ⟨gb215,5,none⟩) (Kd.S_far (p := ⟨gb215,4,none⟩) (Kd.S_far (p := ⟨gb215,3,none⟩) (Kd.S_far (p := ⟨gb215,2,none⟩) (Kd.S_far (p := ⟨gb215,1,none⟩) (Kd.S_far (p := ⟨gb215,0,none⟩) (Kd.S_types HO214.out BK215.out (by decide)) (fun _ hk => hk.2) (.slice A0_0 l0_0.length c0_0)) (fun _ hk => hk.2) (.int .i64 t209)) (fun _ hk => hk.2) (.slice A0_2 l0_2.length c0_2)) (fun _ hk => hk.2) (.int .i64 t210)) (fun _ hk => hk.2) (.int .i64 t211)) (fun _ hk => hk.2) (.slice Ao37 t212.length co37)) (fun _ hk => trivial)⟩
     have n1_ : Aside0 (((((((w32.setCell ⟨gb215,0,none⟩ (.slice A0_0 l0_0.length c0_0)).setCell ⟨gb215,1,none⟩ (.int .i64 t209)).setCell ⟨gb215,2,none⟩ (.slice A0_2 l0_2.length c0_2)).setCell ⟨gb215,3,none⟩ (.int .i64 t210)).setCell ⟨gb215,4,none⟩ (.int .i64 t211)).setCell ⟨gb215,5,none⟩ (.slice Ao37 t212.length co37)).heap[gb192]? = some (.cells #[.slice A0_0 l0_0.length c0_0,.int .i64 a0_1,.slice A0_2 l0_2.length c0_2,.int .i64 a0_3,.int .i64 a0_4] 27 (0,0))) := ⟨(blk_far (blk_far (blk_far (blk_far (blk_far (blk_far BK192.out NB192_215.out _) NB192_215.out _) NB192_215.out _) NB192_215.out _) NB192_215.out _) NB192_215.out _)⟩
     have n2_ : Aside0 (((((((w32.setCell ⟨gb215,0,none⟩ (.slice A0_0 l0_0.length c0_0)).setCell ⟨gb215,1,none⟩ (.int .i64 t209)).setCell ⟨gb215,2,none⟩ (.slice A0_2 l0_2.length c0_2)).setCell ⟨gb215,3,none⟩ (.int .i64 t210)).setCell ⟨gb215,4,none⟩ (.int .i64 t211)).setCell ⟨gb215,5,none⟩ (.slice Ao37 t212.length co37)).heap[gb193]? = some (.cells #[.int .i64 a1_0,.int .i64 a1_1] 40 (0,0))) := ⟨(blk_far (blk_far (blk_far (blk_far (blk_far (blk_far BK193.out NB193_215.out _) NB193_215.out _) NB193_215.out _) NB193_215.out _) NB193_215.out _) NB193_215.out _)⟩
     have n3_ : Aside0 (((((((w32.setCell ⟨gb215,0,none⟩ (.slice A0_0 l0_0.length c0_0)).setCell ⟨gb215,1,none⟩ (.int .i64 t209)).setCell ⟨gb215,2,none⟩ (.slice A0_2 l0_2.length c0_2)).setCell ⟨gb215,3,none⟩ (.int .i64 t210)).setCell ⟨gb215,4,none⟩ (.int .i64 t211)).setCell ⟨gb215,5,none⟩ (.slice Ao37 t212.length co37)).heap[gb194]? = some (.cells #[.int .i64 0,.int .i64 0] 40 (0,0))) := ⟨(blk_far (blk_far (blk_far (blk_far (blk_far (blk_far BK194.out NB194_215.out _) NB194_215.out _) NB194_215.out _) NB194_215.out _) NB194_215.out _) NB194_215.out _)⟩
     have n4_ : Aside0 (((((((w32.setCell ⟨gb215,0,none⟩ (.slice A0_0 l0_0.length c0_0)).setCell ⟨gb215,1,none⟩ (.int .i64 t209)).setCell ⟨gb215,2,none⟩ (.slice A0_2 l0_2.length c0_2)).setCell ⟨gb215,3,none⟩ (.int .i64 t210)).setCell ⟨gb215,4,none⟩ (.int .i64 t211)).setCell ⟨gb215,5,none⟩ (.slice Ao37 t212.length co37)).heap[gb215]? = some (.cells #[.slice A0_0 l0_0.length c0_0,.int .i64 t209,.slice A0_2 l0_2.length c0_2,.int .i64 t210,.int .i64 t211,.slice Ao37 t212.length co37] 99 (0,0))) := ⟨(blk_put (cs := #[.slice A0_0 l0_0.length c0_0,.int .i64 t209,.slice A0_2 l0_2.length c0_2,.int .i64 t210,.int .i64 t211,.slice none 0 0]) (blk_put (cs := #[.slice A0_0 l0_0.length c0_0,.int .i64 t209,.slice A0_2 l0_2.length c0_2,.int .i64 t210,.int .i64 0,.slice none 0 0]) (blk_put (cs := #[.slice A0_0 l0_0.length c0_0,.int .i64 t209,.slice A0_2 l0_2.length c0_2,.int .i64 0,.int .i64 0,.slice none 0 0]) (blk_put (cs := #[.slice A0_0 l0_0.length c0_0,.int .i64 t209,.slice none 0 0,.int .i64 0,.int .i64 0,.slice none 0 0]) (blk_put (cs := #[.slice A0_0 l0_0.length c0_0,.int .i64 0,.slice none 0 0,.int .i64 0,.int .i64 0,.slice none 0 0]) (blk_put (cs := #[.slice none 0 0,.int .i64 0,.slice none 0 0,.int .i64 0,.int .i64 0,.slice none 0 0]) BK215.out 0 _ rfl) 1 _ rfl) 2 _ rfl) 3 _ rfl) 4 _ rfl) 5 _ rfl)⟩
     have n5_ : Aside0 (Below w.heap.size w ((((((w32.setCell ⟨gb215,0,none⟩ (.slice A0_0 l0_0.length c0_0)).setCell ⟨gb215,1,none⟩ (.int .i64 t209)).setCell ⟨gb215,2,none⟩ (.slice A0_2 l0_2.length c0_2)).setCell ⟨gb215,3,none⟩ (.int .i64 t210)).setCell ⟨gb215,4,none⟩ (.int .i64 t211)).setCell ⟨gb215,5,none⟩ (.slice Ao37 t212.length co37))) := ⟨by repeat (first | (with_reducible first | exact HB.out | refine below_set ?_ (Aside0.out (by assumption)) | apply below_alloc | apply pw_below_drewN) | exact HB.out)⟩
     (try clear HO214)
     (try clear BK192)
     (try clear BK193)
     (try clear BK194)
     (try clear BK215)
     (try clear HB)
     generalize ((((((w32.setCell ⟨gb215,0,none⟩ (.slice A0_0 l0_0.length c0_0)).setCell ⟨gb215,1,none⟩ (.int .i64 t209)).setCell ⟨gb215,2,none⟩ (.slice A0_2 l0_2.length c0_2)).setCell ⟨gb215,3,none⟩ (.int .i64 t210)).setCell ⟨gb215,4,none⟩ (.int .i64 t211)).setCell ⟨gb215,5,none⟩ (.slice Ao37 t212.length co37)) = w38 at n0_ n1_ n2_ n3_ n4_ n5_ ⊢
     have HO214 := n0_
     have BK192 := n1_
     have BK193 := n2_
     have BK194 := n3_
     have BK215 := n4_
     have HB := n5_
     clear n0_ n1_ n2_ n3_ n4_ n5_
     replace HO214 := am (Kd.S_drew HO214.out)
     replace BK192 := am (blk_drew BK192.out)
     replace BK193 := am (blk_drew BK193.out)
     replace BK194 := am (blk_drew BK194.out)
     replace BK215 := am (blk_drew BK215.out)
     replace HB := am (below_drew1 HB.out)
     refine start_ (n := 11) (S := fun w' => w'.cell? ⟨gb215,0,none⟩ = some (.slice A0_0 l0_0.length c0_0) ∧ w'.cell? ⟨gb215,1,none⟩ = some (.int .i64 t209) ∧ w'.cell? ⟨gb215,2,none⟩ = some (.slice A0_2 l0_2.length c0_2) ∧ w'.cell? ⟨gb215,3,none⟩ = some (.int .i64 t210) ∧ w'.cell? ⟨gb215,4,none⟩ = some (.int .i64 t211) ∧ w'.cell? ⟨gb215,5,none⟩ = some (.slice Ao37 t212.length co37) ∧ w'.cell? ⟨gb193,0,none⟩ = some (.int .i64 a1_0) ∧ w'.cell? ⟨gb193,1,none⟩ = some (.int .i64 a1_1)) (ds := []) (ba 11 0) (by kernel_rfl) rfl rfl ⟨(blk_cell BK215.out 0).trans rfl,(blk_cell BK215.out 1).trans rfl,(blk_cell BK215.out 2).trans rfl,(blk_cell BK215.out 3).trans rfl,(blk_cell BK215.out 4).trans rfl,(blk_cell BK215.out 5).trans rfl,(blk_cell BK193.out 0).trans rfl,(blk_cell BK193.out 1).trans rfl⟩ (fun hHeld => ?_);refine with_tabW ca_Level.tab4 ca_Level.bits4 (fun HT_ HW_ => ?_)
     generalize w38.drew = w39 at HO214 BK192 BK193 BK194 BK215 HB hHeld ⊢
     refine pure_ (i := 1) (N := some 19) (v := ?_) (a' := ?_) (ba 11 2) rfl rfl (any_of HT_.out (by kernel_rfl)) (fun _ _ _ h => h) (Or.inl ⟨by rfl,?_⟩) ?_ ?_
     rotate_left
     · intro w'
       go_simp
       with_reducible rfl
     rotate_left
     · simp only [Act.put,NRM]
       rfl
     refine pure_ (i := 5) (N := some 23) (v := ?_) (a' := ?_) (ba 11 34) rfl rfl (any_of HT_.out (by kernel_rfl)) (fun _ _ _ h => h) (Or.inl ⟨by rfl,?_⟩) ?_ ?_
     rotate_left
     · intro w'
       go_simp
       with_reducible rfl
     rotate_left
     · simp only [Act.put,NRM]
       rfl
     refine take_ (i := 0) (N := some 18) (v := ?_) (a' := ?_) (ba 11 35) rfl rfl (take_ofW HT_.out HW_.out (by kernel_rfl)) (fun _ _ _ h => h) (Or.inl ⟨by rfl,?_⟩) hHeld ?_ ?_
     rotate_left
     · rintro w' ⟨s0,s1,s2,s3,s4,s5,s6,s7⟩
       go_simp
       with_reducible rfl
     rotate_left
     · simp only [Act.put,NRM]
       rfl
     refine take_ (i := 2) (N := some 20) (v := ?_) (a' := ?_) (ba 11 39) rfl rfl (take_ofW HT_.out HW_.out (by kernel_rfl)) (fun _ _ _ h => h) (Or.inl ⟨by rfl,?_⟩) hHeld ?_ ?_
     rotate_left
     · rintro w' ⟨s0,s1,s2,s3,s4,s5,s6,s7⟩
       go_simp
       with_reducible rfl
     rotate_left
     · simp only [Act.put,NRM]
       rfl
     refine take_ (i := 4) (N := some 22) (v := ?_) (a' := ?_) (ba 11 55) rfl rfl (take_ofW HT_.out HW_.out (by kernel_rfl)) (fun _ _ _ h => h) (Or.inl ⟨by rfl,?_⟩) hHeld ?_ ?_
     rotate_left
     · rintro w' ⟨s0,s1,s2,s3,s4,s5,s6,s7⟩
       go_simp
       with_reducible rfl
     rotate_left
     · simp only [Act.put,NRM]
       rfl
     refine take_ (i := 6) (N := some 24) (v := ?_) (a' := ?_) (ba 11 119) rfl rfl (take_ofW HT_.out HW_.out (by kernel_rfl)) (fun _ _ _ h => h) (Or.inl ⟨by rfl,?_⟩) hHeld ?_ ?_
     rotate_left
     · rintro w' ⟨s0,s1,s2,s3,s4,s5,s6,s7⟩
       go_simp
       with_reducible rfl
     rotate_left
     · simp only [Act.put,NRM]
       rfl
     refine one_ (i := 3) (N := some 21) (ba 11 127) rfl rfl (one_of HT_.out (by kernel_rfl)) (by decide) (fun K hK => ?_)
     refine goes_ Tryz.func67 (by kernel_rfl) rfl #[.agg #[.slice A0_0 l0_0.length c0_0,.int .i64 t209,.slice A0_2 l0_2.length c0_2,.int .i64 t210,.int .i64 t211,.slice Ao37 t212.length co37],.int .i64 a1_0] (by rfl) rfl rfl (by (try simp only [List.map_toArray,List.map_cons,List.map_nil]);first | done | rfl | (simp only [List.length_drop,List.length_take];rfl)) ?_
     with_reducible refine (gf_level.calls _ _ l0_0 t209 _ _ l0_2 t210 t211 _ _ t212 a1_0 t216 _ ?side1 ?side2 ?side3 ?side4 ?side5 ?side6 A26.out).mono ?_
     (case side1 => exact kC HR0_0.out HB.out)
     (case side2 => exact HC0_0.out)
     (case side3 => exact kC HR0_2.out HB.out)
     (case side4 => exact HC0_2.out)
     (case side5 => repeat (first | exact (Kd.S_reads' HO214.out).2.2 | (with_reducible refine Kd.C_alloc ?_ _) | (with_reducible refine Kd.C_drewN ?_ _) | (with_reducible refine Kd.C_drew ?_)))
     (case side6 => exact (Kd.S_reads' HO214.out).2.1)
     rintro e w40 ⟨rfl,hb⟩
     refine ⟨_,rfl,?_⟩
     replace HO214 := am (Kd.S_below HO214.out hb)
     replace BK192 := (kmv hb BK192)
     replace BK193 := (kmv hb BK193)
     replace BK194 := (kmv hb BK194)
     replace BK215 := (kmv hb BK215)
     replace HB := am (below_step (HB.out) hb)
     (try clear hb)
     (try clear hb2)
     (try clear hk)
     (try clear hi)
     refine hK.out _ _ ⟨(blk_cell BK215.out 0).trans rfl,(blk_cell BK215.out 1).trans rfl,(blk_cell BK215.out 2).trans rfl,(blk_cell BK215.out 3).trans rfl,(blk_cell BK215.out 4).trans rfl,(blk_cell BK215.out 5).trans rfl,(blk_cell BK193.out 0).trans rfl,(blk_cell BK193.out 1).trans rfl⟩ (fun hHeld => ?_)
     clear hK K
     refine norm_ (a' := ?_) ?_ ?_
     rotate_left
     · show Act.put _ (some 21) _ = _
       simp only [Act.put,NRM]
       rfl
     refine one_ (i := 7) (N := some 25) (ba 11 255) rfl rfl (one_of HT_.out (by kernel_rfl)) (by decide) (fun K hK => ?_)
     refine goes_ Tryz.func67 (by kernel_rfl) rfl #[.agg #[.slice A0_0 l0_0.length c0_0,.int .i64 t209,.slice A0_2 l0_2.length c0_2,.int .i64 t210,.int .i64 t211,.slice Ao37 t212.length co37],.int .i64 a1_1] (by rfl) rfl rfl (by (try simp only [List.map_toArray,List.map_cons,List.map_nil]);first | done | rfl | (simp only [List.length_drop,List.length_take];rfl)) ?_
     with_reducible refine (gf_level.calls _ _ l0_0 t209 _ _ l0_2 t210 t211 _ _ t212 a1_1 t217 _ ?side1 ?side2 ?side3 ?side4 ?side5 ?side6 A27.out).mono ?_
     (case side1 => exact kC HR0_0.out HB.out)
     (case side2 => exact HC0_0.out)
     (case side3 => exact kC HR0_2.out HB.out)
     (case side4 => exact HC0_2.out)
     (case side5 => repeat (first | exact (Kd.S_reads' HO214.out).2.2 | (with_reducible refine Kd.C_alloc ?_ _) | (with_reducible refine Kd.C_drewN ?_ _) | (with_reducible refine Kd.C_drew ?_)))
     (case side6 => exact (Kd.S_reads' HO214.out).2.1)
     rintro e w41 ⟨rfl,hb⟩
     refine ⟨_,rfl,?_⟩
     replace HO214 := am (Kd.S_below HO214.out hb)
     replace BK192 := (kmv hb BK192)
     replace BK193 := (kmv hb BK193)
     replace BK194 := (kmv hb BK194)
     replace BK215 := (kmv hb BK215)
     replace HB := am (below_step (HB.out) hb)
     (try clear hb)
     (try clear hb2)
     (try clear hk)
     (try clear hi)
     refine hK.out _ _ ⟨(blk_cell BK215.out 0).trans rfl,(blk_cell BK215.out 1).trans rfl,(blk_cell BK215.out 2).trans rfl,(blk_cell BK215.out 3).trans rfl,(blk_cell BK215.out 4).trans rfl,(blk_cell BK215.out 5).trans rfl,(blk_cell BK193.out 0).trans rfl,(blk_cell BK193.out 1).trans rfl⟩ (fun hHeld => ?_)
     clear hK K
     refine norm_ (a' := ?_) ?_ ?_
     rotate_left
     · show Act.put _ (some 25) _ = _
       simp only [Act.put,NRM]
       rfl
     refine pure_ (i := 8) (N := some 26) (v := ?_) (a' := ?_) (ba 11 511) rfl rfl (any_of HT_.out (by kernel_rfl)) (fun _ _ _ h => h) (Or.inl ⟨by rfl,?_⟩) ?_ ?_
     rotate_left
     · intro w'
       go_simp
       with_reducible rfl
     rotate_left
     · simp only [Act.put,NRM]
       rfl
     refine one_ (i := 9) (N := none) (ba 11 1023) rfl rfl (one_of HT_.out (by kernel_rfl)) (by decide) (fun K hK => ?_)
     have hs42 := cO1 BK194.out
     have hfs42 := blk_frozen BK194.out 0
     have hns42_0 := NB192_194.out
     have hns42_1 := NB193_194.out
     have hns42_3 := NB215_194.out
     have hms42_0 := NB194_192.out
     have hms42_1 := NB194_193.out
     have hms42_3 := NB194_215.out
     have hs43 : w41.cell? ⟨gb194,1,none⟩ = some (.int .i64 0) := (blk_cell BK194.out 1).trans rfl
     have hfs43 := blk_frozen BK194.out 1
     have hns43_0 := NB192_194.out
     have hns43_1 := NB193_194.out
     have hns43_3 := NB215_194.out
     have hms43_0 := NB194_192.out
     have hms43_1 := NB194_193.out
     have hms43_3 := NB194_215.out
     refine skip_ (w1 := ?_) (by rfl) rfl ?_ ?_
     rotate_left
     · go_simp
       rfl
     refine hK.out _ _ ⟨((cell_far (p := ⟨gb194,_,none⟩) NB215_194.out _).trans (((cell_far (p := ⟨gb194,_,none⟩) NB215_194.out _).trans (hHeld.1)))),((cell_far (p := ⟨gb194,_,none⟩) NB215_194.out _).trans (((cell_far (p := ⟨gb194,_,none⟩) NB215_194.out _).trans (hHeld.2.1)))),((cell_far (p := ⟨gb194,_,none⟩) NB215_194.out _).trans (((cell_far (p := ⟨gb194,_,none⟩) NB215_194.out _).trans (hHeld.2.2.1)))),((cell_far (p := ⟨gb194,_,none⟩) NB215_194.out _).trans (((cell_far (p := ⟨gb194,_,none⟩) NB215_194.out _).trans (hHeld.2.2.2.1)))),((cell_far (p := ⟨gb194,_,none⟩) NB215_194.out _).trans (((cell_far (p := ⟨gb194,_,none⟩) NB215_194.out _).trans (hHeld.2.2.2.2.1)))),((cell_far (p := ⟨gb194,_,none⟩) NB215_194.out _).trans (((cell_far (p := ⟨gb194,_,none⟩) NB215_194.out _).trans (hHeld.2.2.2.2.2.1)))),((cell_far (p := ⟨gb194,_,none⟩) NB193_194.out _).trans (((cell_far (p := ⟨gb194,_,none⟩) NB193_194.out _).trans (hHeld.2.2.2.2.2.2.1)))),((cell_far (p := ⟨gb194,_,none⟩) NB193_194.out _).trans (((cell_far (p := ⟨gb194,_,none⟩) NB193_194.out _).trans (hHeld.2.2.2.2.2.2.2))))⟩ (fun hHeld => ?_)
     clear hK K
     refine pure_ (i := 10) (N := some 5) (v := ?_) (a' := ?_) (ba 11 2047) rfl rfl (any_of HT_.out (by kernel_rfl)) (fun _ _ _ h => h) (Or.inl ⟨by rfl,?_⟩) ?_ ?_
     rotate_left
     · intro w'
       go_simp
       with_reducible rfl
     rotate_left
     · simp only [Act.put,NRM]
       rfl
     refine done_ (done_of HT_.out (by kernel_rfl)) ?_
     try go_wp2
     refine bodyPost_ret (results_ct rfl _ _ gb194 40 #[.int .i64 t216,.int .i64 t217] (0,0) _ rfl (blk_put (cs := #[.int .i64 t216,.int .i64 0]) (blk_put (cs := #[.int .i64 0,.int .i64 0]) BK194.out 0 _ rfl) 1 _ rfl) Tryz.underlying40 rfl (by kernel_rfl)) rfl ?_
     exact ⟨by first | rfl | (simp [*] <;> rfl),by repeat (first | (with_reducible first | exact HB.out | refine below_set ?_ (Aside0.out (by assumption)) | apply below_alloc | apply pw_below_drewN) | exact HB.out)⟩
mutual
def ca_Bounds.j0 : Nat → Bool → List (S126) → Int → List (S64) → Int → Int → Int → Int → Option ((List (S40)) × Int × Int × Int)
 | 0,_,_,_,_,_,_,_,_ => none
 | k + 1,x21,x244000,x244001,x244002,x244003,x244004,x245000,x245001 => if x21 = true then (some (([] : List (S40)),0,0,2)) else ((ca_fill.f k x244000 x244001 x244002 x244003 x244004).bind fun bt260 => ((gf_shares.f k x244000 bt260.1 x244002 bt260.2.1 bt260.2.2.1 bt260.2.2.2 x245000).bind fun bt267 => ((gf_shares.f k x244000 bt260.1 x244002 bt260.2.1 bt260.2.2.1 bt260.2.2.2 x245001).bind fun bt271 => (ca_Bounds.l0 k bt267.1 bt267.2 bt271.1 bt271.2 ([] : List (S40)) (bt267.1.length : Int) 0))))
def ca_Bounds.l0 : Nat → List Int → Int → List Int → Int → List (S40) → Int → Int → Option ((List (S40)) × Int × Int × Int)
 | 0,_,_,_,_,_,_,_ => none
 | k + 1,x8,x9,x10,x11,x12,x40,x41 => if x41 < x40 then (if 0 ≤ x41 then (if x41 < (x8.length : Int) then (if x41 < (x10.length : Int) then (if x12.length < 8796093022208 then (ca_Bounds.l0 k x8 x9 x10 x11 (x12 ++ [(⟨rd x8 x41,rd x10 x41⟩ : S40)]) x40 (wrap64 (x41 + 1))) else (none)) else (none)) else (none)) else (none)) else (some (x12,x9,x11,0))
end
def ca_Bounds.f (k : Nat) (l0_0 : List (S126)) (a0_1 : Int) (l0_2 : List (S64)) (a0_3 : Int) (a0_4 : Int) (a1_0 : Int) (a1_1 : Int) : Option ((List (S40)) × Int × Int × Int) := (ca_isBasin.f l0_0 a0_1 l0_2 a0_3 a0_4).bind fun t246 => (if t246 = true then ((isSpan_isFlow.f a1_0 a1_1).bind fun t247 => (ca_Bounds.j0 k (!t247) l0_0 a0_1 l0_2 a0_3 a0_4 a1_0 a1_1)) else (ca_Bounds.j0 k true l0_0 a0_1 l0_2 a0_3 a0_4 a1_0 a1_1))
def ca_Bounds.T10 : Bool × List (List Nat × List Nat) := (true,[([],[]),([],[]),([],[]),([1,2],[1,2]),([3],[3]),([],[]),([],[]),([5,6],[5,6]),([7],[7]),([4,8],[4,8]),([9],[9]),([0,10],[0,10]),([11,11,0,1,2,3,4,5,6,7,8,9,10,11],[0,11])])
def ca_Bounds.B10 : List Nat := [0,0,0,6,14,0,0,96,224,510,1022,2047,4095]
theorem ca_Bounds.tab10 : rtab .any (opsOf Tryz.f25 10) = ca_Bounds.T10 := by kernel_rfl
theorem ca_Bounds.bits10 : waitsOk ca_Bounds.T10.2 ca_Bounds.B10 = true := by kernel_rfl
theorem ca_Bounds.calls (k : Nat) (A0_0 : Option Addr) (c0_0 : Nat) (l0_0 : List (S126)) (a0_1 : Int) (A0_2 : Option Addr) (c0_2 : Nat) (l0_2 : List (S64)) (a0_3 : Int) (a0_4 : Int) (a1_0 : Int) (a1_1 : Int) (r1 : List (S40)) (r2 : Int) (r3 : Int) (r4 : Int) (w : World) (hr0_0 : Kd.C k126 w A0_0 l0_0.length l0_0) (hc0_0 : l0_0.length ≤ c0_0) (hr0_2 : Kd.C k64 w A0_2 l0_2.length l0_2) (hc0_2 : l0_2.length ≤ c0_2) (h : ca_Bounds.f k l0_0 a0_1 l0_2 a0_3 a0_4 a1_0 a1_1 = some (r1,r2,r3,r4)) (hz : r4 = 0) :
 Calls Tryz.prog 25 #[.agg #[.slice A0_0 l0_0.length c0_0,.int .i64 a0_1,.slice A0_2 l0_2.length c0_2,.int .i64 a0_3,.int .i64 a0_4],.agg #[.int .i64 a1_0,.int .i64 a1_1]] w fun e w' => ∃ v0_ : Value,e = .returned (.tuple #[v0_,.agg #[.int .i64 r2,.int .i64 r3],.int .i64 r4]) ∧ Kd.R k40 40 w' w.heap.size (fun _ => True) v0_ r1 ∧ Below w.heap.size w w' := by
 have hu27 := Tryz.underlying27
 have hu40 := Tryz.underlying40
 have hu99 := Tryz.underlying99
 have HR0_0 := am hr0_0
 have HC0_0 := am hc0_0
 clear hr0_0 hc0_0
 have HR0_2 := am hr0_2
 have HC0_2 := am hc0_2
 clear hr0_2 hc0_2
 have HB := am (Below.refl w.heap.size w)
 have H : ((ca_isBasin.f l0_0 a0_1 l0_2 a0_3 a0_4).bind fun t246 => (if t246 = true then ((isSpan_isFlow.f a1_0 a1_1).bind fun t247 => (ca_Bounds.j0 k (!t247) l0_0 a0_1 l0_2 a0_3 a0_4 a1_0 a1_1)) else (ca_Bounds.j0 k true l0_0 a0_1 l0_2 a0_3 a0_4 a1_0 a1_1))) = some (r1,r2,r3,r4) := h
 clear h
 have HC3 := am H
 clear H
 go_enter Tryz.func25,Tryz.ntmps25
 go_upto_region 1 with (first | ((refine gate_dst (N := 2) rfl ?_);refine box_event rfl (N := 2) rfl (cs := #[.slice A0_0 l0_0.length c0_0,.int .i64 a0_1,.slice A0_2 l0_2.length c0_2,.int .i64 a0_3,.int .i64 a0_4]) (t := 27) ?hr ?_;(case hr => go_simp;try rfl);intro gb243 hg w4 hbox hb;have BK243 := am (hbox);have GE243 := am (ge_new (HB.out) hg);replace HB := am (below_step (HB.out) hb);clear hb hbox hg) | ((refine gate_dst (N := 3) rfl ?_);refine box_event rfl (N := 3) rfl (cs := #[.int .i64 a1_0,.int .i64 a1_1]) (t := 40) ?hr ?_;(case hr => go_simp;try rfl);intro gb244 hg w5 hbox hb;have BK244 := am (hbox);have GE244 := am (ge_new (HB.out) hg);have NB243_244 := am (ne_new BK243.out hg);have NB244_243 := am (ne_new2 BK243.out hg);replace BK243 := (kmv hb BK243);replace HB := am (below_step (HB.out) hb);clear hb hbox hg) | ((refine gate_dst (N := 5) rfl ?_);refine box_event rfl (N := 5) rfl (cs := #[.int .i64 0,.int .i64 0]) (t := 40) ?hr ?_;(case hr => go_simp;try rfl);intro gb245 hg w6 hbox hb;have BK245 := am (hbox);have GE245 := am (ge_new (HB.out) hg);have NB243_245 := am (ne_new BK243.out hg);have NB245_243 := am (ne_new2 BK243.out hg);have NB244_245 := am (ne_new BK244.out hg);have NB245_244 := am (ne_new2 BK244.out hg);replace BK243 := (kmv hb BK243);replace BK244 := (kmv hb BK244);replace HB := am (below_step (HB.out) hb);clear hb hbox hg))
 (try simp only [Act.put,NR3])
 go_cut [21] (fun v21 wc => ∃ (kq : Nat) (x21_2 : Bool),v21 = .bool x21_2 ∧ Aside0 (ca_Bounds.j0 kq x21_2 l0_0 a0_1 l0_2 a0_3 a0_4 a1_0 a1_1 = some (r1,r2,r3,r4)) ∧ Aside0 (kq ≤ k) ∧ Aside0 (wc.heap[gb243]? = some (.cells #[(.slice A0_0 l0_0.length c0_0),.int .i64 a0_1,(.slice A0_2 l0_2.length c0_2),.int .i64 a0_3,.int .i64 a0_4] 27 (0,0))) ∧ Aside0 (wc.heap[gb244]? = some (.cells #[.int .i64 a1_0,.int .i64 a1_1] 40 (0,0))) ∧ Aside0 (wc.heap[gb245]? = some (.cells #[.int .i64 0,.int .i64 0] 40 (0,0))) ∧ Aside0 (Below w.heap.size w wc))
 case first =>
  have H := HC3.out
  clear HC3
  replace H := obm H
  obtain ⟨t246,A70,H⟩ := H
  (try dsimp only at H)
  have A7 := am A70
  clear A70
  by_cases c8 : t246 = true
  case neg =>
   replace c8 := Bool.eq_false_iff.mpr c8
   subst c8
   have H1 : (ca_Bounds.j0 k true l0_0 a0_1 l0_2 a0_3 a0_4 a1_0 a1_1) = some (r1,r2,r3,r4) := by rw [if_neg (show ¬ (false = true) by decide)] at H;exact H
   subst hz
   cases k <;> simp [ca_Bounds.j0] at H1
  subst c8
  rw [if_pos rfl] at H
  replace H := obm H
  obtain ⟨t247,A90,H⟩ := H
  (try dsimp only at H)
  have A9 := am A90
  clear A90
  replace H' := am H
  have hnb10 := NB243_244.out
  have hnc10 := NB244_243.out
  have hnb11 := NB243_245.out
  have hnc11 := NB245_243.out
  obtain ⟨hcz12_0,hcz12_1,hcz12_2,hcz12_3,hcz12_4⟩ := cO5 BK243.out
  go_wp2_with (first | ((with_reducible refine gate_callee (f := 57) rfl ?_);refine goesL_ (some 15) rfl rfl Tryz.func57 (by kernel_rfl) rfl #[.agg #[.slice A0_0 l0_0.length c0_0,.int .i64 a0_1,.slice A0_2 l0_2.length c0_2,.int .i64 a0_3,.int .i64 a0_4]] rfl (by (try simp only [List.map_toArray,List.map_cons,List.map_nil]);first | done | rfl | (simp only [List.length_drop,List.length_take];rfl)) ?_;(refine (ca_isBasin.calls _ _ l0_0 a0_1 _ _ l0_2 a0_3 a0_4 true _ ?side1 ?side2 ?side3 ?side4 A7.out).mono ?_);(case side1 => exact kC HR0_0.out HB.out);(case side2 => exact HC0_0.out);(case side3 => exact kC HR0_2.out HB.out);(case side4 => exact HC0_2.out);rintro e w13 ⟨rfl,hb⟩;refine ⟨_,rfl,?_⟩;replace BK243 := (kmv hb BK243);replace BK244 := (kmv hb BK244);replace BK245 := (kmv hb BK245);replace HB := am (below_step (HB.out) hb);(try clear hb);(try clear hb2);(try clear hk);(try clear hi);have hnb14 := NB244_245.out;have hnc14 := NB245_244.out;obtain ⟨hcz15_0,hcz15_1⟩ := cO2 BK244.out) | (go_at_call 66;(refine (isSpan_isFlow.calls a1_0 a1_1  t247 _ A9.out).mono ?_);rintro e w16 ⟨rfl,hb⟩;replace BK243 := (kmv hb BK243);replace BK244 := (kmv hb BK244);replace BK245 := (kmv hb BK245);replace HB := am (below_step (HB.out) hb);(try clear hb);(try clear hb2);(try clear hk);(try clear hi)))
  go_meet
  case rel => exact ⟨_,(!t247),(by first | rfl | (simp;done) | (simp [*];done)),H',⟨by first | omega | exact Nat.le_refl _⟩,⟨BK243.out⟩,⟨BK244.out⟩,⟨BK245.out⟩,⟨HB.out⟩⟩
 case rest =>
  clear HC3
  obtain ⟨kq,x21_2,rfl,HA,HJ2,BK243,BK244,BK245,HB⟩ := hcut
  cases kq with
  | zero => exact absurd HA.out (by simp [ca_Bounds.j0])
  | succ kj2 =>
   have H := HA.out
   clear HA
   simp only [ca_Bounds.j0] at H
   by_cases c21 : x21_2 = true
   · subst c21
     have H1 : (some (([] : List (S40)),0,0,2)) = some (r1,r2,r3,r4) := by rw [if_pos rfl] at H;exact H
     subst hz
     simp at H1
   · replace c21 := Bool.eq_false_iff.mpr c21
     subst c21
     rw [if_neg (show ¬ (false = true) by decide)] at H
     replace H := obm H
     obtain ⟨⟨t260,t261,t262,t263⟩,A250,H⟩ := H
     (try dsimp only at H)
     have A25 := am A250
     clear A250
     replace H := obm H
     obtain ⟨⟨t267,t270⟩,A260,H⟩ := H
     (try dsimp only at H)
     have A26 := am A260
     clear A260
     replace H := obm H
     obtain ⟨⟨t271,t274⟩,A270,H⟩ := H
     (try dsimp only at H)
     have A27 := am A270
     clear A270
     replace H' := am H
     have hnb28 := NB243_244.out
     have hnc28 := NB244_243.out
     have hnb29 := NB243_245.out
     have hnc29 := NB245_243.out
     obtain ⟨hcz30_0,hcz30_1,hcz30_2,hcz30_3,hcz30_4⟩ := cO5 BK243.out
     go_wp2_with (first | ((with_reducible refine gate_callee (f := 59) rfl ?_);refine goesL_ (some 24) rfl rfl Tryz.func59 (by kernel_rfl) rfl #[.agg #[.slice A0_0 l0_0.length c0_0,.int .i64 a0_1,.slice A0_2 l0_2.length c0_2,.int .i64 a0_3,.int .i64 a0_4]] rfl (by (try simp only [List.map_toArray,List.map_cons,List.map_nil]);first | done | rfl | (simp only [List.length_drop,List.length_take];rfl)) ?_;(refine (ca_fill.calls kj2 _ _ l0_0 a0_1 _ _ l0_2 a0_3 a0_4 t260 t261 t262 t263 _ ?side1 ?side2 ?side3 ?side4 A25.out).mono ?_);(case side1 => exact kC HR0_0.out HB.out);(case side2 => exact HC0_0.out);(case side3 => exact kC HR0_2.out HB.out);(case side4 => exact HC0_2.out);rintro e w31 ⟨v264,rfl,ho0,hb⟩;refine ⟨_,rfl,?_⟩;have HO265 := am (Kd.S_lower ho0 (below_size (HB.out)));replace BK243 := (kmv hb BK243);replace BK244 := (kmv hb BK244);replace BK245 := (kmv hb BK245);replace HB := am (below_step (HB.out) hb);(try clear hb);(try clear hb2);(try clear hk);(try clear hi);(try clear ho0)) | ((refine gate_dst (N := 7) rfl ?_);refine box_event rfl (N := 7) rfl (cs := #[.slice none 0 0,.int .i64 0,.slice none 0 0,.int .i64 0,.int .i64 0,.slice none 0 0]) (t := 99) ?hr ?_;(case hr => go_simp;try rfl);intro gb266 hg w32 hbox hb;have BK266 := am (hbox);have GE266 := am (ge_new (HB.out) hg);have NB243_266 := am (ne_new BK243.out hg);have NB266_243 := am (ne_new2 BK243.out hg);have NB244_266 := am (ne_new BK244.out hg);have NB266_244 := am (ne_new2 BK244.out hg);have NB245_266 := am (ne_new BK245.out hg);have NB266_245 := am (ne_new2 BK245.out hg);replace HO265 := am (Kd.S_below HO265.out hb);replace BK243 := (kmv hb BK243);replace BK244 := (kmv hb BK244);replace BK245 := (kmv hb BK245);replace HB := am (below_step (HB.out) hb);clear hb hbox hg;have hnb33 := NB266_243.out;have hnc33 := NB243_266.out;have hnb34 := NB266_244.out;have hnc34 := NB244_266.out;have hnb35 := NB266_245.out;have hnc35 := NB245_266.out;obtain ⟨hcz36_0,hcz36_1,hcz36_2,hcz36_3,hcz36_4,hcz36_5⟩ := cO6 BK266.out;have hfz36_0 := blk_frozen BK266.out 0;have hfz36_1 := blk_frozen BK266.out 1;have hfz36_2 := blk_frozen BK266.out 2;have hfz36_3 := blk_frozen BK266.out 3;have hfz36_4 := blk_frozen BK266.out 4;have hfz36_5 := blk_frozen BK266.out 5;obtain ⟨Ao37,co37,eo37⟩ := Kd.S_slice HO265.out;subst eo37;have hnb38 := NB244_245.out;have hnc38 := NB245_244.out;obtain ⟨hcz39_0,hcz39_1⟩ := cO2 BK244.out) | ((with_reducible refine gate_callee (f := 60) rfl ?_);refine goesL_ (some 29) rfl rfl Tryz.func60 (by kernel_rfl) rfl #[.agg #[.slice A0_0 l0_0.length c0_0,.int .i64 t260,.slice A0_2 l0_2.length c0_2,.int .i64 t261,.int .i64 t262,.slice Ao37 t263.length co37],.int .i64 a1_0] rfl (by (try simp only [List.map_toArray,List.map_cons,List.map_nil]);first | done | rfl | (simp only [List.length_drop,List.length_take];rfl)) ?_;(refine (gf_shares.calls kj2 _ _ l0_0 t260 _ _ l0_2 t261 t262 _ _ t263 a1_0 t267 t270 _ ?side1 ?side2 ?side3 ?side4 ?side5 ?side6 A26.out).mono ?_);(case side1 => exact kC HR0_0.out (by repeat (first | (with_reducible first | exact HB.out | refine below_set ?_ (Aside0.out (by assumption)) | apply below_alloc | apply pw_below_drewN) | exact HB.out)));(case side2 => exact HC0_0.out);(case side3 => exact kC HR0_2.out (by repeat (first | (with_reducible first | exact HB.out | refine below_set ?_ (Aside0.out (by assumption)) | apply below_alloc | apply pw_below_drewN) | exact HB.out)));(case side4 => exact HC0_2.out);(case side5 => refine (Kd.S_reads' (e := 30) (base := w.heap.size) (ok := fun k_ => True) (n := t263.length) (c := co37) ?_).2.2;exact (Kd.S_mono (Kd.S_far (p := ⟨gb266,5,none⟩) (Kd.S_far (p := ⟨gb266,4,none⟩) (Kd.S_far (p := ⟨gb266,3,none⟩) (Kd.S_far (p := ⟨gb266,2,none⟩) (Kd.S_far (p := ⟨gb266,1,none⟩) (Kd.S_far (p := ⟨gb266,0,none⟩) (Kd.S_types HO265.out BK266.out (by decide)) (fun _ hk => hk.2) (.slice A0_0 l0_0.length c0_0)) (fun _ hk => hk.2) (.int .i64 t260)) (fun _ hk => hk.2) (.slice A0_2 l0_2.length c0_2)) (fun _ hk => hk.2) (.int .i64 t261)) (fun _ hk => hk.2) (.int .i64 t262)) (fun _ hk => hk.2) (.slice Ao37 t263.length co37)) (fun _ h_ => h_.1)));(case side6 => exact (Kd.S_reads' HO265.out).2.1);rintro e w40 ⟨v268,rfl,ho0,hb⟩;refine ⟨_,rfl,?_⟩;have HO269 := am (Kd.R_lower ho0 (below_size (by repeat (first | (with_reducible first | exact HB.out | refine below_set ?_ (Aside0.out (by assumption)) | apply below_alloc | apply pw_below_drewN) | exact HB.out))));replace HO265 := am (Kd.S_elder' (Kd.S_mono (Kd.S_far (p := ⟨gb266,5,none⟩) (Kd.S_far (p := ⟨gb266,4,none⟩) (Kd.S_far (p := ⟨gb266,3,none⟩) (Kd.S_far (p := ⟨gb266,2,none⟩) (Kd.S_far (p := ⟨gb266,1,none⟩) (Kd.S_far (p := ⟨gb266,0,none⟩) (Kd.S_types HO265.out BK266.out (by decide)) (fun _ hk => hk.2) (.slice A0_0 l0_0.length c0_0)) (fun _ hk => hk.2) (.int .i64 t260)) (fun _ hk => hk.2) (.slice A0_2 l0_2.length c0_2)) (fun _ hk => hk.2) (.int .i64 t261)) (fun _ hk => hk.2) (.int .i64 t262)) (fun _ hk => hk.2) (.slice Ao37 t263.length co37)) (fun _ h_ => h_.1)) (Kd.R_base ho0) hb);replace BK243 := am (blk_below (blk_far (blk_far (blk_far (blk_far (blk_far (blk_far BK243.out NB243_266.out _) NB243_266.out _) NB243_266.out _) NB243_266.out _) NB243_266.out _) NB243_266.out _) hb);replace BK244 := am (blk_below (blk_far (blk_far (blk_far (blk_far (blk_far (blk_far BK244.out NB244_266.out _) NB244_266.out _) NB244_266.out _) NB244_266.out _) NB244_266.out _) NB244_266.out _) hb);replace BK245 := am (blk_below (blk_far (blk_far (blk_far (blk_far (blk_far (blk_far BK245.out NB245_266.out _) NB245_266.out _) NB245_266.out _) NB245_266.out _) NB245_266.out _) NB245_266.out _) hb);replace BK266 := am (blk_below (blk_put (cs := #[.slice A0_0 l0_0.length c0_0,.int .i64 t260,.slice A0_2 l0_2.length c0_2,.int .i64 t261,.int .i64 t262,.slice none 0 0]) (blk_put (cs := #[.slice A0_0 l0_0.length c0_0,.int .i64 t260,.slice A0_2 l0_2.length c0_2,.int .i64 t261,.int .i64 0,.slice none 0 0]) (blk_put (cs := #[.slice A0_0 l0_0.length c0_0,.int .i64 t260,.slice A0_2 l0_2.length c0_2,.int .i64 0,.int .i64 0,.slice none 0 0]) (blk_put (cs := #[.slice A0_0 l0_0.length c0_0,.int .i64 t260,.slice none 0 0,.int .i64 0,.int .i64 0,.slice none 0 0]) (blk_put (cs := #[.slice A0_0 l0_0.length c0_0,.int .i64 0,.slice none 0 0,.int .i64 0,.int .i64 0,.slice none 0 0]) (blk_put (cs := #[.slice none 0 0,.int .i64 0,.slice none 0 0,.int .i64 0,.int .i64 0,.slice none 0 0]) BK266.out 0 _ rfl) 1 _ rfl) 2 _ rfl) 3 _ rfl) 4 _ rfl) 5 _ rfl) hb);replace HB := am (below_step (by repeat (first | (with_reducible first | exact HB.out | refine below_set ?_ (Aside0.out (by assumption)) | apply below_alloc | apply pw_below_drewN) | exact HB.out)) hb);(try clear hb);(try clear hb2);(try clear hk);(try clear hi);(try clear ho0);obtain ⟨hcz41_0,hcz41_1,hcz41_2,hcz41_3,hcz41_4,hcz41_5⟩ := cO6 BK266.out;have hfz41_0 := blk_frozen BK266.out 0;have hfz41_1 := blk_frozen BK266.out 1;have hfz41_2 := blk_frozen BK266.out 2;have hfz41_3 := blk_frozen BK266.out 3;have hfz41_4 := blk_frozen BK266.out 4;have hfz41_5 := blk_frozen BK266.out 5;obtain ⟨hcz42_0,hcz42_1⟩ := cO2 BK244.out) | ((with_reducible refine gate_callee (f := 60) rfl ?_);refine goesL_ (some 36) rfl rfl Tryz.func60 (by kernel_rfl) rfl #[.agg #[.slice A0_0 l0_0.length c0_0,.int .i64 t260,.slice A0_2 l0_2.length c0_2,.int .i64 t261,.int .i64 t262,.slice Ao37 t263.length co37],.int .i64 a1_1] rfl (by (try simp only [List.map_toArray,List.map_cons,List.map_nil]);first | done | rfl | (simp only [List.length_drop,List.length_take];rfl)) ?_;(refine (gf_shares.calls kj2 _ _ l0_0 t260 _ _ l0_2 t261 t262 _ _ t263 a1_1 t271 t274 _ ?side1 ?side2 ?side3 ?side4 ?side5 ?side6 A27.out).mono ?_);(case side1 => exact kC HR0_0.out HB.out);(case side2 => exact HC0_0.out);(case side3 => exact kC HR0_2.out HB.out);(case side4 => exact HC0_2.out);(case side5 => repeat (first | exact (Kd.S_reads' HO265.out).2.2 | (with_reducible refine Kd.C_alloc ?_ _) | (with_reducible refine Kd.C_drewN ?_ _) | (with_reducible refine Kd.C_drew ?_)));(case side6 => exact (Kd.S_reads' HO265.out).2.1);rintro e w43 ⟨v272,rfl,ho0,hb⟩;refine ⟨_,rfl,?_⟩;have HO273 := am (Kd.R_lower (Kd.R_new' ho0 (Kd.R_lt HO269.out)) (below_size (HB.out)));replace HO265 := am (Kd.S_elder' HO265.out (Kd.R_base ho0) hb);replace HO269 := am (Kd.R_elder' HO269.out (Kd.R_base ho0) hb);replace BK243 := (kmv hb BK243);replace BK244 := (kmv hb BK244);replace BK245 := (kmv hb BK245);replace BK266 := (kmv hb BK266);replace HB := am (below_step (HB.out) hb);(try clear hb);(try clear hb2);(try clear hk);(try clear hi);(try clear ho0);obtain ⟨Ao44,co44,eo44⟩ := Kd.R_slice HO269.out;subst eo44))
     go_loopg [12,41] kj2 (fun kq v12 v41 w' => ∃ (x12_2 : List (S40)) (x41_2 : Int),v41 = .int .i64 x41_2 ∧ Aside0 (ca_Bounds.l0 kq t267 t270 t271 t274 x12_2 (t267.length : Int) x41_2 = some (r1,r2,r3,r4)) ∧ Aside0 (kq ≤ kj2) ∧ Aside0 (Kd.R (Kd.int .i64) 3 w' w.heap.size (fun k_ => some k_ ≠ (v272 : Value).ownBlock) (.slice Ao44 t267.length co44) t267) ∧ Aside0 (Kd.R (Kd.int .i64) 3 w' w.heap.size (fun k_ => some k_ ≠ ((.slice Ao44 t267.length co44) : Value).ownBlock) v272 t271) ∧ Aside0 (Kd.R k40 40 w' w.heap.size (fun k_ => k_ ≠ gb244 ∧ k_ ≠ gb245) v12 x12_2) ∧ Aside0 (Kd.S (Kd.slice 3 (Kd.int .i64)) 30 w' w.heap.size (fun k_ => some k_ ≠ ((.slice Ao44 t267.length co44) : Value).ownBlock ∧ some k_ ≠ (v272 : Value).ownBlock) (.slice Ao37 t263.length co37) t263) ∧ Aside0 (w'.heap[gb243]? = some (.cells #[(.slice A0_0 l0_0.length c0_0),.int .i64 a0_1,(.slice A0_2 l0_2.length c0_2),.int .i64 a0_3,.int .i64 a0_4] 27 (0,0))) ∧ Aside0 (w'.heap[gb244]? = some (.cells #[.int .i64 a1_0,.int .i64 a1_1] 40 (0,0))) ∧ Aside0 (w'.heap[gb245]? = some (.cells #[.int .i64 0,.int .i64 0] 40 (0,0))) ∧ Aside0 (w'.heap[gb266]? = some (.cells #[(.slice A0_0 l0_0.length c0_0),.int .i64 t260,(.slice A0_2 l0_2.length c0_2),.int .i64 t261,.int .i64 t262,(.slice Ao37 t263.length co37)] 99 (0,0))) ∧ Aside0 (Below w.heap.size w w'))
     case atStart => exact ⟨(([] : List (S40))),(0),(by first | rfl | (simp;done) | (simp [*];done)),H',⟨Nat.le_refl _⟩,⟨by (with_reducible repeat (first | apply Kd.R_alloc | apply Kd.R_drewN | apply Kd.R_drew));exact Kd.R_mono HO269.out (fun _ hk => hk.2)⟩,⟨by (with_reducible repeat (first | apply Kd.R_alloc | apply Kd.R_drewN | apply Kd.R_drew));exact Kd.R_mono HO273.out (fun _ hk => hk.2)⟩,⟨by first | exact Kd.R_nil _ _ _ _ _ | exact Kd.N_nil _ _ _ _ _ | exact Kd.V_nil _ _ _ _ _ | exact Kd.Q_nil _ _ _ _ _ | exact Kd.S_nil _ _ _ _ _⟩,⟨by (with_reducible repeat (first | apply Kd.S_alloc | apply Kd.S_drewN | apply Kd.S_drew));exact Kd.S_mono HO265.out (fun _ hk => ⟨hk.1.2,hk.2⟩)⟩,⟨BK243.out⟩,⟨BK244.out⟩,⟨BK245.out⟩,⟨BK266.out⟩,⟨HB.out⟩⟩
     case round =>
      clear H'
      obtain ⟨x12_2,x41_2,rfl,HA,HK2,HO_8,HO_10,HO_12,HO_267005,BK243,BK244,BK245,BK266,HB⟩ := hrel
      cases gk with
      | zero => exact absurd HA.out (by simp [ca_Bounds.l0])
      | succ k2 =>
       have H := HA.out
       clear HA
       simp only [ca_Bounds.l0] at H
       by_cases c45 : x41_2 < (t267.length : Int)
       case neg =>
        rw [if_neg c45] at H
        have c45b0 : decide (x41_2 < (t267.length : Int)) = false := decide_eq_false c45
        clear c45
        simp only [Option.some.injEq,Prod.mk.injEq] at H
        obtain ⟨rfl,rfl,rfl,rfl⟩ := H
        have hnb53 := NB245_243.out
        have hnc53 := NB243_245.out
        have hnb54 := NB245_244.out
        have hnc54 := NB244_245.out
        have hnb55 := NB245_266.out
        have hnc55 := NB266_245.out
        obtain ⟨hcz56_0,hcz56_1⟩ := cO2 BK245.out
        have hfz56_0 := blk_frozen BK245.out 0
        have hfz56_1 := blk_frozen BK245.out 1
        go_wp2
        refine bodyPost_ret (results_list (rs := [.tmp 4,.cell 5 40,.tmp 6]) rfl (by simp) (.tmp (.cell gb245 40 #[.int .i64 t270,.int .i64 t274] (0,0) _ rfl (blk_put (cs := #[.int .i64 t270,.int .i64 0]) (blk_put (cs := #[.int .i64 0,.int .i64 0]) BK245.out 0 _ rfl) 1 _ rfl) Tryz.underlying40 rfl (by kernel_rfl) (.tmp .nil)))) rfl ?_
        exact ⟨_,by first | rfl | (simp [*] <;> rfl),by (with_reducible repeat (first | apply Kd.R_alloc | apply Kd.R_drewN | apply Kd.R_drew));exact Kd.R_mono (Kd.R_far (p := ⟨gb245,1,none⟩) (Kd.R_far (p := ⟨gb245,0,none⟩) (Kd.R_mono HO_12.out (fun k_ hk => (⟨hk,hk.2⟩ : _ ∧ k_ ≠ gb245))) (fun _ hk => hk.2) (.int .i64 t270)) (fun _ hk => hk.2) (.int .i64 t274)) (fun _ hk => trivial),by repeat (first | (with_reducible first | exact HB.out | refine below_set ?_ (Aside0.out (by assumption)) | apply below_alloc | apply pw_below_drewN) | exact HB.out)⟩
       rw [if_pos c45] at H
       have c45b0 : decide (x41_2 < (t267.length : Int)) = true := decide_eq_true c45
       clear c45
       by_cases c46 : 0 ≤ x41_2
       case neg =>
        rw [if_neg c46] at H
        exact absurd H (by simp)
       rw [if_pos c46] at H
       have c46b0 : decide (0 ≤ x41_2) = true := decide_eq_true c46
       clear c46
       by_cases c47 : x41_2 < (t267.length : Int)
       case neg =>
        rw [if_neg c47] at H
        exact absurd H (by simp)
       rw [if_pos c47] at H
       have c47b0 : decide (x41_2 < (t267.length : Int)) = true := decide_eq_true c47
       clear c47
       by_cases c48 : x41_2 < (t271.length : Int)
       case neg =>
        rw [if_neg c48] at H
        exact absurd H (by simp)
       rw [if_pos c48] at H
       have c48b0 : decide (x41_2 < (t271.length : Int)) = true := decide_eq_true c48
       clear c48
       by_cases c49 : x12_2.length < 8796093022208
       case neg =>
        rw [if_neg c49] at H
        exact absurd H (by simp)
       rw [if_pos c49] at H
       have LMc49 := am c49
       clear c49
       obtain ⟨y277,hy277⟩ : ∃ y_ : List (S40),y_ = (x12_2 ++ [(⟨rd t267 x41_2,rd t271 x41_2⟩ : S40)]) := ⟨_,rfl⟩
       replace H : (ca_Bounds.l0 k2 t267 t270 t271 t274 y277 (t267.length : Int) (wrap64 (x41_2 + 1))) = some (r1,r2,r3,r4) := by first | (rw [hy277];with_reducible exact H) | (have H2_ := (Option.bind_some _ _).symm.trans H;rw [hy277];with_reducible exact H2_) | (have H2_ := (Option.bind_some _ _).symm.trans H;with_reducible exact H2_) | with_reducible exact H | (rw [hy277];exact H) | exact H
       have Ny277 := am hy277
       clear hy277
       replace H' := am H
       try go_wp2
       replace HO_8 := am (Kd.R_drew HO_8.out)
       replace HO_10 := am (Kd.R_drew HO_10.out)
       replace HO_12 := am (Kd.R_drew HO_12.out)
       replace HO_267005 := am (Kd.S_drew HO_267005.out)
       replace BK243 := am (blk_drew BK243.out)
       replace BK244 := am (blk_drew BK244.out)
       replace BK245 := am (blk_drew BK245.out)
       replace BK266 := am (blk_drew BK266.out)
       replace HB := am (below_drew1 HB.out)
       have p275 : 0 ≤ (x41_2 : Int) := of_decide_eq_true (by assumption)
       have q275 : x41_2 < (t267.length : Int) := of_decide_eq_true (by assumption)
       obtain ⟨ad275,e275,hx275_0⟩ := Kd.at_int (Kd.R_reads' HO_8.out).2.2 x41_2 p275 q275
       cases e275
       replace p275 := eq_true p275
       replace q275 := eq_true q275
       obtain ⟨Ao51,co51,eo51⟩ := Kd.R_slice HO_10.out
       (first | subst eo51 | (injection eo51 with f1_ f2_ f3_;have f4_ := f1_.symm;have f5_ := f3_.symm;clear f1_ f2_ f3_;subst f4_;subst f5_))
       have p276 : 0 ≤ (x41_2 : Int) := of_decide_eq_true (by assumption)
       have q276 : x41_2 < (t271.length : Int) := of_decide_eq_true (by assumption)
       obtain ⟨ad276,e276,hx276_0⟩ := Kd.at_int (Kd.R_reads' HO_10.out).2.2 x41_2 p276 q276
       cases e276
       replace p276 := eq_true p276
       replace q276 := eq_true q276
       refine start_ (n := 13) (S := fun w' => w'.cell? (ad275.add (x41_2).toNat) = some (.int .i64 (rd t267 x41_2)) ∧ w'.cell? (ad276.add (x41_2).toNat) = some (.int .i64 (rd t271 x41_2))) (ds := [10,11]) (ba 13 0) (by kernel_rfl) rfl rfl ⟨hx275_0,hx276_0⟩ (fun hHeld => ?_);refine with_tabW ca_Bounds.tab10 ca_Bounds.bits10 (fun HT_ HW_ => ?_)
       generalize wr.drew = w50 at HO_8 HO_10 HO_12 HO_267005 BK243 BK244 BK245 BK266 HB hx275_0 hx276_0 hHeld ⊢
       refine pure_ (i := 0) (N := some 44) (v := ?_) (a' := ?_) (ba 13 1) rfl rfl (any_of HT_.out (by kernel_rfl)) (fun _ _ _ h => h) (Or.inl ⟨by rfl,?_⟩) ?_ ?_
       rotate_left
       · intro w'
         go_simp
         with_reducible rfl
       rotate_left
       · simp only [Act.put,NRM]
         rfl
       refine pure_ (i := 1) (N := some 45) (v := ?_) (a' := ?_) (ba 13 3) rfl rfl (any_of HT_.out (by kernel_rfl)) (fun _ _ _ h => h) (Or.inl ⟨by rfl,?_⟩) ?_ ?_
       rotate_left
       · intro w'
         go_simp
         with_reducible rfl
       rotate_left
       · simp only [Act.put,NRM]
         rfl
       refine pure_ (i := 2) (N := some 46) (v := ?_) (a' := ?_) (ba 13 7) rfl rfl (any_of HT_.out (by kernel_rfl)) (fun _ _ _ h => h) (Or.inl ⟨by rfl,?_⟩) ?_ ?_
       rotate_left
       · intro w'
         go_simp
         with_reducible rfl
       rotate_left
       · simp only [Act.put,NRM]
         rfl
       refine pure_ (i := 3) (N := some 47) (v := ?_) (a' := ?_) (ba 13 15) rfl rfl (any_of HT_.out (by kernel_rfl)) (fun _ _ _ h => h) (Or.inl ⟨by rfl,?_⟩) ?_ ?_
       rotate_left
       · intro w'
         go_simp
         with_reducible rfl
       rotate_left
       · simp only [Act.put,NRM]
         rfl
       refine pure_ (i := 5) (N := some 49) (v := ?_) (a' := ?_) (ba 13 47) rfl rfl (any_of HT_.out (by kernel_rfl)) (fun _ _ _ h => h) (Or.inl ⟨by rfl,?_⟩) ?_ ?_
       rotate_left
       · intro w'
         go_simp
         with_reducible rfl
       rotate_left
       · simp only [Act.put,NRM]
         rfl
       refine pure_ (i := 6) (N := some 50) (v := ?_) (a' := ?_) (ba 13 111) rfl rfl (any_of HT_.out (by kernel_rfl)) (fun _ _ _ h => h) (Or.inl ⟨by rfl,?_⟩) ?_ ?_
       rotate_left
       · intro w'
         go_simp
         with_reducible rfl
       rotate_left
       · simp only [Act.put,NRM]
         rfl
       refine pure_ (i := 7) (N := some 51) (v := ?_) (a' := ?_) (ba 13 239) rfl rfl (any_of HT_.out (by kernel_rfl)) (fun _ _ _ h => h) (Or.inl ⟨by rfl,?_⟩) ?_ ?_
       rotate_left
       · intro w'
         go_simp
         with_reducible rfl
       rotate_left
       · simp only [Act.put,NRM]
         rfl
       refine take_ (i := 4) (N := some 48) (v := ?_) (a' := ?_) (ba 13 255) rfl rfl (take_ofW HT_.out HW_.out (by kernel_rfl)) (fun _ _ _ h => h) (Or.inl ⟨by rfl,?_⟩) hHeld ?_ ?_
       rotate_left
       · rintro w' ⟨s0,s1⟩
         go_simp
         with_reducible rfl
       rotate_left
       · simp only [Act.put,NRM]
         rfl
       refine take_ (i := 8) (N := some 52) (v := ?_) (a' := ?_) (ba 13 511) rfl rfl (take_ofW HT_.out HW_.out (by kernel_rfl)) (fun _ _ _ h => h) (Or.inl ⟨by rfl,?_⟩) hHeld ?_ ?_
       rotate_left
       · rintro w' ⟨s0,s1⟩
         go_simp
         with_reducible rfl
       rotate_left
       · simp only [Act.put,NRM]
         rfl
       refine pure_ (i := 9) (N := some 53) (v := ?_) (a' := ?_) (ba 13 1023) rfl rfl (any_of HT_.out (by kernel_rfl)) (fun _ _ _ h => h) (Or.inl ⟨by rfl,?_⟩) ?_ ?_
       rotate_left
       · intro w'
         go_simp
         with_reducible rfl
       rotate_left
       · simp only [Act.put,NRM]
         rfl
       refine last_ (i := 10) (N := some 54) (ba 13 2047) rfl rfl (one_of HT_.out (by kernel_rfl)) (by decide) (fun K hK => ?_)
       refine value_ (w1 := ?_) (v := ?_) (by rfl) rfl ?_ ?_
       rotate_left 2
       · go_simp
         constructor
         · rfl
         · rfl
       refine hK.out _ _ ?_
       clear hK K
       refine norm_ (a' := ?_) ?_ ?_
       rotate_left
       · show Act.put _ (some 54) _ = _
         simp only [Act.put,NRM]
         rfl
       refine last_ (i := 11) (N := some 55) (ba 13 4095) rfl rfl (one_of HT_.out (by kernel_rfl)) (by decide) (fun K hK => ?_)
       refine Kd.R_append_step k40 (w0 := w) w.heap.size (by rfl) (.tmp 44) (.tmp 54) 45 40 (.agg #[(.int .i64 0),(.int .i64 0)]) 16 rfl Tryz.underlying45 info40 rfl (by decide) (by omega) u12 x12_2 (⟨rd t267 x41_2,rd t271 x41_2⟩ : S40) [.int .i64 (rd t267 x41_2),.int .i64 (rd t271 x41_2)] (fun k_ => k_ ≠ gb244 ∧ k_ ≠ gb245) (fun _ => False) rfl rfl ?aP (fun _ hk => hk.elim) ?aF ?aO ?aB ?aS ?aL ?_
       (case aP => exact k40_mkM _ _ _ (⟨rd t267 x41_2,rd t271 x41_2⟩ : S40))
       (case aB => exact (HB.out))
       (case aF => exact (fun k_ hk => ⟨Kd.freshB (g := gb244) (o := .cells #[.int .i64 a1_0,.int .i64 a1_1] 40 (0,0)) BK244.out k_ hk,Kd.freshB (g := gb245) (o := .cells #[.int .i64 0,.int .i64 0] 40 (0,0)) BK245.out k_ hk⟩))
       (case aO => exact HO_12.out)
       (case aS => exact (below_size (HB.out)))
       (case aL => have := LMc49.out;omega)
       intro v278 w52 ho hb hg hat
       rw [← Ny277.out] at ho
       have n0_ := am (Kd.R_over' HO_8.out (Kd.R_typed HO_12.out) (by decide) hg)
       have n1_ := am (Kd.R_over' HO_10.out (Kd.R_typed HO_12.out) (by decide) hg)
       have n2_ := am (Kd.S_over' HO_267005.out (Kd.R_typed HO_12.out) (by decide) hg)
       have n3_ := am (blk_grown (g := gb243) (o := .cells #[.slice A0_0 l0_0.length c0_0,.int .i64 a0_1,.slice A0_2 l0_2.length c0_2,.int .i64 a0_3,.int .i64 a0_4] 27 (0,0)) BK243.out hg (Kd.R_ne HO_12.out BK243.out (by decide)))
       have n4_ := am (blk_grown (g := gb244) (o := .cells #[.int .i64 a1_0,.int .i64 a1_1] 40 (0,0)) BK244.out hg (Kd.R_away HO_12.out (fun _ hk => hk.1)))
       have n5_ := am (blk_grown (g := gb245) (o := .cells #[.int .i64 0,.int .i64 0] 40 (0,0)) BK245.out hg (Kd.R_away HO_12.out (fun _ hk => hk.2)))
       have n6_ := am (blk_grown (g := gb266) (o := .cells #[.slice A0_0 l0_0.length c0_0,.int .i64 t260,.slice A0_2 l0_2.length c0_2,.int .i64 t261,.int .i64 t262,.slice Ao37 t263.length co37] 99 (0,0)) BK266.out hg (Kd.R_ne HO_12.out BK266.out (by decide)))
       have n7_ := am (hb)
       have n8_ := am (ho)
       clear HO_8
       clear HO_10
       clear HO_267005
       clear BK243
       clear BK244
       clear BK245
       clear BK266
       clear HB
       clear HO_12
       have HO_8 := n0_
       have HO_10 := n1_
       have HO_267005 := n2_
       have BK243 := n3_
       have BK244 := n4_
       have BK245 := n5_
       have BK266 := n6_
       have HB := n7_
       have HO279 := n8_
       clear n0_ n1_ n2_ n3_ n4_ n5_ n6_ n7_ n8_
       clear ho hb hg hat
       refine hK.out _ _ ?_
       clear hK K
       refine norm_ (a' := ?_) ?_ ?_
       rotate_left
       · show Act.put _ (some 55) _ = _
         simp only [Act.put,NRM]
         rfl
       refine pure_ (i := 12) (N := some 12) (v := ?_) (a' := ?_) (ba 13 8191) rfl rfl (any_of HT_.out (by kernel_rfl)) (fun _ _ _ h => h) (Or.inl ⟨by rfl,?_⟩) ?_ ?_
       rotate_left
       · intro w'
         go_simp
         with_reducible rfl
       rotate_left
       · simp only [Act.put,NRM]
         rfl
       refine done_ (done_of HT_.out (by kernel_rfl)) ?_
       try go_wp2
       go_roundg k2
       case measure => have := HJ2.out;have := HK2.out;omega
       case rel => exact ⟨(y277),(wrap64 (x41_2 + 1)),(by first | rfl | (simp;done) | (simp [*];done)),H',⟨by have := HJ2.out;have := HK2.out;omega⟩,⟨by (with_reducible repeat (first | apply Kd.R_alloc | apply Kd.R_drewN | apply Kd.R_drew));exact HO_8.out⟩,⟨by (with_reducible repeat (first | apply Kd.R_alloc | apply Kd.R_drewN | apply Kd.R_drew));exact HO_10.out⟩,⟨by (with_reducible repeat (first | apply Kd.R_alloc | apply Kd.R_drewN | apply Kd.R_drew));exact HO279.out⟩,⟨by (with_reducible repeat (first | apply Kd.S_alloc | apply Kd.S_drewN | apply Kd.S_drew));exact HO_267005.out⟩,⟨BK243.out⟩,⟨BK244.out⟩,⟨BK245.out⟩,⟨BK266.out⟩,⟨HB.out⟩⟩
end
end Go.Proofs.YticlelgmmonloaaGreatDoor.C

/- A part of the proof: the walks of the functions that it reaches. TIGHT. -/
import Derived.Test.YticlelgmmonloaaGreatDoorM14
namespace Go.Proofs.YticlelgmmonloaaGreatDoor.C
open Go.RowKit Go.Proofs.YticlelgmmonloaaGreatDoorW.PrintWords Go.Proofs.YticlelgmmonloaaGreatDoorW.PrintLast Go.Proofs.YticlelgmmonloaaGreatDoorW.PrintMore
set_option linter.unusedVariables false
set_option linter.unusedSimpArgs false
set_option maxHeartbeats 16000000
set_option maxRecDepth 100000
section
attribute [local go_sem] max2_int min2_int max_two min_two
mutual
def ca_Lowered.j0 : Nat → Int → List (S40) → Bool → List (S126) → Int → List (S64) → Int → Int → Option ((List (S58)) × Int)
 | 0,_,_,_,_,_,_,_,_ => none
 | k + 1,x1,x2,x38,x355000,x355001,x355002,x355003,x355004 => if x38 = true then (some (([] : List (S58)),2)) else (ca_Lowered.l0 k x1 x2 ([] : List (S58)) x355002 (x355002.length : Int) 0 x355000 x355001 x355002 x355003 x355004)
def ca_Lowered.l0 : Nat → Int → List (S40) → List (S58) → List (S64) → Int → Int → List (S126) → Int → List (S64) → Int → Int → Option ((List (S58)) × Int)
 | 0,_,_,_,_,_,_,_,_,_,_,_ => none
 | k + 1,x1,x2,x9,x40,x41,x42,x355000,x355001,x355002,x355003,x355004 => if x42 < x41 then (if 0 ≤ x42 then (if x42 < (x40.length : Int) then (ca_Lowered.l1 k x1 x2 x9 x42 x40 x41 x42 0 x355000 x355001 x355002 x355003 x355004 ((rd_T64 x40 x42).f0) ((rd_T64 x40 x42).f1)) else (none)) else (none)) else (some (x9,0))
def ca_Lowered.l1 : Nat → Int → List (S40) → List (S58) → Int → List (S64) → Int → Int → Int → List (S126) → Int → List (S64) → Int → Int → Int → Int → Option ((List (S58)) × Int)
 | 0,_,_,_,_,_,_,_,_,_,_,_,_,_,_,_ => none
 | k + 1,x1,x2,x9,x10,x40,x41,x42,x47,x355000,x355001,x355002,x355003,x355004,x360000,x360001 => if x47 < 41 then (if x47 = x360001 then (ca_Lowered.l1 k x1 x2 x9 x10 x40 x41 x42 (wrap64 (x47 + 1)) x355000 x355001 x355002 x355003 x355004 x360000 x360001) else ((ca_changed.f x355000 x355001 x355002 x355003 x355004 x10 x47).bind fun t370 => ((ca_fill.f k x355000 x355001 t370 x355003 x355004).bind fun bt385 => ((gf_shares.f k x355000 bt385.1 t370 bt385.2.1 bt385.2.2.1 bt385.2.2.2 x1).bind fun bt391 => (ca_Lowered.l2 k x1 x2 x9 x10 bt391.1 x40 x41 x42 x47 x2 (x2.length : Int) 0 x355000 x355001 x355002 x355003 x355004 x360000 x360001 x10 x47))))) else (ca_Lowered.l0 k x1 x2 x9 x40 x41 (wrap64 (x42 + 1)) x355000 x355001 x355002 x355003 x355004)
def ca_Lowered.l2 : Nat → Int → List (S40) → List (S58) → Int → List Int → List (S64) → Int → Int → Int → List (S40) → Int → Int → List (S126) → Int → List (S64) → Int → Int → Int → Int → Int → Int → Option ((List (S58)) × Int)
 | 0,_,_,_,_,_,_,_,_,_,_,_,_,_,_,_,_,_,_,_,_,_ => none
 | k + 1,x1,x2,x9,x10,x14,x40,x41,x42,x47,x66,x67,x68,x355000,x355001,x355002,x355003,x355004,x360000,x360001,x361000,x361001 => if x68 < x67 then (if 0 ≤ x68 then (if x68 < (x66.length : Int) then (if x68 < (x14.length : Int) then ((ca_in.f (rd x14 x68) ((rd_T40 x66 x68).f0) ((rd_T40 x66 x68).f1)).bind fun t398 => (if t398 = true then (ca_Lowered.l2 k x1 x2 x9 x10 x14 x40 x41 x42 x47 x66 x67 (wrap64 (x68 + 1)) x355000 x355001 x355002 x355003 x355004 x360000 x360001 x361000 x361001) else (ca_Lowered.l1 k x1 x2 x9 x10 x40 x41 x42 (wrap64 (x47 + 1)) x355000 x355001 x355002 x355003 x355004 x360000 x360001))) else (none)) else (none)) else (none)) else (if x9.length < 8796093022208 then (ca_Lowered.l1 k x1 x2 (x9 ++ [(⟨x361000,x361001⟩ : S58)]) x10 x40 x41 x42 (wrap64 (x47 + 1)) x355000 x355001 x355002 x355003 x355004 x360000 x360001) else (none))
end
def ca_Lowered.f (k : Nat) (l0_0 : List (S126)) (a0_1 : Int) (l0_2 : List (S64)) (a0_3 : Int) (a0_4 : Int) (a1 : Int) (l2 : List (S40)) : Option ((List (S58)) × Int) := (ca_isBasin.f l0_0 a0_1 l0_2 a0_3 a0_4).bind fun t355 => (if t355 = true then ((ca_isFlow.f a1).bind fun t356 => (if t356 = true then (if (l2.length : Int) = (l0_2.length : Int) then ((cf_Lowered.f l2).bind fun t357 => (ca_Lowered.j0 k a1 l2 t357 l0_0 a0_1 l0_2 a0_3 a0_4)) else (ca_Lowered.j0 k a1 l2 true l0_0 a0_1 l0_2 a0_3 a0_4)) else (ca_Lowered.j0 k a1 l2 true l0_0 a0_1 l0_2 a0_3 a0_4))) else (ca_Lowered.j0 k a1 l2 true l0_0 a0_1 l0_2 a0_3 a0_4))
theorem ca_Lowered.calls (k : Nat) (A0_0 : Option Addr) (c0_0 : Nat) (l0_0 : List (S126)) (a0_1 : Int) (A0_2 : Option Addr) (c0_2 : Nat) (l0_2 : List (S64)) (a0_3 : Int) (a0_4 : Int) (a1 : Int) (A2 : Option Addr) (c2 : Nat) (l2 : List (S40)) (r1 : List (S58)) (r2 : Int) (w : World) (hr0_0 : Kd.C k126 w A0_0 l0_0.length l0_0) (hc0_0 : l0_0.length ≤ c0_0) (hr0_2 : Kd.C k64 w A0_2 l0_2.length l0_2) (hc0_2 : l0_2.length ≤ c0_2) (hr2 : Kd.C k40 w A2 l2.length l2) (hc2 : l2.length ≤ c2) (h : ca_Lowered.f k l0_0 a0_1 l0_2 a0_3 a0_4 a1 l2 = some (r1,r2)) (hz : r2 = 0) :
 Calls Tryz.prog 45 #[.agg #[.slice A0_0 l0_0.length c0_0,.int .i64 a0_1,.slice A0_2 l0_2.length c0_2,.int .i64 a0_3,.int .i64 a0_4],.int .i64 a1,.slice A2 l2.length c2] w fun e w' => ∃ v0_ : Value,e = .returned (.tuple #[v0_,.int .i64 r2]) ∧ Kd.R k58 58 w' w.heap.size (fun _ => True) v0_ r1 ∧ Below w.heap.size w w' := by
 have hu27 := Tryz.underlying27
 have hu64 := Tryz.underlying64
 have hu58 := Tryz.underlying58
 have hu40 := Tryz.underlying40
 have HR0_0 := am hr0_0
 have HC0_0 := am hc0_0
 clear hr0_0 hc0_0
 have HR0_2 := am hr0_2
 have HC0_2 := am hc0_2
 clear hr0_2 hc0_2
 have HR2 := am hr2
 have HC2 := am hc2
 clear hr2 hc2
 have HB := am (Below.refl w.heap.size w)
 have H : ((ca_isBasin.f l0_0 a0_1 l0_2 a0_3 a0_4).bind fun t355 => (if t355 = true then ((ca_isFlow.f a1).bind fun t356 => (if t356 = true then (if (l2.length : Int) = (l0_2.length : Int) then ((cf_Lowered.f l2).bind fun t357 => (ca_Lowered.j0 k a1 l2 t357 l0_0 a0_1 l0_2 a0_3 a0_4)) else (ca_Lowered.j0 k a1 l2 true l0_0 a0_1 l0_2 a0_3 a0_4)) else (ca_Lowered.j0 k a1 l2 true l0_0 a0_1 l0_2 a0_3 a0_4))) else (ca_Lowered.j0 k a1 l2 true l0_0 a0_1 l0_2 a0_3 a0_4))) = some (r1,r2) := h
 clear h
 have HC4 := am H
 clear H
 go_enter Tryz.func45,Tryz.ntmps45
 go_upto_region 2 with (first | ((refine gate_dst (N := 3) rfl ?_);(try (refine gate_guard (by rfl) ?_;dsimp only));refine box_event rfl (N := 3) rfl (cs := #[.slice A0_0 l0_0.length c0_0,.int .i64 a0_1,.slice A0_2 l0_2.length c0_2,.int .i64 a0_3,.int .i64 a0_4]) (t := 27) ?hr ?_;(case hr => go_simp;try rfl);intro gb354 hg w5 hbox hb;have BK354 := am (hbox);have GE354 := am (ge_new (by repeat (first | (with_reducible first | exact HB.out | apply below_alloc | apply pw_below_drewN) | exact HB.out)) hg);replace HB := am (below_step (by repeat (first | (with_reducible first | exact HB.out | apply below_alloc | apply pw_below_drewN) | exact HB.out)) hb);clear hb hbox hg))
 (try simp only [Act.put,NR3])
 go_cut [38] (fun v38 wc => ∃ (kq : Nat) (x38_3 : Bool),v38 = .bool x38_3 ∧ Aside0 (ca_Lowered.j0 kq a1 l2 x38_3 l0_0 a0_1 l0_2 a0_3 a0_4 = some (r1,r2)) ∧ Aside0 (kq ≤ k) ∧ Aside0 (wc.heap[gb354]? = some (.cells #[(.slice A0_0 l0_0.length c0_0),.int .i64 a0_1,(.slice A0_2 l0_2.length c0_2),.int .i64 a0_3,.int .i64 a0_4] 27 (0,0))) ∧ Aside0 (Below w.heap.size w wc))
 case first =>
  have H := HC4.out
  clear HC4
  replace H := obm H
  obtain ⟨t355,A60,H⟩ := H
  (try dsimp only at H)
  have A6 := am A60
  clear A60
  by_cases c7 : t355 = true
  case neg =>
   replace c7 := Bool.eq_false_iff.mpr c7
   subst c7
   have H1 : (ca_Lowered.j0 k a1 l2 true l0_0 a0_1 l0_2 a0_3 a0_4) = some (r1,r2) := by rw [if_neg (show ¬ (false = true) by decide)] at H;exact H
   subst hz
   cases k <;> simp [ca_Lowered.j0] at H1
  subst c7
  rw [if_pos rfl] at H
  replace H := obm H
  obtain ⟨t356,A80,H⟩ := H
  (try dsimp only at H)
  have A8 := am A80
  clear A80
  by_cases c9 : t356 = true
  case neg =>
   replace c9 := Bool.eq_false_iff.mpr c9
   subst c9
   have H1 : (ca_Lowered.j0 k a1 l2 true l0_0 a0_1 l0_2 a0_3 a0_4) = some (r1,r2) := by rw [if_neg (show ¬ (false = true) by decide)] at H;exact H
   subst hz
   cases k <;> simp [ca_Lowered.j0] at H1
  subst c9
  rw [if_pos rfl] at H
  by_cases c10 : (l2.length : Int) = (l0_2.length : Int)
  case neg =>
   rw [if_neg c10] at H
   have c10b0 : ((l2.length : Int) == (l0_2.length : Int)) = false := beq_eq_false_iff_ne.mpr c10
   have c10b1 : ((l2.length : Int) != (l0_2.length : Int)) = true := bne_iff_ne.mpr c10
   have c10b2 : (l2.length == l0_2.length) = false := by first | simpa using c10 | (simp at c10 ⊢;omega)
   (first | rw [c10b0] | (simp only [i64_w,i32_w];rw [c10b0]) | skip)
   replace H' := am H
   obtain ⟨hcz16_0,hcz16_1,hcz16_2,hcz16_3,hcz16_4⟩ := cO5 BK354.out
   iterate 4 ((try go_step3);(try go_wp2_with (first | (go_at_call 57;(with_reducible refine (ca_isBasin.calls _ _ l0_0 a0_1 _ _ l0_2 a0_3 a0_4 true _ ?side1 ?side2 ?side3 ?side4 A6.out).mono ?_);(case side1 => repeat (first | exact (kC HR0_0.out HB.out) | (with_reducible refine Kd.C_alloc ?_ _) | (with_reducible refine Kd.C_drewN ?_ _) | (with_reducible refine Kd.C_drew ?_)));(case side2 => exact HC0_0.out);(case side3 => repeat (first | exact (kC HR0_2.out HB.out) | (with_reducible refine Kd.C_alloc ?_ _) | (with_reducible refine Kd.C_drewN ?_ _) | (with_reducible refine Kd.C_drew ?_)));(case side4 => exact HC0_2.out);rintro e w17 ⟨rfl,hb⟩;replace BK354 := (kmv hb BK354);replace HB := am (below_step (by repeat (first | (with_reducible first | exact HB.out | refine below_set ?_ GE354.out | apply below_alloc | apply pw_below_drewN) | exact HB.out)) hb);(try clear hb);(try clear hb2);(try clear hk);(try clear hi)) | (go_at_call 58;(with_reducible refine (ca_isFlow.calls a1 true _ A8.out).mono ?_);rintro e w' ⟨rfl,⟨nd,rfl⟩⟩;(try first | exact ⟨rfl,_,World.drewN_drewN _ _ _⟩ | exact ⟨rfl,_,Eq.trans (World.drewN_drewN _ _ _) (congrArg (World.drewN _) (Nat.add_assoc _ _ _))⟩);obtain ⟨hcz18_0,hcz18_1,hcz18_2,hcz18_3,hcz18_4⟩ := cO5 BK354.out))))
   go_meet
   case rel => exact ⟨_,(true),(by first | rfl | (simp;done) | (simp [*];done)),H',⟨by first | omega | exact Nat.le_refl _⟩,⟨BK354.out⟩,⟨by repeat (first | (with_reducible first | exact HB.out | refine below_set ?_ GE354.out | apply below_alloc | apply pw_below_drewN) | exact HB.out)⟩⟩
  rw [if_pos c10] at H
  have c10b0 : ((l2.length : Int) == (l0_2.length : Int)) = true := beq_iff_eq.mpr c10
  have c10b1 : ((l2.length : Int) != (l0_2.length : Int)) = false := bne_eq_false_iff_eq.mpr c10
  have c10b2 : (l2.length == l0_2.length) = true := by first | simpa using c10 | (simp at c10 ⊢;omega)
  clear c10
  (first | rw [c10b0] | (simp only [i64_w,i32_w];rw [c10b0]) | skip)
  replace H := obm H
  obtain ⟨t357,A110,H⟩ := H
  (try dsimp only at H)
  have A11 := am A110
  clear A110
  replace H' := am H
  obtain ⟨hcz12_0,hcz12_1,hcz12_2,hcz12_3,hcz12_4⟩ := cO5 BK354.out
  iterate 4 ((try go_step3);(try go_wp2_with (first | (go_at_call 57;(with_reducible refine (ca_isBasin.calls _ _ l0_0 a0_1 _ _ l0_2 a0_3 a0_4 true _ ?side1 ?side2 ?side3 ?side4 A6.out).mono ?_);(case side1 => repeat (first | exact (kC HR0_0.out HB.out) | (with_reducible refine Kd.C_alloc ?_ _) | (with_reducible refine Kd.C_drewN ?_ _) | (with_reducible refine Kd.C_drew ?_)));(case side2 => exact HC0_0.out);(case side3 => repeat (first | exact (kC HR0_2.out HB.out) | (with_reducible refine Kd.C_alloc ?_ _) | (with_reducible refine Kd.C_drewN ?_ _) | (with_reducible refine Kd.C_drew ?_)));(case side4 => exact HC0_2.out);rintro e w13 ⟨rfl,hb⟩;replace BK354 := (kmv hb BK354);replace HB := am (below_step (by repeat (first | (with_reducible first | exact HB.out | refine below_set ?_ GE354.out | apply below_alloc | apply pw_below_drewN) | exact HB.out)) hb);(try clear hb);(try clear hb2);(try clear hk);(try clear hi)) | (go_at_call 58;(with_reducible refine (ca_isFlow.calls a1 true _ A8.out).mono ?_);rintro e w' ⟨rfl,⟨nd,rfl⟩⟩;(try first | exact ⟨rfl,_,World.drewN_drewN _ _ _⟩ | exact ⟨rfl,_,Eq.trans (World.drewN_drewN _ _ _) (congrArg (World.drewN _) (Nat.add_assoc _ _ _))⟩);obtain ⟨hcz14_0,hcz14_1,hcz14_2,hcz14_3,hcz14_4⟩ := cO5 BK354.out) | (go_at_call 84;(with_reducible refine (cf_Lowered.calls _ _ l2  t357 _ ?side1 ?side2 A11.out).mono ?_);(case side1 => repeat (first | exact (kC HR2.out (by repeat (first | (with_reducible first | exact HB.out | refine below_set ?_ GE354.out | apply below_alloc | apply pw_below_drewN) | exact HB.out))) | (with_reducible refine Kd.C_alloc ?_ _) | (with_reducible refine Kd.C_drewN ?_ _) | (with_reducible refine Kd.C_drew ?_)));(case side2 => exact HC2.out);rintro e w15 ⟨rfl,hb⟩;replace BK354 := (kmv hb BK354);replace HB := am (below_step (by repeat (first | (with_reducible first | exact HB.out | refine below_set ?_ GE354.out | apply below_alloc | apply pw_below_drewN) | exact HB.out)) hb);(try clear hb);(try clear hb2);(try clear hk);(try clear hi)))))
  go_meet
  case rel => exact ⟨_,(t357),(by first | rfl | (simp;done) | (simp [*];done)),H',⟨by first | omega | exact Nat.le_refl _⟩,⟨BK354.out⟩,⟨by repeat (first | (with_reducible first | exact HB.out | refine below_set ?_ GE354.out | apply below_alloc | apply pw_below_drewN) | exact HB.out)⟩⟩
 case rest =>
  clear HC4
  obtain ⟨kq,x38_3,rfl,HA,HJ3,BK354,HB⟩ := hcut
  cases kq with
  | zero => exact absurd HA.out (by simp [ca_Lowered.j0])
  | succ kj3 =>
   have H := HA.out
   clear HA
   simp only [ca_Lowered.j0] at H
   by_cases c23 : x38_3 = true
   · subst c23
     have H1 : (some (([] : List (S58)),2)) = some (r1,r2) := by rw [if_pos rfl] at H;exact H
     subst hz
     simp at H1
   · replace c23 := Bool.eq_false_iff.mpr c23
     subst c23
     rw [if_neg (show ¬ (false = true) by decide)] at H
     replace H' := am H
     obtain ⟨hcz24_0,hcz24_1,hcz24_2,hcz24_3,hcz24_4⟩ := cO5 BK354.out
     go_wp2
     repeat (go_step3;go_wp2)
     go_loopg [9,42] kj3 (fun kq v9 v42 w' => ∃ (x9_2 : List (S58)) (x42_2 : Int),v42 = .int .i64 x42_2 ∧ Aside0 (ca_Lowered.l0 kq a1 l2 x9_2 l0_2 (l0_2.length : Int) x42_2 l0_0 a0_1 l0_2 a0_3 a0_4 = some (r1,r2)) ∧ Aside0 (kq ≤ kj3) ∧ Aside0 (Kd.R k58 58 w' w.heap.size (fun _ => True) v9 x9_2) ∧ Aside0 (w'.heap[gb354]? = some (.cells #[(.slice A0_0 l0_0.length c0_0),.int .i64 a0_1,(.slice A0_2 l0_2.length c0_2),.int .i64 a0_3,.int .i64 a0_4] 27 (0,0))) ∧ Aside0 (Below w.heap.size w w'))
     case atStart => exact ⟨(([] : List (S58))),(0),(by first | rfl | (simp;done) | (simp [*];done)),H',⟨Nat.le_refl _⟩,⟨by first | exact Kd.R_nil _ _ _ _ _ | exact Kd.N_nil _ _ _ _ _ | exact Kd.V_nil _ _ _ _ _ | exact Kd.Q_nil _ _ _ _ _ | exact Kd.S_nil _ _ _ _ _⟩,⟨BK354.out⟩,⟨by repeat (first | (with_reducible first | exact HB.out | refine below_set ?_ GE354.out | apply below_alloc | apply pw_below_drewN) | exact HB.out)⟩⟩
     case round =>
      clear H'
      obtain ⟨x9_2,x42_2,rfl,HA,HK2,HO_9,BK354,HB⟩ := hrel
      cases gk with
      | zero => exact absurd HA.out (by simp [ca_Lowered.l0])
      | succ k2 =>
       have H := HA.out
       clear HA
       simp only [ca_Lowered.l0] at H
       by_cases c25 : x42_2 < (l0_2.length : Int)
       case neg =>
        rw [if_neg c25] at H
        have c25b0 : decide (x42_2 < (l0_2.length : Int)) = false := decide_eq_false c25
        clear c25
        simp only [Option.some.injEq,Prod.mk.injEq] at H
        obtain ⟨rfl,rfl⟩ := H
        go_wp2
        repeat (go_step3;go_wp2)
        (try rw [Exit.noGoto_ret])
        go_ret2
        exact ⟨_,by first | rfl | (simp [*] <;> rfl),by (with_reducible repeat (first | apply Kd.R_alloc | apply Kd.R_drewN | apply Kd.R_drew));exact HO_9.out,by repeat (first | (with_reducible first | exact HB.out | refine below_set ?_ GE354.out | apply below_alloc | apply pw_below_drewN) | exact HB.out)⟩
       rw [if_pos c25] at H
       have c25b0 : decide (x42_2 < (l0_2.length : Int)) = true := decide_eq_true c25
       clear c25
       by_cases c26 : 0 ≤ x42_2
       case neg =>
        rw [if_neg c26] at H
        exact absurd H (by simp)
       rw [if_pos c26] at H
       have c26b0 : decide (0 ≤ x42_2) = true := decide_eq_true c26
       clear c26
       by_cases c27 : x42_2 < (l0_2.length : Int)
       case neg =>
        rw [if_neg c27] at H
        exact absurd H (by simp)
       rw [if_pos c27] at H
       have c27b0 : decide (x42_2 < (l0_2.length : Int)) = true := decide_eq_true c27
       clear c27
       replace H' := am H
       have p358 : 0 ≤ (x42_2 : Int) := of_decide_eq_true (by assumption)
       have q358 : x42_2 < (l0_2.length : Int) := of_decide_eq_true (by assumption)
       obtain ⟨ad358,e358,hx358_0,hx358_1⟩ := at_T64 HR0_2.out x42_2 p358 q358
       cases e358
       replace hx358_0 := (HB.out.cell (wbl hx358_0)).trans hx358_0
       replace hx358_1 := (HB.out.cell (wbl hx358_1)).trans hx358_1
       replace p358 := eq_true p358
       replace q358 := eq_true q358
       iterate 4 ((try go_step3);(try go_wp2_with (first | ((refine gate_dst (N := 11) rfl ?_);(try (refine gate_guard (by rfl) ?_;dsimp only));refine box_event rfl (N := 11) rfl (cs := #[.int .i64 0,.int .i64 0]) (t := 64) ?hr ?_;(case hr => go_simp;try rfl);intro gb359 hg w28 hbox hb;have BK359 := am (hbox);have GE359 := am (ge_new (by repeat (first | (with_reducible first | exact HB.out | refine below_set ?_ GE354.out | apply below_alloc | apply pw_below_drewN) | exact HB.out)) hg);have NB354_359 := am (ne_new BK354.out hg);have NB359_354 := am (ne_new2 BK354.out hg);replace HO_9 := am (Kd.R_below HO_9.out hb);replace BK354 := (kmv hb BK354);replace HB := am (below_step (by repeat (first | (with_reducible first | exact HB.out | refine below_set ?_ GE354.out | apply below_alloc | apply pw_below_drewN) | exact HB.out)) hb);clear hb hbox hg;have hnb29 := NB359_354.out;have hnc29 := NB354_359.out;obtain ⟨hcz30_0,hcz30_1⟩ := cO2 BK359.out;have hfz30_0 := blk_frozen BK359.out 0;have hfz30_1 := blk_frozen BK359.out 1))))
       go_loopg [9,47] k2 (fun kq v9 v47 w' => ∃ (x9_3 : List (S58)) (x47_3 : Int),v47 = .int .i64 x47_3 ∧ Aside0 (ca_Lowered.l1 kq a1 l2 x9_3 x42_2 l0_2 (l0_2.length : Int) x42_2 x47_3 l0_0 a0_1 l0_2 a0_3 a0_4 ((rd_T64 l0_2 x42_2).f0) ((rd_T64 l0_2 x42_2).f1) = some (r1,r2)) ∧ Aside0 (kq ≤ k2) ∧ Aside0 (Kd.R k58 58 w' w.heap.size (fun _ => True) v9 x9_3) ∧ Aside0 (w'.heap[gb354]? = some (.cells #[(.slice A0_0 l0_0.length c0_0),.int .i64 a0_1,(.slice (some ad358) l0_2.length c0_2),.int .i64 a0_3,.int .i64 a0_4] 27 (0,0))) ∧ Aside0 (w'.heap[gb359]? = some (.cells #[.int .i64 ((rd_T64 l0_2 x42_2).f0),.int .i64 ((rd_T64 l0_2 x42_2).f1)] 64 (0,0))) ∧ Aside0 (Below w.heap.size w w'))
       case atStart => exact ⟨(x9_2),(0),(by first | rfl | (simp;done) | (simp [*];done)),H',⟨Nat.le_refl _⟩,⟨by (with_reducible repeat (first | apply Kd.R_alloc | apply Kd.R_drewN | apply Kd.R_drew));exact Kd.R_mono (Kd.R_far (p := ⟨gb359,1,none⟩) (Kd.R_far (p := ⟨gb359,0,none⟩) (Kd.R_types HO_9.out BK359.out (by decide)) (fun _ hk => hk.2) (.int .i64 ((rd_T64 l0_2 x42_2).f0))) (fun _ hk => hk.2) (.int .i64 ((rd_T64 l0_2 x42_2).f1))) (fun _ hk => trivial)⟩,⟨(blk_far (blk_far BK354.out NB354_359.out _) NB354_359.out _)⟩,⟨(blk_put (cs := #[.int .i64 ((rd_T64 l0_2 x42_2).f0),.int .i64 0]) (blk_put (cs := #[.int .i64 0,.int .i64 0]) BK359.out 0 _ rfl) 1 _ rfl)⟩,⟨by repeat (first | (with_reducible first | exact HB.out | refine below_set ?_ (Aside0.out (by assumption)) | apply below_alloc | apply pw_below_drewN) | exact HB.out)⟩⟩
       case round =>
        clear H'
        obtain ⟨x9_3,x47_3,rfl,HA,HK3,HO_9,BK354,BK359,HB⟩ := hrel
        cases gk with
        | zero => exact absurd HA.out (by simp [ca_Lowered.l1])
        | succ k3 =>
         have H := HA.out
         clear HA
         simp only [ca_Lowered.l1] at H
         by_cases c31 : x47_3 < 41
         case neg =>
          rw [if_neg c31] at H
          have c31b0 : decide (x47_3 < 41) = false := decide_eq_false c31
          clear c31
          replace H' := am H
          go_wp2
          repeat (go_step3;go_wp2)
          repeat (first | rw [Exit.noGoto_normal] | rw [Exit.noGoto_exit]);(try go_wp2)
          go_roundg k3
          case measure => have := HJ3.out;have := HK2.out;have := HK3.out;omega
          case rel => exact ⟨(x9_3),(wrap64 (x42_2 + 1)),(by first | rfl | (simp;done) | (simp [*];done)),H',⟨by have := HJ3.out;have := HK2.out;have := HK3.out;omega⟩,⟨by (with_reducible repeat (first | apply Kd.R_alloc | apply Kd.R_drewN | apply Kd.R_drew));exact HO_9.out⟩,⟨BK354.out⟩,⟨by repeat (first | (with_reducible first | exact HB.out | refine below_set ?_ (Aside0.out (by assumption)) | apply below_alloc | apply pw_below_drewN) | exact HB.out)⟩⟩
         rw [if_pos c31] at H
         have c31b0 : decide (x47_3 < 41) = true := decide_eq_true c31
         clear c31
         by_cases c32 : x47_3 = ((rd_T64 l0_2 x42_2).f1)
         · rw [if_pos c32] at H
           have c32b0 : (x47_3 == ((rd_T64 l0_2 x42_2).f1)) = true := beq_iff_eq.mpr c32
           have c32b1 : (x47_3 != ((rd_T64 l0_2 x42_2).f1)) = false := bne_eq_false_iff_eq.mpr c32
           clear c32
           replace H' := am H
           have hnb33 := NB359_354.out
           have hnc33 := NB354_359.out
           obtain ⟨hcz34_0,hcz34_1⟩ := cO2 BK359.out
           have hfz34_0 := blk_frozen BK359.out 0
           have hfz34_1 := blk_frozen BK359.out 1
           go_wp2
           repeat (go_step3;go_wp2)
           repeat (first | rw [Exit.noGoto_normal] | rw [Exit.noGoto_exit]);(try go_wp2)
           go_roundg k3
           case measure => have := HJ3.out;have := HK2.out;have := HK3.out;omega
           case rel => exact ⟨(x9_3),(wrap64 (x47_3 + 1)),(by first | rfl | (simp;done) | (simp [*];done)),H',⟨by have := HJ3.out;have := HK2.out;have := HK3.out;omega⟩,⟨by (with_reducible repeat (first | apply Kd.R_alloc | apply Kd.R_drewN | apply Kd.R_drew));exact HO_9.out⟩,⟨BK354.out⟩,⟨BK359.out⟩,⟨by repeat (first | (with_reducible first | exact HB.out | refine below_set ?_ (Aside0.out (by assumption)) | apply below_alloc | apply pw_below_drewN) | exact HB.out)⟩⟩
         · rw [if_neg c32] at H
           have c32b0 : (x47_3 == ((rd_T64 l0_2 x42_2).f1)) = false := beq_eq_false_iff_ne.mpr c32
           have c32b1 : (x47_3 != ((rd_T64 l0_2 x42_2).f1)) = true := bne_iff_ne.mpr c32
           replace H := obm H
           obtain ⟨t370,A350,H⟩ := H
           (try dsimp only at H)
           have A35 := am A350
           clear A350
           replace H := obm H
           obtain ⟨⟨t385,t386,t387,t388⟩,A360,H⟩ := H
           (try dsimp only at H)
           have A36 := am A360
           clear A360
           replace H := obm H
           obtain ⟨⟨t391,t394⟩,A370,H⟩ := H
           (try dsimp only at H)
           have A37 := am A370
           clear A370
           replace H' := am H
           have hnb38 := NB359_354.out
           have hnc38 := NB354_359.out
           obtain ⟨hcz39_0,hcz39_1⟩ := cO2 BK359.out
           have hfz39_0 := blk_frozen BK359.out 0
           have hfz39_1 := blk_frozen BK359.out 1
           iterate 4 ((try go_step3);(try go_wp2_with (first | ((refine gate_dst (N := 13) rfl ?_);(try (refine gate_guard (by rfl) ?_;dsimp only));refine box_event rfl (N := 13) rfl (cs := #[.int .i64 0,.int .i64 0]) (t := 58) ?hr ?_;(case hr => go_simp;try rfl);intro gb360 hg w40 hbox hb;have BK360 := am (hbox);have GE360 := am (ge_new (by repeat (first | (with_reducible first | exact HB.out | refine below_set ?_ (Aside0.out (by assumption)) | apply below_alloc | apply pw_below_drewN) | exact HB.out)) hg);have NB354_360 := am (ne_new BK354.out hg);have NB360_354 := am (ne_new2 BK354.out hg);have NB359_360 := am (ne_new BK359.out hg);have NB360_359 := am (ne_new2 BK359.out hg);replace HO_9 := am (Kd.R_below (Kd.R_elderB HO_9.out gb360 (Nat.le_of_eq hg.symm)) hb);replace BK354 := (kmv hb BK354);replace BK359 := (kmv hb BK359);replace HB := am (below_step (by repeat (first | (with_reducible first | exact HB.out | refine below_set ?_ (Aside0.out (by assumption)) | apply below_alloc | apply pw_below_drewN) | exact HB.out)) hb);clear hb hbox hg;have hnb41 := NB360_354.out;have hnc41 := NB354_360.out;have hnb42 := NB360_359.out;have hnc42 := NB359_360.out;obtain ⟨hcz43_0,hcz43_1⟩ := cO2 BK360.out;have hfz43_0 := blk_frozen BK360.out 0;have hfz43_1 := blk_frozen BK360.out 1;obtain ⟨hcz44_0,hcz44_1,hcz44_2,hcz44_3,hcz44_4⟩ := cO5 BK354.out) | (go_at_call 74;(with_reducible refine (ca_changed.calls _ _ l0_0 a0_1 _ _ l0_2 a0_3 a0_4 x42_2 x47_3 t370 _ ?side1 ?side2 ?side3 ?side4 A35.out).mono ?_);(case side1 => exact kC HR0_0.out (by repeat (first | (with_reducible first | exact HB.out | refine below_set ?_ (Aside0.out (by assumption)) | apply below_alloc | apply pw_below_drewN) | exact HB.out)));(case side2 => exact HC0_0.out);(case side3 => exact kC HR0_2.out (by repeat (first | (with_reducible first | exact HB.out | refine below_set ?_ (Aside0.out (by assumption)) | apply below_alloc | apply pw_below_drewN) | exact HB.out)));(case side4 => exact HC0_2.out);rintro e w45 ⟨v371,rfl,ho0,hb⟩;have HO372 := am (Kd.R_lower (Kd.R_newB ho0 (g := gb359) (o := .cells #[.int .i64 ((rd_T64 l0_2 x42_2).f0),.int .i64 ((rd_T64 l0_2 x42_2).f1)] 64 (0,0)) (blk_far (blk_far BK359.out NB359_360.out _) NB359_360.out _)) (below_size (by repeat (first | (with_reducible first | exact HB.out | refine below_set ?_ (Aside0.out (by assumption)) | apply below_alloc | apply pw_below_drewN) | exact HB.out))));replace HO_9 := am (Kd.R_below (Kd.R_mono (Kd.R_far (p := ⟨gb360,1,none⟩) (Kd.R_far (p := ⟨gb360,0,none⟩) (Kd.R_mono HO_9.out (fun k_ hk => (⟨hk,hk.2⟩ : _ ∧ k_ ≠ gb360))) (fun _ hk => hk.2) (.int .i64 x42_2)) (fun _ hk => hk.2) (.int .i64 x47_3)) (fun _ h_ => h_.1)) hb);replace BK354 := am (blk_below (blk_far (blk_far BK354.out NB354_360.out _) NB354_360.out _) hb);replace BK359 := am (blk_below (blk_far (blk_far BK359.out NB359_360.out _) NB359_360.out _) hb);replace BK360 := am (blk_below (blk_put (cs := #[.int .i64 x42_2,.int .i64 0]) (blk_put (cs := #[.int .i64 0,.int .i64 0]) BK360.out 0 _ rfl) 1 _ rfl) hb);replace HB := am (below_step (by repeat (first | (with_reducible first | exact HB.out | refine below_set ?_ (Aside0.out (by assumption)) | apply below_alloc | apply pw_below_drewN) | exact HB.out)) hb);(try clear hb);(try clear hb2);(try clear hk);(try clear hi);(try clear ho0);obtain ⟨Ao46,co46,eo46⟩ := Kd.R_slice HO372.out;subst eo46) | (go_at_call 59;(with_reducible refine (ca_fill.calls k3 _ _ l0_0 a0_1 _ _ t370 a0_3 a0_4 t385 t386 t387 t388 _ ?side1 ?side2 ?side3 ?side4 A36.out).mono ?_);(case side1 => repeat (first | exact (kC HR0_0.out HB.out) | (with_reducible refine Kd.C_alloc ?_ _) | (with_reducible refine Kd.C_drewN ?_ _) | (with_reducible refine Kd.C_drew ?_)));(case side2 => exact HC0_0.out);(case side3 => repeat (first | exact (Kd.R_reads' HO372.out).2.2 | (with_reducible refine Kd.C_alloc ?_ _) | (with_reducible refine Kd.C_drewN ?_ _) | (with_reducible refine Kd.C_drew ?_)));(case side4 => exact (Kd.R_reads' HO372.out).2.1);rintro e w47 ⟨v389,rfl,ho0,hb⟩;have HO390 := am (Kd.S_lower ho0 (below_size (by repeat (first | (with_reducible first | exact HB.out | refine below_set ?_ (Aside0.out (by assumption)) | apply below_alloc | apply pw_below_drewN) | exact HB.out))));replace HO_9 := am (Kd.R_below HO_9.out hb);replace HO372 := am (Kd.R_below HO372.out hb);replace BK354 := (kmv hb BK354);replace BK359 := (kmv hb BK359);replace BK360 := (kmv hb BK360);replace HB := am (below_step (by repeat (first | (with_reducible first | exact HB.out | refine below_set ?_ (Aside0.out (by assumption)) | apply below_alloc | apply pw_below_drewN) | exact HB.out)) hb);(try clear hb);(try clear hb2);(try clear hk);(try clear hi);(try clear ho0);obtain ⟨Ao48,co48,eo48⟩ := Kd.S_slice HO390.out;subst eo48) | (go_at_call 60;(with_reducible refine (gf_shares.calls k3 _ _ l0_0 t385 _ _ t370 t386 t387 _ _ t388 a1 t391 t394 _ ?side1 ?side2 ?side3 ?side4 ?side5 ?side6 A37.out).mono ?_);(case side1 => repeat (first | exact (kC HR0_0.out HB.out) | (with_reducible refine Kd.C_alloc ?_ _) | (with_reducible refine Kd.C_drewN ?_ _) | (with_reducible refine Kd.C_drew ?_)));(case side2 => exact HC0_0.out);(case side3 => repeat (first | exact (Kd.R_reads' HO372.out).2.2 | (with_reducible refine Kd.C_alloc ?_ _) | (with_reducible refine Kd.C_drewN ?_ _) | (with_reducible refine Kd.C_drew ?_)));(case side4 => exact (Kd.R_reads' HO372.out).2.1);(case side5 => repeat (first | exact (Kd.S_reads' HO390.out).2.2 | (with_reducible refine Kd.C_alloc ?_ _) | (with_reducible refine Kd.C_drewN ?_ _) | (with_reducible refine Kd.C_drew ?_)));(case side6 => exact (Kd.S_reads' HO390.out).2.1);rintro e w49 ⟨v392,rfl,ho0,hb⟩;have HO393 := am (Kd.R_lower ho0 (below_size (by repeat (first | (with_reducible first | exact HB.out | refine below_set ?_ (Aside0.out (by assumption)) | apply below_alloc | apply pw_below_drewN) | exact HB.out))));replace HO_9 := am (Kd.R_below HO_9.out hb);replace HO372 := am (Kd.R_below HO372.out hb);replace HO390 := am (Kd.S_elder' HO390.out (Kd.R_base ho0) hb);replace BK354 := (kmv hb BK354);replace BK359 := (kmv hb BK359);replace BK360 := (kmv hb BK360);replace HB := am (below_step (by repeat (first | (with_reducible first | exact HB.out | refine below_set ?_ (Aside0.out (by assumption)) | apply below_alloc | apply pw_below_drewN) | exact HB.out)) hb);(try clear hb);(try clear hb2);(try clear hk);(try clear hi);(try clear ho0)))))
           go_loopg [68] k3 (fun kq v68 w' => ∃ (x68_4 : Int),v68 = .int .i64 x68_4 ∧ Aside0 (ca_Lowered.l2 kq a1 l2 x9_3 x42_2 t391 l0_2 (l0_2.length : Int) x42_2 x47_3 l2 (l2.length : Int) x68_4 l0_0 a0_1 l0_2 a0_3 a0_4 ((rd_T64 l0_2 x42_2).f0) ((rd_T64 l0_2 x42_2).f1) x42_2 x47_3 = some (r1,r2)) ∧ Aside0 (kq ≤ k3) ∧ Aside0 (Kd.R k58 58 w' w.heap.size (fun k_ => k_ ≠ gb360) u9 x9_3) ∧ Aside0 (Kd.R (Kd.int .i64) 3 w' w.heap.size (fun _ => True) v392 t391) ∧ Aside0 (w'.heap[gb354]? = some (.cells #[(.slice A0_0 l0_0.length c0_0),.int .i64 a0_1,(.slice (some ad358) l0_2.length c0_2),.int .i64 a0_3,.int .i64 a0_4] 27 (0,0))) ∧ Aside0 (w'.heap[gb359]? = some (.cells #[.int .i64 ((rd_T64 l0_2 x42_2).f0),.int .i64 ((rd_T64 l0_2 x42_2).f1)] 64 (0,0))) ∧ Aside0 (w'.heap[gb360]? = some (.cells #[.int .i64 x42_2,.int .i64 x47_3] 58 (0,0))) ∧ Aside0 (Below w.heap.size w w'))
           case atStart => exact ⟨(0),(by first | rfl | (simp;done) | (simp [*];done)),H',⟨Nat.le_refl _⟩,⟨by (with_reducible repeat (first | apply Kd.R_alloc | apply Kd.R_drewN | apply Kd.R_drew));exact Kd.R_mono HO_9.out (fun _ hk => hk.2)⟩,⟨by (with_reducible repeat (first | apply Kd.R_alloc | apply Kd.R_drewN | apply Kd.R_drew));exact HO393.out⟩,⟨BK354.out⟩,⟨BK359.out⟩,⟨BK360.out⟩,⟨by repeat (first | (with_reducible first | exact HB.out | refine below_set ?_ (Aside0.out (by assumption)) | apply below_alloc | apply pw_below_drewN) | exact HB.out)⟩⟩
           case round =>
            clear H'
            obtain ⟨x68_4,rfl,HA,HK4,HO_9,HO_14,BK354,BK359,BK360,HB⟩ := hrel
            cases gk with
            | zero => exact absurd HA.out (by simp [ca_Lowered.l2])
            | succ k4 =>
             have H := HA.out
             clear HA
             simp only [ca_Lowered.l2] at H
             by_cases c50 : x68_4 < (l2.length : Int)
             case neg =>
              rw [if_neg c50] at H
              have c50b0 : decide (x68_4 < (l2.length : Int)) = false := decide_eq_false c50
              clear c50
              by_cases c68 : x9_3.length < 8796093022208
              case neg =>
               rw [if_neg c68] at H
               exact absurd H (by simp)
              rw [if_pos c68] at H
              have LMc68 := am c68
              clear c68
              obtain ⟨y399,hy399⟩ : ∃ y_ : List (S58),y_ = (x9_3 ++ [(⟨x42_2,x47_3⟩ : S58)]) := ⟨_,rfl⟩
              replace H : (ca_Lowered.l1 k4 a1 l2 y399 x42_2 l0_2 (l0_2.length : Int) x42_2 (wrap64 (x47_3 + 1)) l0_0 a0_1 l0_2 a0_3 a0_4 ((rd_T64 l0_2 x42_2).f0) ((rd_T64 l0_2 x42_2).f1)) = some (r1,r2) := by first | (rw [hy399];with_reducible exact H) | (have H2_ := (Option.bind_some _ _).symm.trans H;rw [hy399];with_reducible exact H2_) | (have H2_ := (Option.bind_some _ _).symm.trans H;with_reducible exact H2_) | with_reducible exact H | (rw [hy399];exact H) | exact H
              have Ny399 := am hy399
              clear hy399
              replace H' := am H
              have hnb69 := NB360_354.out
              have hnc69 := NB354_360.out
              have hnb70 := NB360_359.out
              have hnc70 := NB359_360.out
              obtain ⟨hcz71_0,hcz71_1⟩ := cO2 BK360.out
              have hfz71_0 := blk_frozen BK360.out 0
              have hfz71_1 := blk_frozen BK360.out 1
              iterate 4 ((try go_step3);(try go_wp2_with (first | ((with_reducible refine gate_builtin (b := .append) (xs := #[.tmp 84,.tmp 86]) rfl ?_);(try (refine gate_guard (by rfl) ?_;dsimp only));at_builtin;refine Kd.R_append k58 (w0 := w) w.heap.size rfl (.tmp 84) (.tmp 86) 75 58 (.agg #[(.int .i64 0),(.int .i64 0)]) 16 rfl Tryz.underlying75 info58 rfl (by decide) (by omega) u9 x9_3 (⟨x42_2,x47_3⟩ : S58) [.int .i64 x42_2,.int .i64 x47_3] (fun k_ => k_ ≠ gb360) (fun _ => False) rfl rfl ?aP (fun _ hk => hk.elim) ?aF ?aO ?aB ?aS ?aL ?_;(case aP => exact k58_mkM _ _ _ (⟨x42_2,x47_3⟩ : S58));(case aB => exact (by repeat (first | (with_reducible first | exact HB.out | refine below_set ?_ (Aside0.out (by assumption)) | apply below_alloc | apply pw_below_drewN) | exact HB.out)));(case aF => exact (fun k_ hk => Kd.freshB (g := gb360) (o := .cells #[.int .i64 x42_2,.int .i64 x47_3] 58 (0,0)) BK360.out k_ hk));(case aO => exact HO_9.out);(case aS => exact (below_size (by repeat (first | (with_reducible first | exact HB.out | refine below_set ?_ (Aside0.out (by assumption)) | apply below_alloc | apply pw_below_drewN) | exact HB.out))));(case aL => have := LMc68.out;omega);intro v400 w72 ho hb hg hat;rw [← Ny399.out] at ho;have n0_ := am (Kd.R_over' HO_14.out (Kd.R_typed HO_9.out) (by decide) hg);have n1_ := am (blk_grown (g := gb354) (o := .cells #[.slice A0_0 l0_0.length c0_0,.int .i64 a0_1,.slice (some ad358) l0_2.length c0_2,.int .i64 a0_3,.int .i64 a0_4] 27 (0,0)) BK354.out hg (Kd.R_ne HO_9.out BK354.out (by decide)));have n2_ := am (blk_grown (g := gb359) (o := .cells #[.int .i64 ((rd_T64 l0_2 x42_2).f0),.int .i64 ((rd_T64 l0_2 x42_2).f1)] 64 (0,0)) BK359.out hg (Kd.R_ne HO_9.out BK359.out (by decide)));have n3_ := am (blk_grown (g := gb360) (o := .cells #[.int .i64 x42_2,.int .i64 x47_3] 58 (0,0)) BK360.out hg (Kd.R_away HO_9.out (fun _ hk => hk)));have n4_ := am (hb);have n5_ := am (ho);clear HO_14;clear BK354;clear BK359;clear BK360;clear HB;clear HO_9;have HO_14 := n0_;have BK354 := n1_;have BK359 := n2_;have BK360 := n3_;have HB := n4_;have HO401 := n5_;clear n0_ n1_ n2_ n3_ n4_ n5_;clear ho hb hg hat))))
              repeat (first | rw [Exit.noGoto_normal] | rw [Exit.noGoto_exit]);(try go_wp2)
              go_roundg k4
              case measure => have := HJ3.out;have := HK2.out;have := HK3.out;have := HK4.out;omega
              case rel => exact ⟨(y399),(wrap64 (x47_3 + 1)),(by first | rfl | (simp;done) | (simp [*];done)),H',⟨by have := HJ3.out;have := HK2.out;have := HK3.out;have := HK4.out;omega⟩,⟨by (with_reducible repeat (first | apply Kd.R_alloc | apply Kd.R_drewN | apply Kd.R_drew));exact Kd.R_mono HO401.out (fun _ hk => trivial)⟩,⟨BK354.out⟩,⟨BK359.out⟩,⟨by repeat (first | (with_reducible first | exact HB.out | refine below_set ?_ (Aside0.out (by assumption)) | apply below_alloc | apply pw_below_drewN) | exact HB.out)⟩⟩
             rw [if_pos c50] at H
             have c50b0 : decide (x68_4 < (l2.length : Int)) = true := decide_eq_true c50
             clear c50
             by_cases c51 : 0 ≤ x68_4
             case neg =>
              rw [if_neg c51] at H
              exact absurd H (by simp)
             rw [if_pos c51] at H
             have c51b0 : decide (0 ≤ x68_4) = true := decide_eq_true c51
             clear c51
             by_cases c52 : x68_4 < (l2.length : Int)
             case neg =>
              rw [if_neg c52] at H
              exact absurd H (by simp)
             rw [if_pos c52] at H
             have c52b0 : decide (x68_4 < (l2.length : Int)) = true := decide_eq_true c52
             clear c52
             by_cases c53 : x68_4 < (t391.length : Int)
             case neg =>
              rw [if_neg c53] at H
              exact absurd H (by simp)
             rw [if_pos c53] at H
             have c53b0 : decide (x68_4 < (t391.length : Int)) = true := decide_eq_true c53
             clear c53
             replace H := obm H
             obtain ⟨t398,A540,H⟩ := H
             (try dsimp only at H)
             have A54 := am A540
             clear A540
             by_cases c55 : t398 = true
             · subst c55
               rw [if_pos rfl] at H
               replace H' := am H
               have p395 : 0 ≤ (x68_4 : Int) := of_decide_eq_true (by assumption)
               have q395 : x68_4 < (l2.length : Int) := of_decide_eq_true (by assumption)
               obtain ⟨ad395,e395,hx395_0,hx395_1⟩ := at_T40 HR2.out x68_4 p395 q395
               cases e395
               replace hx395_0 := (HB.out.cell (wbl hx395_0)).trans hx395_0
               replace hx395_1 := (HB.out.cell (wbl hx395_1)).trans hx395_1
               replace p395 := eq_true p395
               replace q395 := eq_true q395
               iterate 4 ((try go_step3);(try go_wp2_with (first | ((refine gate_dst (N := 17) rfl ?_);(try (refine gate_guard (by rfl) ?_;dsimp only));refine box_event rfl (N := 17) rfl (cs := #[.int .i64 0,.int .i64 0]) (t := 40) ?hr ?_;(case hr => go_simp;try rfl);intro gb396 hg w56 hbox hb;have BK396 := am (hbox);have GE396 := am (ge_new (by repeat (first | (with_reducible first | exact HB.out | refine below_set ?_ (Aside0.out (by assumption)) | apply below_alloc | apply pw_below_drewN) | exact HB.out)) hg);have NB354_396 := am (ne_new BK354.out hg);have NB396_354 := am (ne_new2 BK354.out hg);have NB359_396 := am (ne_new BK359.out hg);have NB396_359 := am (ne_new2 BK359.out hg);have NB360_396 := am (ne_new BK360.out hg);have NB396_360 := am (ne_new2 BK360.out hg);replace HO_9 := am (Kd.R_below HO_9.out hb);replace HO_14 := am (Kd.R_below HO_14.out hb);replace BK354 := (kmv hb BK354);replace BK359 := (kmv hb BK359);replace BK360 := (kmv hb BK360);replace HB := am (below_step (by repeat (first | (with_reducible first | exact HB.out | refine below_set ?_ (Aside0.out (by assumption)) | apply below_alloc | apply pw_below_drewN) | exact HB.out)) hb);clear hb hbox hg;have hnb57 := NB396_354.out;have hnc57 := NB354_396.out;have hnb58 := NB396_359.out;have hnc58 := NB359_396.out;have hnb59 := NB396_360.out;have hnc59 := NB360_396.out;obtain ⟨hcz60_0,hcz60_1⟩ := cO2 BK396.out;have hfz60_0 := blk_frozen BK396.out 0;have hfz60_1 := blk_frozen BK396.out 1;obtain ⟨Ao61,co61,eo61⟩ := Kd.R_slice HO_14.out;subst eo61;have p397 : 0 ≤ (x68_4 : Int) := of_decide_eq_true (by assumption);have q397 : x68_4 < (t391.length : Int) := of_decide_eq_true (by assumption);obtain ⟨ad397,e397,hx397_0⟩ := Kd.at_int (Kd.R_reads' HO_14.out).2.2 x68_4 p397 q397;cases e397;have hn397_0 : ad397.block ≠ gb396 := Kd.own_blk (Kd.R_ne HO_14.out BK396.out (by decide));have hn397_1 : ad397.block ≠ gb396 := Kd.own_blk (Kd.R_ne HO_14.out BK396.out (by decide));replace hx397_0 := (cell_far (p := ⟨gb396,0,none⟩) (by first | (rw [add_block];exact hn397_0) | (show (Addr.add _ _).block ≠ _;rw [add_block];exact hn397_0) | exact hn397_0) (.int .i64 ((rd_T40 l2 x68_4).f0))).trans hx397_0;replace hx397_0 := (cell_far (p := ⟨gb396,1,none⟩) (by first | (rw [add_block];exact hn397_1) | (show (Addr.add _ _).block ≠ _;rw [add_block];exact hn397_1) | exact hn397_1) (.int .i64 ((rd_T40 l2 x68_4).f1))).trans hx397_0;(try have hy397_0 := fun (n_ : Nat) => (show ((((w56.drewN n_).setCell ⟨gb396,0,none⟩ (.int .i64 ((rd_T40 l2 x68_4).f0))).setCell ⟨gb396,1,none⟩ (.int .i64 ((rd_T40 l2 x68_4).f1)))).cell? _ = some _ from hx397_0));clear hn397_0;clear hn397_1;replace p397 := eq_true p397;replace q397 := eq_true q397) | (go_at_call 73;(with_reducible refine (ca_in.calls (rd t391 x68_4) ((rd_T40 l2 x68_4).f0) ((rd_T40 l2 x68_4).f1) true _ A54.out).mono ?_);rintro e w' ⟨rfl,⟨nd,rfl⟩⟩;(try first | exact ⟨rfl,_,World.drewN_drewN _ _ _⟩ | exact ⟨rfl,_,Eq.trans (World.drewN_drewN _ _ _) (congrArg (World.drewN _) (Nat.add_assoc _ _ _))⟩)))))
               repeat (go_quiet (first | ((refine gate_dst (N := 17) rfl ?_);(try (refine gate_guard (by rfl) ?_;dsimp only));refine box_event rfl (N := 17) rfl (cs := #[.int .i64 0,.int .i64 0]) (t := 40) ?hr ?_;(case hr => go_simp;try rfl);intro gb396 hg w56 hbox hb;have BK396 := am (hbox);have GE396 := am (ge_new (by repeat (first | (with_reducible first | exact HB.out | refine below_set ?_ (Aside0.out (by assumption)) | apply below_alloc | apply pw_below_drewN) | exact HB.out)) hg);have NB354_396 := am (ne_new BK354.out hg);have NB396_354 := am (ne_new2 BK354.out hg);have NB359_396 := am (ne_new BK359.out hg);have NB396_359 := am (ne_new2 BK359.out hg);have NB360_396 := am (ne_new BK360.out hg);have NB396_360 := am (ne_new2 BK360.out hg);replace HO_9 := am (Kd.R_below HO_9.out hb);replace HO_14 := am (Kd.R_below HO_14.out hb);replace BK354 := (kmv hb BK354);replace BK359 := (kmv hb BK359);replace BK360 := (kmv hb BK360);replace HB := am (below_step (by repeat (first | (with_reducible first | exact HB.out | refine below_set ?_ (Aside0.out (by assumption)) | apply below_alloc | apply pw_below_drewN) | exact HB.out)) hb);clear hb hbox hg;have hnb57 := NB396_354.out;have hnc57 := NB354_396.out;have hnb58 := NB396_359.out;have hnc58 := NB359_396.out;have hnb59 := NB396_360.out;have hnc59 := NB360_396.out;obtain ⟨hcz60_0,hcz60_1⟩ := cO2 BK396.out;have hfz60_0 := blk_frozen BK396.out 0;have hfz60_1 := blk_frozen BK396.out 1;obtain ⟨Ao61,co61,eo61⟩ := Kd.R_slice HO_14.out;subst eo61;have p397 : 0 ≤ (x68_4 : Int) := of_decide_eq_true (by assumption);have q397 : x68_4 < (t391.length : Int) := of_decide_eq_true (by assumption);obtain ⟨ad397,e397,hx397_0⟩ := Kd.at_int (Kd.R_reads' HO_14.out).2.2 x68_4 p397 q397;cases e397;have hn397_0 : ad397.block ≠ gb396 := Kd.own_blk (Kd.R_ne HO_14.out BK396.out (by decide));have hn397_1 : ad397.block ≠ gb396 := Kd.own_blk (Kd.R_ne HO_14.out BK396.out (by decide));replace hx397_0 := (cell_far (p := ⟨gb396,0,none⟩) (by first | (rw [add_block];exact hn397_0) | (show (Addr.add _ _).block ≠ _;rw [add_block];exact hn397_0) | exact hn397_0) (.int .i64 ((rd_T40 l2 x68_4).f0))).trans hx397_0;replace hx397_0 := (cell_far (p := ⟨gb396,1,none⟩) (by first | (rw [add_block];exact hn397_1) | (show (Addr.add _ _).block ≠ _;rw [add_block];exact hn397_1) | exact hn397_1) (.int .i64 ((rd_T40 l2 x68_4).f1))).trans hx397_0;(try have hy397_0 := fun (n_ : Nat) => (show ((((w56.drewN n_).setCell ⟨gb396,0,none⟩ (.int .i64 ((rd_T40 l2 x68_4).f0))).setCell ⟨gb396,1,none⟩ (.int .i64 ((rd_T40 l2 x68_4).f1)))).cell? _ = some _ from hx397_0));clear hn397_0;clear hn397_1;replace p397 := eq_true p397;replace q397 := eq_true q397) | (go_at_call 73;(with_reducible refine (ca_in.calls (rd t391 x68_4) ((rd_T40 l2 x68_4).f0) ((rd_T40 l2 x68_4).f1) true _ A54.out).mono ?_);rintro e w' ⟨rfl,⟨nd,rfl⟩⟩;(try first | exact ⟨rfl,_,World.drewN_drewN _ _ _⟩ | exact ⟨rfl,_,Eq.trans (World.drewN_drewN _ _ _) (congrArg (World.drewN _) (Nat.add_assoc _ _ _))⟩)));try go_wp2_with (first | ((refine gate_dst (N := 17) rfl ?_);(try (refine gate_guard (by rfl) ?_;dsimp only));refine box_event rfl (N := 17) rfl (cs := #[.int .i64 0,.int .i64 0]) (t := 40) ?hr ?_;(case hr => go_simp;try rfl);intro gb396 hg w56 hbox hb;have BK396 := am (hbox);have GE396 := am (ge_new (by repeat (first | (with_reducible first | exact HB.out | refine below_set ?_ (Aside0.out (by assumption)) | apply below_alloc | apply pw_below_drewN) | exact HB.out)) hg);have NB354_396 := am (ne_new BK354.out hg);have NB396_354 := am (ne_new2 BK354.out hg);have NB359_396 := am (ne_new BK359.out hg);have NB396_359 := am (ne_new2 BK359.out hg);have NB360_396 := am (ne_new BK360.out hg);have NB396_360 := am (ne_new2 BK360.out hg);replace HO_9 := am (Kd.R_below HO_9.out hb);replace HO_14 := am (Kd.R_below HO_14.out hb);replace BK354 := (kmv hb BK354);replace BK359 := (kmv hb BK359);replace BK360 := (kmv hb BK360);replace HB := am (below_step (by repeat (first | (with_reducible first | exact HB.out | refine below_set ?_ (Aside0.out (by assumption)) | apply below_alloc | apply pw_below_drewN) | exact HB.out)) hb);clear hb hbox hg;have hnb57 := NB396_354.out;have hnc57 := NB354_396.out;have hnb58 := NB396_359.out;have hnc58 := NB359_396.out;have hnb59 := NB396_360.out;have hnc59 := NB360_396.out;obtain ⟨hcz60_0,hcz60_1⟩ := cO2 BK396.out;have hfz60_0 := blk_frozen BK396.out 0;have hfz60_1 := blk_frozen BK396.out 1;obtain ⟨Ao61,co61,eo61⟩ := Kd.R_slice HO_14.out;subst eo61;have p397 : 0 ≤ (x68_4 : Int) := of_decide_eq_true (by assumption);have q397 : x68_4 < (t391.length : Int) := of_decide_eq_true (by assumption);obtain ⟨ad397,e397,hx397_0⟩ := Kd.at_int (Kd.R_reads' HO_14.out).2.2 x68_4 p397 q397;cases e397;have hn397_0 : ad397.block ≠ gb396 := Kd.own_blk (Kd.R_ne HO_14.out BK396.out (by decide));have hn397_1 : ad397.block ≠ gb396 := Kd.own_blk (Kd.R_ne HO_14.out BK396.out (by decide));replace hx397_0 := (cell_far (p := ⟨gb396,0,none⟩) (by first | (rw [add_block];exact hn397_0) | (show (Addr.add _ _).block ≠ _;rw [add_block];exact hn397_0) | exact hn397_0) (.int .i64 ((rd_T40 l2 x68_4).f0))).trans hx397_0;replace hx397_0 := (cell_far (p := ⟨gb396,1,none⟩) (by first | (rw [add_block];exact hn397_1) | (show (Addr.add _ _).block ≠ _;rw [add_block];exact hn397_1) | exact hn397_1) (.int .i64 ((rd_T40 l2 x68_4).f1))).trans hx397_0;(try have hy397_0 := fun (n_ : Nat) => (show ((((w56.drewN n_).setCell ⟨gb396,0,none⟩ (.int .i64 ((rd_T40 l2 x68_4).f0))).setCell ⟨gb396,1,none⟩ (.int .i64 ((rd_T40 l2 x68_4).f1)))).cell? _ = some _ from hx397_0));clear hn397_0;clear hn397_1;replace p397 := eq_true p397;replace q397 := eq_true q397) | (go_at_call 73;(with_reducible refine (ca_in.calls (rd t391 x68_4) ((rd_T40 l2 x68_4).f0) ((rd_T40 l2 x68_4).f1) true _ A54.out).mono ?_);rintro e w' ⟨rfl,⟨nd,rfl⟩⟩;(try first | exact ⟨rfl,_,World.drewN_drewN _ _ _⟩ | exact ⟨rfl,_,Eq.trans (World.drewN_drewN _ _ _) (congrArg (World.drewN _) (Nat.add_assoc _ _ _))⟩))))
               repeat (first | rw [Exit.noGoto_normal] | rw [Exit.noGoto_exit]);(try go_wp2)
               go_roundg k4
               case measure => have := HJ3.out;have := HK2.out;have := HK3.out;have := HK4.out;omega
               case rel => exact ⟨(wrap64 (x68_4 + 1)),(by first | rfl | (simp;done) | (simp [*];done)),H',⟨by have := HJ3.out;have := HK2.out;have := HK3.out;have := HK4.out;omega⟩,⟨by (with_reducible repeat (first | apply Kd.R_alloc | apply Kd.R_drewN | apply Kd.R_drew));exact Kd.R_mono (Kd.R_far (p := ⟨gb396,1,none⟩) (Kd.R_far (p := ⟨gb396,0,none⟩) (Kd.R_types HO_9.out BK396.out (by decide)) (fun _ hk => hk.2) (.int .i64 ((rd_T40 l2 x68_4).f0))) (fun _ hk => hk.2) (.int .i64 ((rd_T40 l2 x68_4).f1))) (fun _ hk => hk.1)⟩,⟨by (with_reducible repeat (first | apply Kd.R_alloc | apply Kd.R_drewN | apply Kd.R_drew));exact Kd.R_mono (Kd.R_far (p := ⟨gb396,1,none⟩) (Kd.R_far (p := ⟨gb396,0,none⟩) (Kd.R_types HO_14.out BK396.out (by decide)) (fun _ hk => hk.2) (.int .i64 ((rd_T40 l2 x68_4).f0))) (fun _ hk => hk.2) (.int .i64 ((rd_T40 l2 x68_4).f1))) (fun _ hk => trivial)⟩,⟨(blk_far (blk_far BK354.out NB354_396.out _) NB354_396.out _)⟩,⟨(blk_far (blk_far BK359.out NB359_396.out _) NB359_396.out _)⟩,⟨(blk_far (blk_far BK360.out NB360_396.out _) NB360_396.out _)⟩,⟨by repeat (first | (with_reducible first | exact HB.out | refine below_set ?_ (Aside0.out (by assumption)) | apply below_alloc | apply pw_below_drewN) | exact HB.out)⟩⟩
             · replace c55 := Bool.eq_false_iff.mpr c55
               subst c55
               rw [if_neg (show ¬ (false = true) by decide)] at H
               replace H' := am H
               have p395 : 0 ≤ (x68_4 : Int) := of_decide_eq_true (by assumption)
               have q395 : x68_4 < (l2.length : Int) := of_decide_eq_true (by assumption)
               obtain ⟨ad395,e395,hx395_0,hx395_1⟩ := at_T40 HR2.out x68_4 p395 q395
               cases e395
               replace hx395_0 := (HB.out.cell (wbl hx395_0)).trans hx395_0
               replace hx395_1 := (HB.out.cell (wbl hx395_1)).trans hx395_1
               replace p395 := eq_true p395
               replace q395 := eq_true q395
               iterate 4 ((try go_step3);(try go_wp2_with (first | ((refine gate_dst (N := 17) rfl ?_);(try (refine gate_guard (by rfl) ?_;dsimp only));refine box_event rfl (N := 17) rfl (cs := #[.int .i64 0,.int .i64 0]) (t := 40) ?hr ?_;(case hr => go_simp;try rfl);intro gb396 hg w62 hbox hb;have BK396 := am (hbox);have GE396 := am (ge_new (by repeat (first | (with_reducible first | exact HB.out | refine below_set ?_ (Aside0.out (by assumption)) | apply below_alloc | apply pw_below_drewN) | exact HB.out)) hg);have NB354_396 := am (ne_new BK354.out hg);have NB396_354 := am (ne_new2 BK354.out hg);have NB359_396 := am (ne_new BK359.out hg);have NB396_359 := am (ne_new2 BK359.out hg);have NB360_396 := am (ne_new BK360.out hg);have NB396_360 := am (ne_new2 BK360.out hg);replace HO_9 := am (Kd.R_below HO_9.out hb);replace HO_14 := am (Kd.R_below HO_14.out hb);replace BK354 := (kmv hb BK354);replace BK359 := (kmv hb BK359);replace BK360 := (kmv hb BK360);replace HB := am (below_step (by repeat (first | (with_reducible first | exact HB.out | refine below_set ?_ (Aside0.out (by assumption)) | apply below_alloc | apply pw_below_drewN) | exact HB.out)) hb);clear hb hbox hg;have hnb63 := NB396_354.out;have hnc63 := NB354_396.out;have hnb64 := NB396_359.out;have hnc64 := NB359_396.out;have hnb65 := NB396_360.out;have hnc65 := NB360_396.out;obtain ⟨hcz66_0,hcz66_1⟩ := cO2 BK396.out;have hfz66_0 := blk_frozen BK396.out 0;have hfz66_1 := blk_frozen BK396.out 1;obtain ⟨Ao67,co67,eo67⟩ := Kd.R_slice HO_14.out;subst eo67;have p397 : 0 ≤ (x68_4 : Int) := of_decide_eq_true (by assumption);have q397 : x68_4 < (t391.length : Int) := of_decide_eq_true (by assumption);obtain ⟨ad397,e397,hx397_0⟩ := Kd.at_int (Kd.R_reads' HO_14.out).2.2 x68_4 p397 q397;cases e397;have hn397_0 : ad397.block ≠ gb396 := Kd.own_blk (Kd.R_ne HO_14.out BK396.out (by decide));have hn397_1 : ad397.block ≠ gb396 := Kd.own_blk (Kd.R_ne HO_14.out BK396.out (by decide));replace hx397_0 := (cell_far (p := ⟨gb396,0,none⟩) (by first | (rw [add_block];exact hn397_0) | (show (Addr.add _ _).block ≠ _;rw [add_block];exact hn397_0) | exact hn397_0) (.int .i64 ((rd_T40 l2 x68_4).f0))).trans hx397_0;replace hx397_0 := (cell_far (p := ⟨gb396,1,none⟩) (by first | (rw [add_block];exact hn397_1) | (show (Addr.add _ _).block ≠ _;rw [add_block];exact hn397_1) | exact hn397_1) (.int .i64 ((rd_T40 l2 x68_4).f1))).trans hx397_0;(try have hy397_0 := fun (n_ : Nat) => (show ((((w62.drewN n_).setCell ⟨gb396,0,none⟩ (.int .i64 ((rd_T40 l2 x68_4).f0))).setCell ⟨gb396,1,none⟩ (.int .i64 ((rd_T40 l2 x68_4).f1)))).cell? _ = some _ from hx397_0));clear hn397_0;clear hn397_1;replace p397 := eq_true p397;replace q397 := eq_true q397) | (go_at_call 73;(with_reducible refine (ca_in.calls (rd t391 x68_4) ((rd_T40 l2 x68_4).f0) ((rd_T40 l2 x68_4).f1) false _ A54.out).mono ?_);rintro e w' ⟨rfl,⟨nd,rfl⟩⟩;(try first | exact ⟨rfl,_,World.drewN_drewN _ _ _⟩ | exact ⟨rfl,_,Eq.trans (World.drewN_drewN _ _ _) (congrArg (World.drewN _) (Nat.add_assoc _ _ _))⟩)))))
               repeat (go_quiet (first | ((refine gate_dst (N := 17) rfl ?_);(try (refine gate_guard (by rfl) ?_;dsimp only));refine box_event rfl (N := 17) rfl (cs := #[.int .i64 0,.int .i64 0]) (t := 40) ?hr ?_;(case hr => go_simp;try rfl);intro gb396 hg w62 hbox hb;have BK396 := am (hbox);have GE396 := am (ge_new (by repeat (first | (with_reducible first | exact HB.out | refine below_set ?_ (Aside0.out (by assumption)) | apply below_alloc | apply pw_below_drewN) | exact HB.out)) hg);have NB354_396 := am (ne_new BK354.out hg);have NB396_354 := am (ne_new2 BK354.out hg);have NB359_396 := am (ne_new BK359.out hg);have NB396_359 := am (ne_new2 BK359.out hg);have NB360_396 := am (ne_new BK360.out hg);have NB396_360 := am (ne_new2 BK360.out hg);replace HO_9 := am (Kd.R_below HO_9.out hb);replace HO_14 := am (Kd.R_below HO_14.out hb);replace BK354 := (kmv hb BK354);replace BK359 := (kmv hb BK359);replace BK360 := (kmv hb BK360);replace HB := am (below_step (by repeat (first | (with_reducible first | exact HB.out | refine below_set ?_ (Aside0.out (by assumption)) | apply below_alloc | apply pw_below_drewN) | exact HB.out)) hb);clear hb hbox hg;have hnb63 := NB396_354.out;have hnc63 := NB354_396.out;have hnb64 := NB396_359.out;have hnc64 := NB359_396.out;have hnb65 := NB396_360.out;have hnc65 := NB360_396.out;obtain ⟨hcz66_0,hcz66_1⟩ := cO2 BK396.out;have hfz66_0 := blk_frozen BK396.out 0;have hfz66_1 := blk_frozen BK396.out 1;obtain ⟨Ao67,co67,eo67⟩ := Kd.R_slice HO_14.out;subst eo67;have p397 : 0 ≤ (x68_4 : Int) := of_decide_eq_true (by assumption);have q397 : x68_4 < (t391.length : Int) := of_decide_eq_true (by assumption);obtain ⟨ad397,e397,hx397_0⟩ := Kd.at_int (Kd.R_reads' HO_14.out).2.2 x68_4 p397 q397;cases e397;have hn397_0 : ad397.block ≠ gb396 := Kd.own_blk (Kd.R_ne HO_14.out BK396.out (by decide));have hn397_1 : ad397.block ≠ gb396 := Kd.own_blk (Kd.R_ne HO_14.out BK396.out (by decide));replace hx397_0 := (cell_far (p := ⟨gb396,0,none⟩) (by first | (rw [add_block];exact hn397_0) | (show (Addr.add _ _).block ≠ _;rw [add_block];exact hn397_0) | exact hn397_0) (.int .i64 ((rd_T40 l2 x68_4).f0))).trans hx397_0;replace hx397_0 := (cell_far (p := ⟨gb396,1,none⟩) (by first | (rw [add_block];exact hn397_1) | (show (Addr.add _ _).block ≠ _;rw [add_block];exact hn397_1) | exact hn397_1) (.int .i64 ((rd_T40 l2 x68_4).f1))).trans hx397_0;(try have hy397_0 := fun (n_ : Nat) => (show ((((w62.drewN n_).setCell ⟨gb396,0,none⟩ (.int .i64 ((rd_T40 l2 x68_4).f0))).setCell ⟨gb396,1,none⟩ (.int .i64 ((rd_T40 l2 x68_4).f1)))).cell? _ = some _ from hx397_0));clear hn397_0;clear hn397_1;replace p397 := eq_true p397;replace q397 := eq_true q397) | (go_at_call 73;(with_reducible refine (ca_in.calls (rd t391 x68_4) ((rd_T40 l2 x68_4).f0) ((rd_T40 l2 x68_4).f1) false _ A54.out).mono ?_);rintro e w' ⟨rfl,⟨nd,rfl⟩⟩;(try first | exact ⟨rfl,_,World.drewN_drewN _ _ _⟩ | exact ⟨rfl,_,Eq.trans (World.drewN_drewN _ _ _) (congrArg (World.drewN _) (Nat.add_assoc _ _ _))⟩)));try go_wp2_with (first | ((refine gate_dst (N := 17) rfl ?_);(try (refine gate_guard (by rfl) ?_;dsimp only));refine box_event rfl (N := 17) rfl (cs := #[.int .i64 0,.int .i64 0]) (t := 40) ?hr ?_;(case hr => go_simp;try rfl);intro gb396 hg w62 hbox hb;have BK396 := am (hbox);have GE396 := am (ge_new (by repeat (first | (with_reducible first | exact HB.out | refine below_set ?_ (Aside0.out (by assumption)) | apply below_alloc | apply pw_below_drewN) | exact HB.out)) hg);have NB354_396 := am (ne_new BK354.out hg);have NB396_354 := am (ne_new2 BK354.out hg);have NB359_396 := am (ne_new BK359.out hg);have NB396_359 := am (ne_new2 BK359.out hg);have NB360_396 := am (ne_new BK360.out hg);have NB396_360 := am (ne_new2 BK360.out hg);replace HO_9 := am (Kd.R_below HO_9.out hb);replace HO_14 := am (Kd.R_below HO_14.out hb);replace BK354 := (kmv hb BK354);replace BK359 := (kmv hb BK359);replace BK360 := (kmv hb BK360);replace HB := am (below_step (by repeat (first | (with_reducible first | exact HB.out | refine below_set ?_ (Aside0.out (by assumption)) | apply below_alloc | apply pw_below_drewN) | exact HB.out)) hb);clear hb hbox hg;have hnb63 := NB396_354.out;have hnc63 := NB354_396.out;have hnb64 := NB396_359.out;have hnc64 := NB359_396.out;have hnb65 := NB396_360.out;have hnc65 := NB360_396.out;obtain ⟨hcz66_0,hcz66_1⟩ := cO2 BK396.out;have hfz66_0 := blk_frozen BK396.out 0;have hfz66_1 := blk_frozen BK396.out 1;obtain ⟨Ao67,co67,eo67⟩ := Kd.R_slice HO_14.out;subst eo67;have p397 : 0 ≤ (x68_4 : Int) := of_decide_eq_true (by assumption);have q397 : x68_4 < (t391.length : Int) := of_decide_eq_true (by assumption);obtain ⟨ad397,e397,hx397_0⟩ := Kd.at_int (Kd.R_reads' HO_14.out).2.2 x68_4 p397 q397;cases e397;have hn397_0 : ad397.block ≠ gb396 := Kd.own_blk (Kd.R_ne HO_14.out BK396.out (by decide));have hn397_1 : ad397.block ≠ gb396 := Kd.own_blk (Kd.R_ne HO_14.out BK396.out (by decide));replace hx397_0 := (cell_far (p := ⟨gb396,0,none⟩) (by first | (rw [add_block];exact hn397_0) | (show (Addr.add _ _).block ≠ _;rw [add_block];exact hn397_0) | exact hn397_0) (.int .i64 ((rd_T40 l2 x68_4).f0))).trans hx397_0;replace hx397_0 := (cell_far (p := ⟨gb396,1,none⟩) (by first | (rw [add_block];exact hn397_1) | (show (Addr.add _ _).block ≠ _;rw [add_block];exact hn397_1) | exact hn397_1) (.int .i64 ((rd_T40 l2 x68_4).f1))).trans hx397_0;(try have hy397_0 := fun (n_ : Nat) => (show ((((w62.drewN n_).setCell ⟨gb396,0,none⟩ (.int .i64 ((rd_T40 l2 x68_4).f0))).setCell ⟨gb396,1,none⟩ (.int .i64 ((rd_T40 l2 x68_4).f1)))).cell? _ = some _ from hx397_0));clear hn397_0;clear hn397_1;replace p397 := eq_true p397;replace q397 := eq_true q397) | (go_at_call 73;(with_reducible refine (ca_in.calls (rd t391 x68_4) ((rd_T40 l2 x68_4).f0) ((rd_T40 l2 x68_4).f1) false _ A54.out).mono ?_);rintro e w' ⟨rfl,⟨nd,rfl⟩⟩;(try first | exact ⟨rfl,_,World.drewN_drewN _ _ _⟩ | exact ⟨rfl,_,Eq.trans (World.drewN_drewN _ _ _) (congrArg (World.drewN _) (Nat.add_assoc _ _ _))⟩))))
               repeat (first | rw [Exit.noGoto_normal] | rw [Exit.noGoto_exit]);(try go_wp2)
               go_roundg k4
               case measure => have := HJ3.out;have := HK2.out;have := HK3.out;have := HK4.out;omega
               case rel => exact ⟨(x9_3),(wrap64 (x47_3 + 1)),(by first | rfl | (simp;done) | (simp [*];done)),H',⟨by have := HJ3.out;have := HK2.out;have := HK3.out;have := HK4.out;omega⟩,⟨by (with_reducible repeat (first | apply Kd.R_alloc | apply Kd.R_drewN | apply Kd.R_drew));exact Kd.R_mono (Kd.R_far (p := ⟨gb396,1,none⟩) (Kd.R_far (p := ⟨gb396,0,none⟩) (Kd.R_types HO_9.out BK396.out (by decide)) (fun _ hk => hk.2) (.int .i64 ((rd_T40 l2 x68_4).f0))) (fun _ hk => hk.2) (.int .i64 ((rd_T40 l2 x68_4).f1))) (fun _ hk => trivial)⟩,⟨(blk_far (blk_far BK354.out NB354_396.out _) NB354_396.out _)⟩,⟨(blk_far (blk_far BK359.out NB359_396.out _) NB359_396.out _)⟩,⟨by repeat (first | (with_reducible first | exact HB.out | refine below_set ?_ (Aside0.out (by assumption)) | apply below_alloc | apply pw_below_drewN) | exact HB.out)⟩⟩
def l4_T.f  : Option ((List (S126)) × Int) := some ((([(⟨5,4,10⟩ : S126),(⟨10,8,20⟩ : S126),(⟨20,15,45⟩ : S126)] : List (S126))),50)
theorem l4_T.calls  (r1 : List (S126)) (r2 : Int) (w : World) (h : l4_T.f  = some (r1,r2)) :
 Calls Tryz.prog 54 #[] w fun e w' => ∃ v0_ : Value,e = .returned (.agg #[v0_,.int .i64 r2]) ∧ Kd.R k126 126 w' w.heap.size (fun _ => True) v0_ r1 ∧ Below w.heap.size w w' := by
 have hu24 := Tryz.underlying24
 have hu126 := Tryz.underlying126
 have HB := am (Below.refl w.heap.size w)
 have H : (some ((([(⟨5,4,10⟩ : S126),(⟨10,8,20⟩ : S126),(⟨20,15,45⟩ : S126)] : List (S126))),50)) = some (r1,r2) := h
 clear h
 obtain ⟨y405,hy405⟩ : ∃ y_ : List (S126),y_ = (([(⟨5,4,10⟩ : S126),(⟨10,8,20⟩ : S126),(⟨20,15,45⟩ : S126)] : List (S126))) := ⟨_,rfl⟩
 replace H : (some (y405,50)) = some (r1,r2) := by first | (rw [hy405];with_reducible exact H) | (have H2_ := (Option.bind_some _ _).symm.trans H;rw [hy405];with_reducible exact H2_) | (have H2_ := (Option.bind_some _ _).symm.trans H;with_reducible exact H2_) | with_reducible exact H | (rw [hy405];exact H) | exact H
 have Ny405 := am hy405
 clear hy405
 simp only [Option.some.injEq,Prod.mk.injEq] at H
 obtain ⟨rfl,rfl⟩ := H
 go_enter Tryz.func54,Tryz.ntmps54
 go_wp2_with (first | ((refine gate_dst (N := 0) rfl ?_);refine box_event rfl (N := 0) rfl (cs := #[.slice none 0 0,.int .i64 0]) (t := 24) ?hr ?_;(case hr => go_simp;try rfl);intro gb404 hg w1 hbox hb;have BK404 := am (hbox);have GE404 := am (ge_new (HB.out) hg);replace HB := am (below_step (HB.out) hb);clear hb hbox hg) | ((refine gate_dst (N := 4) rfl ?_);refine Kd.R_lit k126 _ 126 ?hg (N := 4) ?hd (xs := ([(⟨5,4,10⟩ : S126),(⟨10,8,20⟩ : S126),(⟨20,15,45⟩ : S126)] : List (S126))) (inner := [.int .i64 5,.int .i64 4,.int .i64 10,.int .i64 10,.int .i64 8,.int .i64 20,.int .i64 20,.int .i64 15,.int .i64 45]) (ok := fun _ => True) (okp := fun _ => True) ?hr ?hp (fun _ hk => hk) trivial (Below.refl _ _) (Nat.le_refl _) (by simp) ?_;(case hd => rfl);(case hg => rfl);(case hr => go_simp;try rfl);(case hp => exact (Reps.c3 (show Kd.M k126 _ _ _ (⟨5,4,10⟩ : S126) [.int .i64 5,.int .i64 4,.int .i64 10] from (k126_mkM _ _ _ (⟨5,4,10⟩ : S126) )) (Reps.c3 (show Kd.M k126 _ _ _ (⟨10,8,20⟩ : S126) [.int .i64 10,.int .i64 8,.int .i64 20] from (k126_mkM _ _ _ (⟨10,8,20⟩ : S126) )) (Reps.c3 (show Kd.M k126 _ _ _ (⟨20,15,45⟩ : S126) [.int .i64 20,.int .i64 15,.int .i64 45] from (k126_mkM _ _ _ (⟨20,15,45⟩ : S126) )) (Reps.none _ _)))));intro v406 w2 ho3 hb hg_ hnew_;clear hg_ hnew_;(first | rw [← Ny405.out] at ho3 | (simp only [Int.reduceToNat] at ho3;rw [← Ny405.out] at ho3));have HO407 := am (Kd.R_lower ho3 (below_size (HB.out)));replace BK404 := am (blk_below (g := gb404) (o := .cells #[.slice none 0 0,.int .i64 0] 24 (0,0)) (by (with_reducible repeat (first | refine blk_drewN ?_ _ | refine blk_drew ?_ | refine blk_alloc ?_ _));exact BK404.out) hb);replace HB := am (below_step (HB.out) hb);clear hb ho3;obtain ⟨Ao4,co4,eo4⟩ := Kd.R_slice HO407.out;subst eo4;obtain ⟨hcz5_0,hcz5_1⟩ := cO2 BK404.out;have hfz5_0 := blk_frozen BK404.out 0;have hfz5_1 := blk_frozen BK404.out 1))
 refine bodyPost_ret (results_cell_row rfl _ _ gb404 24 #[.slice Ao4 y405.length co4,.int .i64 50] (0,0) _ rfl (by (with_reducible repeat (first | refine blk_drewN ?_ _ | refine blk_drew ?_ | refine blk_alloc ?_ _));refine blk_put (cs := #[.slice Ao4 y405.length co4,.int .i64 0]) ?_ 1 _ rfl;(with_reducible repeat (first | refine blk_drewN ?_ _ | refine blk_drew ?_ | refine blk_alloc ?_ _));refine blk_put (cs := #[.slice none 0 0,.int .i64 0]) ?_ 0 _ rfl;(with_reducible repeat (first | refine blk_drewN ?_ _ | refine blk_drew ?_ | refine blk_alloc ?_ _));exact BK404.out) Tryz.underlying24 rfl (by kernel_rfl)) rfl ?_
 exact ⟨_,by first | rfl | (simp [*] <;> rfl),by (with_reducible repeat (first | apply Kd.R_alloc | apply Kd.R_drewN | apply Kd.R_drew));exact Kd.R_mono (Kd.R_far (p := ⟨gb404,1,none⟩) (Kd.R_far (p := ⟨gb404,0,none⟩) (Kd.R_types HO407.out BK404.out (by decide)) (fun _ hk => hk.2) (.slice Ao4 y405.length co4)) (fun _ hk => hk.2) (.int .i64 50)) (fun _ hk => trivial),by repeat (first | (with_reducible first | exact HB.out | refine below_set ?_ GE404.out | apply below_alloc | apply pw_below_drewN) | exact HB.out)⟩
def l4_A.f  : Option ((List (S126)) × Int × (List (S64)) × Int × Int) := (l4_T.f).bind fun bt409 => (some (bt409.1,bt409.2,(([(⟨0,10⟩ : S64),(⟨1,10⟩ : S64),(⟨2,12⟩ : S64)] : List (S64))),20,5))
theorem l4_A.calls  (r1 : List (S126)) (r2 : Int) (r3 : List (S64)) (r4 : Int) (r5 : Int) (w : World) (h : l4_A.f  = some (r1,r2,r3,r4,r5)) :
 Calls Tryz.prog 49 #[] w fun e w' => ∃ v0_ v2_ : Value,e = .returned (.agg #[v0_,.int .i64 r2,v2_,.int .i64 r4,.int .i64 r5]) ∧ Kd.R k126 126 w' w.heap.size (fun _ => True) v0_ r1 ∧ Kd.R k64 64 w' w.heap.size (fun _ => True) v2_ r3 ∧ Below w.heap.size w w' := by
 have hu27 := Tryz.underlying27
 have hu64 := Tryz.underlying64
 have HB := am (Below.refl w.heap.size w)
 have H : ((l4_T.f).bind fun bt409 => (some (bt409.1,bt409.2,(([(⟨0,10⟩ : S64),(⟨1,10⟩ : S64),(⟨2,12⟩ : S64)] : List (S64))),20,5))) = some (r1,r2,r3,r4,r5) := h
 clear h
 replace H := obm H
 obtain ⟨⟨t409,t412⟩,A10,H⟩ := H
 (try dsimp only at H)
 have A1 := am A10
 clear A10
 obtain ⟨y413,hy413⟩ : ∃ y_ : List (S64),y_ = (([(⟨0,10⟩ : S64),(⟨1,10⟩ : S64),(⟨2,12⟩ : S64)] : List (S64))) := ⟨_,rfl⟩
 replace H : (some (t409,t412,y413,20,5)) = some (r1,r2,r3,r4,r5) := by first | (rw [hy413];with_reducible exact H) | (have H2_ := (Option.bind_some _ _).symm.trans H;rw [hy413];with_reducible exact H2_) | (have H2_ := (Option.bind_some _ _).symm.trans H;with_reducible exact H2_) | with_reducible exact H | (rw [hy413];exact H) | exact H
 have Ny413 := am hy413
 clear hy413
 simp only [Option.some.injEq,Prod.mk.injEq] at H
 obtain ⟨rfl,rfl,rfl,rfl,rfl⟩ := H
 go_enter Tryz.func49,Tryz.ntmps49
 go_wp2_with (first | ((refine gate_dst (N := 0) rfl ?_);refine box_event rfl (N := 0) rfl (cs := #[.slice none 0 0,.int .i64 0,.slice none 0 0,.int .i64 0,.int .i64 0]) (t := 27) ?hr ?_;(case hr => go_simp;try rfl);intro gb408 hg w2 hbox hb;have BK408 := am (hbox);have GE408 := am (ge_new (HB.out) hg);replace HB := am (below_step (HB.out) hb);clear hb hbox hg) | ((with_reducible refine gate_callee (f := 54) rfl ?_);refine goesL_ (some 1) rfl rfl Tryz.func54 (by kernel_rfl) rfl #[] rfl (by (try simp only [List.map_toArray,List.map_cons,List.map_nil]);first | done | rfl | (simp only [List.length_drop,List.length_take];rfl)) ?_;(refine (l4_T.calls  t409 t412 _ A1.out).mono ?_);rintro e w3 ⟨v410,rfl,ho0,hb⟩;refine ⟨_,rfl,?_⟩;have HO411 := am (Kd.R_lower ho0 (below_size (HB.out)));replace BK408 := (kmv hb BK408);replace HB := am (below_step (HB.out) hb);(try clear hb);(try clear hb2);(try clear hk);(try clear hi);(try clear ho0)) | ((refine gate_dst (N := 5) rfl ?_);refine Kd.R_lit k64 _ 64 ?hg (N := 5) ?hd (xs := ([(⟨0,10⟩ : S64),(⟨1,10⟩ : S64),(⟨2,12⟩ : S64)] : List (S64))) (inner := [.int .i64 0,.int .i64 10,.int .i64 1,.int .i64 10,.int .i64 2,.int .i64 12]) (ok := fun _ => True) (okp := fun _ => True) ?hr ?hp (fun _ hk => hk) trivial (Below.refl _ _) (Nat.le_refl _) (by simp) ?_;(case hd => rfl);(case hg => rfl);(case hr => go_simp;try rfl);(case hp => exact (Reps.c2 (show Kd.M k64 _ _ _ (⟨0,10⟩ : S64) [.int .i64 0,.int .i64 10] from (k64_mkM _ _ _ (⟨0,10⟩ : S64) )) (Reps.c2 (show Kd.M k64 _ _ _ (⟨1,10⟩ : S64) [.int .i64 1,.int .i64 10] from (k64_mkM _ _ _ (⟨1,10⟩ : S64) )) (Reps.c2 (show Kd.M k64 _ _ _ (⟨2,12⟩ : S64) [.int .i64 2,.int .i64 12] from (k64_mkM _ _ _ (⟨2,12⟩ : S64) )) (Reps.none _ _)))));intro v414 w4 ho5 hb hg_ hnew_;clear hg_ hnew_;(first | rw [← Ny413.out] at ho5 | (simp only [Int.reduceToNat] at ho5;rw [← Ny413.out] at ho5));have HO415 := am (Kd.R_lower ho5 (below_size (HB.out)));replace HO411 := am (Kd.R_below HO411.out hb);replace BK408 := (kmv hb BK408);replace HB := am (below_step (HB.out) hb);clear hb ho5;obtain ⟨Ao6,co6,eo6⟩ := Kd.R_slice HO415.out;subst eo6;obtain ⟨Ao7,co7,eo7⟩ := Kd.R_slice HO411.out;subst eo7;obtain ⟨hcz8_0,hcz8_1,hcz8_2,hcz8_3,hcz8_4⟩ := cO5 BK408.out;have hfz8_0 := blk_frozen BK408.out 0;have hfz8_1 := blk_frozen BK408.out 1;have hfz8_2 := blk_frozen BK408.out 2;have hfz8_3 := blk_frozen BK408.out 3;have hfz8_4 := blk_frozen BK408.out 4))
 refine bodyPost_ret (results_cell_row rfl _ _ gb408 27 #[.slice Ao7 t409.length co7,.int .i64 t412,.slice Ao6 y413.length co6,.int .i64 20,.int .i64 5] (0,0) _ rfl (blk_put (cs := #[.slice Ao7 t409.length co7,.int .i64 t412,.slice Ao6 y413.length co6,.int .i64 20,.int .i64 0]) (blk_put (cs := #[.slice Ao7 t409.length co7,.int .i64 t412,.slice Ao6 y413.length co6,.int .i64 0,.int .i64 0]) (blk_put (cs := #[.slice Ao7 t409.length co7,.int .i64 t412,.slice none 0 0,.int .i64 0,.int .i64 0]) (blk_put (cs := #[.slice Ao7 t409.length co7,.int .i64 0,.slice none 0 0,.int .i64 0,.int .i64 0]) (blk_put (cs := #[.slice none 0 0,.int .i64 0,.slice none 0 0,.int .i64 0,.int .i64 0]) BK408.out 0 _ rfl) 1 _ rfl) 2 _ rfl) 3 _ rfl) 4 _ rfl) Tryz.underlying27 rfl (by kernel_rfl)) rfl ?_
 exact ⟨_,_,by first | rfl | (simp [*] <;> rfl),by (with_reducible repeat (first | apply Kd.R_alloc | apply Kd.R_drewN | apply Kd.R_drew));exact Kd.R_mono (Kd.R_far (p := ⟨gb408,4,none⟩) (Kd.R_far (p := ⟨gb408,3,none⟩) (Kd.R_far (p := ⟨gb408,2,none⟩) (Kd.R_far (p := ⟨gb408,1,none⟩) (Kd.R_far (p := ⟨gb408,0,none⟩) (Kd.R_types HO411.out BK408.out (by decide)) (fun _ hk => hk.2) (.slice Ao7 t409.length co7)) (fun _ hk => hk.2) (.int .i64 t412)) (fun _ hk => hk.2) (.slice Ao6 y413.length co6)) (fun _ hk => hk.2) (.int .i64 20)) (fun _ hk => hk.2) (.int .i64 5)) (fun _ hk => trivial),by (with_reducible repeat (first | apply Kd.R_alloc | apply Kd.R_drewN | apply Kd.R_drew));exact Kd.R_mono (Kd.R_far (p := ⟨gb408,4,none⟩) (Kd.R_far (p := ⟨gb408,3,none⟩) (Kd.R_far (p := ⟨gb408,2,none⟩) (Kd.R_far (p := ⟨gb408,1,none⟩) (Kd.R_far (p := ⟨gb408,0,none⟩) (Kd.R_types HO415.out BK408.out (by decide)) (fun _ hk => hk.2) (.slice Ao7 t409.length co7)) (fun _ hk => hk.2) (.int .i64 t412)) (fun _ hk => hk.2) (.slice Ao6 y413.length co6)) (fun _ hk => hk.2) (.int .i64 20)) (fun _ hk => hk.2) (.int .i64 5)) (fun _ hk => trivial),by repeat (first | (with_reducible first | exact HB.out | refine below_set ?_ GE408.out | apply below_alloc | apply pw_below_drewN) | exact HB.out)⟩
def l4_B.f  : Option ((List (S126)) × Int × (List (S64)) × Int × Int) := (l4_T.f).bind fun bt417 => (some (bt417.1,bt417.2,(([(⟨1,5⟩ : S64),(⟨0,5⟩ : S64)] : List (S64))),8,100))
theorem l4_B.calls  (r1 : List (S126)) (r2 : Int) (r3 : List (S64)) (r4 : Int) (r5 : Int) (w : World) (h : l4_B.f  = some (r1,r2,r3,r4,r5)) :
 Calls Tryz.prog 89 #[] w fun e w' => ∃ v0_ v2_ : Value,e = .returned (.agg #[v0_,.int .i64 r2,v2_,.int .i64 r4,.int .i64 r5]) ∧ Kd.R k126 126 w' w.heap.size (fun _ => True) v0_ r1 ∧ Kd.R k64 64 w' w.heap.size (fun _ => True) v2_ r3 ∧ Below w.heap.size w w' := by
 have hu27 := Tryz.underlying27
 have hu64 := Tryz.underlying64
 have HB := am (Below.refl w.heap.size w)
 have H : ((l4_T.f).bind fun bt417 => (some (bt417.1,bt417.2,(([(⟨1,5⟩ : S64),(⟨0,5⟩ : S64)] : List (S64))),8,100))) = some (r1,r2,r3,r4,r5) := h
 clear h
 replace H := obm H
 obtain ⟨⟨t417,t420⟩,A10,H⟩ := H
 (try dsimp only at H)
 have A1 := am A10
 clear A10
 obtain ⟨y421,hy421⟩ : ∃ y_ : List (S64),y_ = (([(⟨1,5⟩ : S64),(⟨0,5⟩ : S64)] : List (S64))) := ⟨_,rfl⟩
 replace H : (some (t417,t420,y421,8,100)) = some (r1,r2,r3,r4,r5) := by first | (rw [hy421];with_reducible exact H) | (have H2_ := (Option.bind_some _ _).symm.trans H;rw [hy421];with_reducible exact H2_) | (have H2_ := (Option.bind_some _ _).symm.trans H;with_reducible exact H2_) | with_reducible exact H | (rw [hy421];exact H) | exact H
 have Ny421 := am hy421
 clear hy421
 simp only [Option.some.injEq,Prod.mk.injEq] at H
 obtain ⟨rfl,rfl,rfl,rfl,rfl⟩ := H
 go_enter Tryz.func89,Tryz.ntmps89
 go_wp2_with (first | ((refine gate_dst (N := 0) rfl ?_);refine box_event rfl (N := 0) rfl (cs := #[.slice none 0 0,.int .i64 0,.slice none 0 0,.int .i64 0,.int .i64 0]) (t := 27) ?hr ?_;(case hr => go_simp;try rfl);intro gb416 hg w2 hbox hb;have BK416 := am (hbox);have GE416 := am (ge_new (HB.out) hg);replace HB := am (below_step (HB.out) hb);clear hb hbox hg) | ((with_reducible refine gate_callee (f := 54) rfl ?_);refine goesL_ (some 1) rfl rfl Tryz.func54 (by kernel_rfl) rfl #[] rfl (by (try simp only [List.map_toArray,List.map_cons,List.map_nil]);first | done | rfl | (simp only [List.length_drop,List.length_take];rfl)) ?_;(refine (l4_T.calls  t417 t420 _ A1.out).mono ?_);rintro e w3 ⟨v418,rfl,ho0,hb⟩;refine ⟨_,rfl,?_⟩;have HO419 := am (Kd.R_lower ho0 (below_size (HB.out)));replace BK416 := (kmv hb BK416);replace HB := am (below_step (HB.out) hb);(try clear hb);(try clear hb2);(try clear hk);(try clear hi);(try clear ho0)) | ((refine gate_dst (N := 4) rfl ?_);refine Kd.R_lit k64 _ 64 ?hg (N := 4) ?hd (xs := ([(⟨1,5⟩ : S64),(⟨0,5⟩ : S64)] : List (S64))) (inner := [.int .i64 1,.int .i64 5,.int .i64 0,.int .i64 5]) (ok := fun _ => True) (okp := fun _ => True) ?hr ?hp (fun _ hk => hk) trivial (Below.refl _ _) (Nat.le_refl _) (by simp) ?_;(case hd => rfl);(case hg => rfl);(case hr => go_simp;try rfl);(case hp => exact (Reps.c2 (show Kd.M k64 _ _ _ (⟨1,5⟩ : S64) [.int .i64 1,.int .i64 5] from (k64_mkM _ _ _ (⟨1,5⟩ : S64) )) (Reps.c2 (show Kd.M k64 _ _ _ (⟨0,5⟩ : S64) [.int .i64 0,.int .i64 5] from (k64_mkM _ _ _ (⟨0,5⟩ : S64) )) (Reps.none _ _))));intro v422 w4 ho5 hb hg_ hnew_;clear hg_ hnew_;(first | rw [← Ny421.out] at ho5 | (simp only [Int.reduceToNat] at ho5;rw [← Ny421.out] at ho5));have HO423 := am (Kd.R_lower ho5 (below_size (HB.out)));replace HO419 := am (Kd.R_below HO419.out hb);replace BK416 := (kmv hb BK416);replace HB := am (below_step (HB.out) hb);clear hb ho5;obtain ⟨Ao6,co6,eo6⟩ := Kd.R_slice HO423.out;subst eo6;obtain ⟨Ao7,co7,eo7⟩ := Kd.R_slice HO419.out;subst eo7;obtain ⟨hcz8_0,hcz8_1,hcz8_2,hcz8_3,hcz8_4⟩ := cO5 BK416.out;have hfz8_0 := blk_frozen BK416.out 0;have hfz8_1 := blk_frozen BK416.out 1;have hfz8_2 := blk_frozen BK416.out 2;have hfz8_3 := blk_frozen BK416.out 3;have hfz8_4 := blk_frozen BK416.out 4))
 refine bodyPost_ret (results_cell_row rfl _ _ gb416 27 #[.slice Ao7 t417.length co7,.int .i64 t420,.slice Ao6 y421.length co6,.int .i64 8,.int .i64 100] (0,0) _ rfl (blk_put (cs := #[.slice Ao7 t417.length co7,.int .i64 t420,.slice Ao6 y421.length co6,.int .i64 8,.int .i64 0]) (blk_put (cs := #[.slice Ao7 t417.length co7,.int .i64 t420,.slice Ao6 y421.length co6,.int .i64 0,.int .i64 0]) (blk_put (cs := #[.slice Ao7 t417.length co7,.int .i64 t420,.slice none 0 0,.int .i64 0,.int .i64 0]) (blk_put (cs := #[.slice Ao7 t417.length co7,.int .i64 0,.slice none 0 0,.int .i64 0,.int .i64 0]) (blk_put (cs := #[.slice none 0 0,.int .i64 0,.slice none 0 0,.int .i64 0,.int .i64 0]) BK416.out 0 _ rfl) 1 _ rfl) 2 _ rfl) 3 _ rfl) 4 _ rfl) Tryz.underlying27 rfl (by kernel_rfl)) rfl ?_
 exact ⟨_,_,by first | rfl | (simp [*] <;> rfl),by (with_reducible repeat (first | apply Kd.R_alloc | apply Kd.R_drewN | apply Kd.R_drew));exact Kd.R_mono (Kd.R_far (p := ⟨gb416,4,none⟩) (Kd.R_far (p := ⟨gb416,3,none⟩) (Kd.R_far (p := ⟨gb416,2,none⟩) (Kd.R_far (p := ⟨gb416,1,none⟩) (Kd.R_far (p := ⟨gb416,0,none⟩) (Kd.R_types HO419.out BK416.out (by decide)) (fun _ hk => hk.2) (.slice Ao7 t417.length co7)) (fun _ hk => hk.2) (.int .i64 t420)) (fun _ hk => hk.2) (.slice Ao6 y421.length co6)) (fun _ hk => hk.2) (.int .i64 8)) (fun _ hk => hk.2) (.int .i64 100)) (fun _ hk => trivial),by (with_reducible repeat (first | apply Kd.R_alloc | apply Kd.R_drewN | apply Kd.R_drew));exact Kd.R_mono (Kd.R_far (p := ⟨gb416,4,none⟩) (Kd.R_far (p := ⟨gb416,3,none⟩) (Kd.R_far (p := ⟨gb416,2,none⟩) (Kd.R_far (p := ⟨gb416,1,none⟩) (Kd.R_far (p := ⟨gb416,0,none⟩) (Kd.R_types HO423.out BK416.out (by decide)) (fun _ hk => hk.2) (.slice Ao7 t417.length co7)) (fun _ hk => hk.2) (.int .i64 t420)) (fun _ hk => hk.2) (.slice Ao6 y421.length co6)) (fun _ hk => hk.2) (.int .i64 8)) (fun _ hk => hk.2) (.int .i64 100)) (fun _ hk => trivial),by repeat (first | (with_reducible first | exact HB.out | refine below_set ?_ GE416.out | apply below_alloc | apply pw_below_drewN) | exact HB.out)⟩
def l4_C.f  : Option ((List (S27)) × (List (S123))) := (l4_A.f).bind fun bt425 => ((l4_B.f).bind fun bt434 => (some ((([(⟨(⟨bt425.1,bt425.2.1⟩ : S24),bt425.2.2.1,bt425.2.2.2.1,bt425.2.2.2.2⟩ : S27),(⟨(⟨bt434.1,bt434.2.1⟩ : S24),bt434.2.2.1,bt434.2.2.2.1,bt434.2.2.2.2⟩ : S27)] : List (S27))),(([(⟨0,2⟩ : S123)] : List (S123))))))
theorem l4_C.calls  (r1 : List (S27)) (r2 : List (S123)) (w : World) (h : l4_C.f  = some (r1,r2)) :
 Calls Tryz.prog 51 #[] w fun e w' => ∃ v0_ v1_ : Value,e = .returned (.agg #[v0_,v1_]) ∧ Kd.N k27 27 w' w.heap.size (fun k_ => (w.heap.size ≤ k_) ∧ some k_ ≠ (v1_ : Value).ownBlock) v0_ r1 ∧ Kd.R k123 123 w' w.heap.size (fun k_ => (w.heap.size ≤ k_)) v1_ r2 ∧ Below w.heap.size w w' := by
 have hu89 := Tryz.underlying89
 have hu123 := Tryz.underlying123
 have HB := am (Below.refl w.heap.size w)
 have H : ((l4_A.f).bind fun bt425 => ((l4_B.f).bind fun bt434 => (some ((([(⟨(⟨bt425.1,bt425.2.1⟩ : S24),bt425.2.2.1,bt425.2.2.2.1,bt425.2.2.2.2⟩ : S27),(⟨(⟨bt434.1,bt434.2.1⟩ : S24),bt434.2.2.1,bt434.2.2.2.1,bt434.2.2.2.2⟩ : S27)] : List (S27))),(([(⟨0,2⟩ : S123)] : List (S123))))))) = some (r1,r2) := h
 clear h
 replace H := obm H
 obtain ⟨⟨t425,t428,t429,t432,t433⟩,A10,H⟩ := H
 (try dsimp only at H)
 have A1 := am A10
 clear A10
 replace H := obm H
 obtain ⟨⟨t434,t437,t438,t441,t442⟩,A20,H⟩ := H
 (try dsimp only at H)
 have A2 := am A20
 clear A20
 obtain ⟨y443,hy443⟩ : ∃ y_ : List (S27),y_ = (([(⟨(⟨t425,t428⟩ : S24),t429,t432,t433⟩ : S27),(⟨(⟨t434,t437⟩ : S24),t438,t441,t442⟩ : S27)] : List (S27))) := ⟨_,rfl⟩
 replace H : (some (y443,(([(⟨0,2⟩ : S123)] : List (S123))))) = some (r1,r2) := by first | (rw [hy443];with_reducible exact H) | (have H2_ := (Option.bind_some _ _).symm.trans H;rw [hy443];with_reducible exact H2_) | (have H2_ := (Option.bind_some _ _).symm.trans H;with_reducible exact H2_) | with_reducible exact H | (rw [hy443];exact H) | exact H
 have Ny443 := am hy443
 clear hy443
 obtain ⟨y446,hy446⟩ : ∃ y_ : List (S123),y_ = (([(⟨0,2⟩ : S123)] : List (S123))) := ⟨_,rfl⟩
 replace H : (some (y443,y446)) = some (r1,r2) := by first | (rw [hy446];with_reducible exact H) | (have H2_ := (Option.bind_some _ _).symm.trans H;rw [hy446];with_reducible exact H2_) | (have H2_ := (Option.bind_some _ _).symm.trans H;with_reducible exact H2_) | with_reducible exact H | (rw [hy446];exact H) | exact H
 have Ny446 := am hy446
 clear hy446
 simp only [Option.some.injEq,Prod.mk.injEq] at H
 obtain ⟨rfl,rfl⟩ := H
 go_enter Tryz.func51,Tryz.ntmps51
 go_wp2_with (first | ((refine gate_dst (N := 0) rfl ?_);refine box_event rfl (N := 0) rfl (cs := #[.slice none 0 0,.slice none 0 0]) (t := 89) ?hr ?_;(case hr => go_simp;try rfl);intro gb424 hg w3 hbox hb;have BK424 := am (hbox);have GE424 := am (ge_new (HB.out) hg);replace HB := am (below_step (HB.out) hb);clear hb hbox hg) | ((with_reducible refine gate_callee (f := 49) rfl ?_);refine goesL_ (some 1) rfl rfl Tryz.func49 (by kernel_rfl) rfl #[] rfl (by (try simp only [List.map_toArray,List.map_cons,List.map_nil]);first | done | rfl | (simp only [List.length_drop,List.length_take];rfl)) ?_;(refine (l4_A.calls  t425 t428 t429 t432 t433 _ A1.out).mono ?_);rintro e w4 ⟨v426,v430,rfl,ho0,ho1,hb⟩;refine ⟨_,rfl,?_⟩;have HO427 := am (Kd.R_lower (Kd.R_newM (M := fun k_ => (w.heap.size ≤ k_)) ho0 (below_size (HB.out)) (fun k_ h_ => h_)) (below_size (HB.out)));have HO431 := am (Kd.R_lower (Kd.R_newM (M := fun k_ => (w.heap.size ≤ k_)) ho1 (below_size (HB.out)) (fun k_ h_ => h_)) (below_size (HB.out)));replace BK424 := (kmv hb BK424);replace HB := am (below_step (HB.out) hb);(try clear hb);(try clear hb2);(try clear hk);(try clear hi);(try clear ho0);(try clear ho1)) | ((with_reducible refine gate_callee (f := 89) rfl ?_);refine goesL_ (some 2) rfl rfl Tryz.func89 (by kernel_rfl) rfl #[] rfl (by (try simp only [List.map_toArray,List.map_cons,List.map_nil]);first | done | rfl | (simp only [List.length_drop,List.length_take];rfl)) ?_;(refine (l4_B.calls  t434 t437 t438 t441 t442 _ A2.out).mono ?_);rintro e w5 ⟨v435,v439,rfl,ho0,ho1,hb⟩;refine ⟨_,rfl,?_⟩;have HO436 := am (Kd.R_lower (Kd.R_new' (Kd.R_newM (M := fun k_ => (w.heap.size ≤ k_)) ho0 (below_size (HB.out)) (fun k_ h_ => h_)) (Kd.R_lt HO427.out)) (below_size (HB.out)));have HO440 := am (Kd.R_lower (Kd.R_new' (Kd.R_newM (M := fun k_ => (w.heap.size ≤ k_)) ho1 (below_size (HB.out)) (fun k_ h_ => h_)) (Kd.R_lt HO431.out)) (below_size (HB.out)));replace HO427 := am (Kd.R_elder' HO427.out (Kd.R_base ho0) hb);replace HO431 := am (Kd.R_elder' HO431.out (Kd.R_base ho1) hb);replace BK424 := (kmv hb BK424);replace HB := am (below_step (HB.out) hb);(try clear hb);(try clear hb2);(try clear hk);(try clear hi);(try clear ho0);(try clear ho1);obtain ⟨Ao6,co6,eo6⟩ := Kd.R_slice HO427.out;subst eo6;obtain ⟨Ao7,co7,eo7⟩ := Kd.R_slice HO431.out;subst eo7;obtain ⟨Ao8,co8,eo8⟩ := Kd.R_slice HO436.out;subst eo8;obtain ⟨Ao9,co9,eo9⟩ := Kd.R_slice HO440.out;subst eo9) | ((refine gate_dst (N := 3) rfl ?_);refine Kd.N_lit k27 _ 27 ?hg (N' := 3) ?hd (xs := ([(⟨(⟨t425,t428⟩ : S24),t429,t432,t433⟩ : S27),(⟨(⟨t434,t437⟩ : S24),t438,t441,t442⟩ : S27)] : List (S27))) (inner := [.slice Ao6 t425.length co6,.int .i64 t428,.slice Ao7 t429.length co7,.int .i64 t432,.int .i64 t433,.slice Ao8 t434.length co8,.int .i64 t437,.slice Ao9 t438.length co9,.int .i64 t441,.int .i64 t442]) (ok := (fun k_ => (w.heap.size ≤ k_) ∧ k_ ≠ gb424)) (okp := (fun k_ => (w.heap.size ≤ k_) ∧ k_ ≠ gb424)) ?hr ?hp (fun _ hk => hk) ((show ∀ k_,w5.heap.size ≤ k_ → (fun k_ => (w.heap.size ≤ k_) ∧ k_ ≠ gb424) k_ from fun k_ hk => ⟨(Nat.le_trans (below_size (HB.out)) hk),Kd.freshB (g := gb424) (o := .cells #[.slice none 0 0,.slice none 0 0] 89 (0,0)) BK424.out k_ hk⟩) _ (Nat.le_refl _)) (Below.refl _ _) (Nat.le_refl _) (by simp) ?_;(case hd => rfl);(case hg => rfl);(case hr => go_simp;try rfl);(case hp => exact (Reps.c5 (show Kd.FK k27 _ _ (⟨(⟨t425,t428⟩ : S24),t429,t432,t433⟩ : S27) [.slice Ao6 t425.length co6,.int .i64 t428,.slice Ao7 t429.length co7,.int .i64 t432,.int .i64 t433] from (k27_mkF _ _ (⟨(⟨t425,t428⟩ : S24),t429,t432,t433⟩ : S27) (Kd.R_reads' (Kd.R_mono (ok' := (fun k_ => (w.heap.size ≤ k_) ∧ k_ ≠ gb424)) (Kd.R_types (HO427.out) BK424.out (by decide)) (fun k_ hk => ⟨hk.1.1.1,hk.2⟩))).2.1 (Kd.R_F (Kd.R_mono (ok' := (fun k_ => (w.heap.size ≤ k_) ∧ k_ ≠ gb424)) (Kd.R_types (HO427.out) BK424.out (by decide)) (fun k_ hk => ⟨hk.1.1.1,hk.2⟩))) (Kd.R_reads' (Kd.R_mono (ok' := (fun k_ => (w.heap.size ≤ k_) ∧ k_ ≠ gb424)) (Kd.R_types (HO431.out) BK424.out (by decide)) (fun k_ hk => ⟨hk.1.1.1,hk.2⟩))).2.1 (Kd.R_F (Kd.R_mono (ok' := (fun k_ => (w.heap.size ≤ k_) ∧ k_ ≠ gb424)) (Kd.R_types (HO431.out) BK424.out (by decide)) (fun k_ hk => ⟨hk.1.1.1,hk.2⟩))))) (Reps.c5 (show Kd.FK k27 _ _ (⟨(⟨t434,t437⟩ : S24),t438,t441,t442⟩ : S27) [.slice Ao8 t434.length co8,.int .i64 t437,.slice Ao9 t438.length co9,.int .i64 t441,.int .i64 t442] from (k27_mkF _ _ (⟨(⟨t434,t437⟩ : S24),t438,t441,t442⟩ : S27) (Kd.R_reads' (Kd.R_mono (ok' := (fun k_ => (w.heap.size ≤ k_) ∧ k_ ≠ gb424)) (Kd.R_types (HO436.out) BK424.out (by decide)) (fun k_ hk => ⟨hk.1.1.1,hk.2⟩))).2.1 (Kd.R_F (Kd.R_mono (ok' := (fun k_ => (w.heap.size ≤ k_) ∧ k_ ≠ gb424)) (Kd.R_types (HO436.out) BK424.out (by decide)) (fun k_ hk => ⟨hk.1.1.1,hk.2⟩))) (Kd.R_reads' (Kd.R_mono (ok' := (fun k_ => (w.heap.size ≤ k_) ∧ k_ ≠ gb424)) (Kd.R_types (HO440.out) BK424.out (by decide)) (fun k_ hk => ⟨hk.1.1.1,hk.2⟩))).2.1 (Kd.R_F (Kd.R_mono (ok' := (fun k_ => (w.heap.size ≤ k_) ∧ k_ ≠ gb424)) (Kd.R_types (HO440.out) BK424.out (by decide)) (fun k_ hk => ⟨hk.1.1.1,hk.2⟩))))) (Reps.none _ _))));intro v444 w10 ho11 hb hg_ hnew_;clear hg_ hnew_;(first | rw [← Ny443.out] at ho11 | (simp only [Int.reduceToNat] at ho11;rw [← Ny443.out] at ho11));have n0_ := am (Kd.N_lower ho11 (below_size (HB.out)));have n1_ := (kmv hb BK424);have n2_ := am (below_step (HB.out) hb);clear BK424;clear HB;clear HO427;clear HO431;clear HO436;clear HO440;have HO445 := n0_;have BK424 := n1_;have HB := n2_;clear n0_ n1_ n2_;clear hb ho11) | ((refine gate_dst (N := 5) rfl ?_);refine Kd.R_lit k123 _ 123 ?hg (N := 5) ?hd (xs := ([(⟨0,2⟩ : S123)] : List (S123))) (inner := [.int .i64 0,.int .i64 2]) (ok := fun _ => True) (okp := fun _ => True) ?hr ?hp (fun _ hk => hk) trivial (Below.refl _ _) (Nat.le_refl _) (by simp) ?_;(case hd => rfl);(case hg => rfl);(case hr => go_simp;try rfl);(case hp => exact (Reps.c2 (show Kd.M k123 _ _ _ (⟨0,2⟩ : S123) [.int .i64 0,.int .i64 2] from (k123_mkM _ _ _ (⟨0,2⟩ : S123) )) (Reps.none _ _)));intro v447 w12 ho13 hb hg_ hnew_;clear hg_ hnew_;(first | rw [← Ny446.out] at ho13 | (simp only [Int.reduceToNat] at ho13;rw [← Ny446.out] at ho13));have HO448 := am (Kd.R_lower (Kd.R_newM (M := fun k_ => (w.heap.size ≤ k_)) ho13 (below_size (HB.out)) (fun k_ h_ => h_)) (below_size (HB.out)));replace HO445 := am (Kd.N_elder' HO445.out (Kd.R_base ho13) hb);replace BK424 := (kmv hb BK424);replace HB := am (below_step (HB.out) hb);clear hb ho13;obtain ⟨Ao14,co14,eo14⟩ := Kd.R_slice HO448.out;subst eo14;obtain ⟨Ao15,co15,eo15⟩ := Kd.N_slice HO445.out;subst eo15;obtain ⟨hcz16_0,hcz16_1⟩ := cO2 BK424.out;have hfz16_0 := blk_frozen BK424.out 0;have hfz16_1 := blk_frozen BK424.out 1))
 refine bodyPost_ret (results_cell_row rfl _ _ gb424 89 #[.slice Ao15 y443.length co15,.slice Ao14 y446.length co14] (0,0) _ rfl (blk_put (cs := #[.slice Ao15 y443.length co15,.slice none 0 0]) (blk_put (cs := #[.slice none 0 0,.slice none 0 0]) BK424.out 0 _ rfl) 1 _ rfl) Tryz.underlying89 rfl (by kernel_rfl)) rfl ?_
 exact ⟨_,_,by first | rfl | (simp [*] <;> rfl),by (with_reducible repeat (first | apply Kd.N_alloc | apply Kd.N_drewN | apply Kd.N_drew));exact Kd.N_mono (Kd.N_far (p := ⟨gb424,1,none⟩) (Kd.N_far (p := ⟨gb424,0,none⟩) (Kd.N_mono HO445.out (fun k_ hk => (⟨hk,hk.1.2⟩ : _ ∧ k_ ≠ gb424))) (fun _ hk => hk.2) (.slice Ao15 y443.length co15)) (fun _ hk => hk.2) (.slice Ao14 y446.length co14)) (fun _ hk => ⟨hk.1.1.1,hk.1.2⟩),by (with_reducible repeat (first | apply Kd.R_alloc | apply Kd.R_drewN | apply Kd.R_drew));exact Kd.R_mono (Kd.R_far (p := ⟨gb424,1,none⟩) (Kd.R_far (p := ⟨gb424,0,none⟩) (Kd.R_types HO448.out BK424.out (by decide)) (fun _ hk => hk.2) (.slice Ao15 y443.length co15)) (fun _ hk => hk.2) (.slice Ao14 y446.length co14)) (fun _ hk => hk.1.1),by repeat (first | (with_reducible first | exact HB.out | refine below_set ?_ GE424.out | apply below_alloc | apply pw_below_drewN) | exact HB.out)⟩
end
end Go.Proofs.YticlelgmmonloaaGreatDoor.C

/- A part of the proof: the walks of the functions that it reaches. TIGHT. -/
import Derived.Test.YtnnmnhpeblhiiaaGreatDoorMP17
import Derived.Test.YtnnmnhpeblhiiaaGreatDoorMP22
import Derived.Lib.Hide
import Derived.WideKeyRuns
set_option linter.unusedVariables false
set_option linter.unusedSimpArgs false
namespace Go.Proofs.YtnnmnhpeblhiiaaGreatDoor.C
open Go.RowKit Go.Proofs.YtnnmnhpeblhiiaaGreatDoorW.PrintWords Go.Proofs.YtnnmnhpeblhiiaaGreatDoorW.PrintLast Go.Proofs.YtnnmnhpeblhiiaaGreatDoorW.PrintMore
set_option linter.unusedVariables false
set_option linter.unusedSimpArgs false
set_option maxHeartbeats 16000000
set_option maxRecDepth 100000
section
attribute [local go_sem] max2_int min2_int max_two min_two
def l4_CastlePrints.f (k : Nat) (l0_0 : List (S126)) (a0_1 : Int) (l0_2 : List (S48)) (a0_3 : Int) (a0_4 : Int) : Option (Bool) := (l4_short.f l0_0 a0_1 l0_2 a0_3 a0_4).bind fun t971 => (if t971 = true then ((ca_Print.f l0_0 a0_1 l0_2 a0_3 a0_4).bind fun bt973 => ((q4_Basin.f k l0_0 a0_1 l0_2 a0_3 a0_4).bind fun t975 => (if t975 = true then ((ca_ReadP.f l0_0 a0_1 bt973.1).bind fun bt977 => (if bt973.2 = 0 then ((q4_Print.f k l0_0 a0_1 l0_2 a0_3 a0_4).bind fun t988 => (if bt973.1.toList = t988.toList then (if bt977.2.2.2.2.2 = 0 then ((q4_SameBasins.f k bt977.1 bt977.2.1 bt977.2.2.1 bt977.2.2.2.1 bt977.2.2.2.2.1 l0_0 a0_1 l0_2 a0_3 a0_4).bind fun t989 => (if t989 = true then ((l4_known.f).bind fun t990 => (some t990)) else (none))) else (none)) else (none))) else (none))) else (if bt973.2 = 2 then (if bt973.1.toList = ([] : List UInt8) then ((l4_known.f).bind fun t976 => (some t976)) else (none)) else (none))))) else ((l4_known.f).bind fun t972 => (some t972)))
theorem l4_CastlePrints.calls (k : Nat) (A0_0 : Option Addr) (c0_0 : Nat) (l0_0 : List (S126)) (a0_1 : Int) (A0_2 : Option Addr) (c0_2 : Nat) (l0_2 : List (S48)) (a0_3 : Int) (a0_4 : Int) (r : Bool) (w : World) (hr0_0 : Kd.C k126 w A0_0 l0_0.length l0_0) (hc0_0 : l0_0.length ≤ c0_0) (hr0_2 : Kd.C k48 w A0_2 l0_2.length l0_2) (hc0_2 : l0_2.length ≤ c0_2) (hg : GV w) (h : l4_CastlePrints.f k l0_0 a0_1 l0_2 a0_3 a0_4 = some r) :
 Calls Tryz.prog 11 #[.agg #[.slice A0_0 l0_0.length c0_0,.int .i64 a0_1,.slice A0_2 l0_2.length c0_2,.int .i64 a0_3,.int .i64 a0_4]] w fun e w' => e = .returned (.bool r) ∧ Below w.heap.size w w' := by
 have HG := am hg
 clear hg
 have hu27 := Tryz.underlying27
 have hu24 := Tryz.underlying24
 have HR0_0 := am hr0_0
 have HC0_0 := am hc0_0
 clear hr0_0 hc0_0
 have HR0_2 := am hr0_2
 have HC0_2 := am hc0_2
 clear hr0_2 hc0_2
 have HB := am (Below.refl w.heap.size w)
 have H : ((l4_short.f l0_0 a0_1 l0_2 a0_3 a0_4).bind fun t971 => (if t971 = true then ((ca_Print.f l0_0 a0_1 l0_2 a0_3 a0_4).bind fun bt973 => ((q4_Basin.f k l0_0 a0_1 l0_2 a0_3 a0_4).bind fun t975 => (if t975 = true then ((ca_ReadP.f l0_0 a0_1 bt973.1).bind fun bt977 => (if bt973.2 = 0 then ((q4_Print.f k l0_0 a0_1 l0_2 a0_3 a0_4).bind fun t988 => (if bt973.1.toList = t988.toList then (if bt977.2.2.2.2.2 = 0 then ((q4_SameBasins.f k bt977.1 bt977.2.1 bt977.2.2.1 bt977.2.2.2.1 bt977.2.2.2.2.1 l0_0 a0_1 l0_2 a0_3 a0_4).bind fun t989 => (if t989 = true then ((l4_known.f).bind fun t990 => (some t990)) else (none))) else (none)) else (none))) else (none))) else (if bt973.2 = 2 then (if bt973.1.toList = ([] : List UInt8) then ((l4_known.f).bind fun t976 => (some t976)) else (none)) else (none))))) else ((l4_known.f).bind fun t972 => (some t972)))) = some r := h
 clear h
 replace H := obm H
 obtain ⟨t971,A20,H⟩ := H
 replace H : (if t971 = true then ((ca_Print.f l0_0 a0_1 l0_2 a0_3 a0_4).bind fun bt973 => ((q4_Basin.f k l0_0 a0_1 l0_2 a0_3 a0_4).bind fun t975 => (if t975 = true then ((ca_ReadP.f l0_0 a0_1 bt973.1).bind fun bt977 => (if bt973.2 = 0 then ((q4_Print.f k l0_0 a0_1 l0_2 a0_3 a0_4).bind fun t988 => (if bt973.1.toList = t988.toList then (if bt977.2.2.2.2.2 = 0 then ((q4_SameBasins.f k bt977.1 bt977.2.1 bt977.2.2.1 bt977.2.2.2.1 bt977.2.2.2.2.1 l0_0 a0_1 l0_2 a0_3 a0_4).bind fun t989 => (if t989 = true then ((l4_known.f).bind fun t990 => (some t990)) else (none))) else (none)) else (none))) else (none))) else (if bt973.2 = 2 then (if bt973.1.toList = ([] : List UInt8) then ((l4_known.f).bind fun t976 => (some t976)) else (none)) else (none))))) else ((l4_known.f).bind fun t972 => (some t972))) = some r := H
 have A2 := am A20
 clear A20
 by_cases c3 : t971 = true
 case neg =>
  replace c3 := Bool.eq_false_iff.mpr c3
  subst c3
  replace H : ((l4_known.f).bind fun t972 => (some t972)) = some r := by rw [if_neg (show ¬ (false = true) by decide)] at H;exact H
  replace H := obm H
  obtain ⟨t972,A460,H⟩ := H
  replace H : (some t972) = some r := H
  have A46 := am A460
  clear A460
  obtain rfl := Option.some.inj H
  go_enter Tryz.func11,Tryz.ntmps11
  go_wp2_with (first | ((refine gate_dst (N := 1) rfl ?_);refine box_event rfl (N := 1) rfl (cs := #[.slice A0_0 l0_0.length c0_0,.int .i64 a0_1,.slice A0_2 l0_2.length c0_2,.int .i64 a0_3,.int .i64 a0_4]) (t := 27) ?hr ?_;(case hr => go_simp;try rfl);intro gb970 hg w47 hbox hb;have BK970 := am (hbox);have GW970 := am (ge_new (HB.out) hg);have GE970 := am (ge_new (HB.out) hg);replace HB := am (below_step (HB.out) hb);clear hb hbox hg;obtain ⟨hcz48_0,hcz48_1,hcz48_2,hcz48_3,hcz48_4⟩ := cO5 BK970.out) | ((with_reducible refine gate_callee (f := 14) rfl ?_);refine goesL_ (some 8) rfl rfl Tryz.func14 (by kernel_rfl) rfl #[.agg #[.slice A0_0 l0_0.length c0_0,.int .i64 a0_1,.slice A0_2 l0_2.length c0_2,.int .i64 a0_3,.int .i64 a0_4]] rfl (by (try simp only [List.map_toArray,List.map_cons,List.map_nil]);first | done | rfl | (simp only [List.length_drop,List.length_take];rfl)) ?_;(with_reducible refine (l4_short.calls _ _ l0_0 a0_1 _ _ l0_2 a0_3 a0_4 false _ ?side1 ?side2 ?side3 ?side4 A2.out).mono ?_);(case side1 => exact kC HR0_0.out HB.out);(case side2 => exact HC0_0.out);(case side3 => exact kC HR0_2.out HB.out);(case side4 => exact HC0_2.out);rintro e w49 ⟨rfl,hb⟩;refine ⟨_,rfl,?_⟩;replace BK970 := (kmv hb BK970);replace HB := am (below_step (HB.out) hb);(try clear hb);(try clear hb2);(try clear hk);(try clear hi)) | ((with_reducible refine gate_callee (f := 19) rfl ?_);refine goesL_ (some 10) rfl rfl Tryz.func19 (by kernel_rfl) rfl #[] rfl (by (try simp only [List.map_toArray,List.map_cons,List.map_nil]);first | done | rfl | (simp only [List.length_drop,List.length_take];rfl)) ?_;(with_reducible refine (l4_known.calls  t972 _ A46.out).mono ?_);rintro e w50 ⟨rfl,hb⟩;refine ⟨_,rfl,?_⟩;replace BK970 := (kmv hb BK970);replace HB := am (below_step (HB.out) hb);(try clear hb);(try clear hb2);(try clear hk);(try clear hi)))
  go_ret
  exact ⟨by first | rfl | (simp [*] <;> rfl),HB.out⟩
 subst c3
 replace H : ((ca_Print.f l0_0 a0_1 l0_2 a0_3 a0_4).bind fun bt973 => ((q4_Basin.f k l0_0 a0_1 l0_2 a0_3 a0_4).bind fun t975 => (if t975 = true then ((ca_ReadP.f l0_0 a0_1 bt973.1).bind fun bt977 => (if bt973.2 = 0 then ((q4_Print.f k l0_0 a0_1 l0_2 a0_3 a0_4).bind fun t988 => (if bt973.1.toList = t988.toList then (if bt977.2.2.2.2.2 = 0 then ((q4_SameBasins.f k bt977.1 bt977.2.1 bt977.2.2.1 bt977.2.2.2.1 bt977.2.2.2.2.1 l0_0 a0_1 l0_2 a0_3 a0_4).bind fun t989 => (if t989 = true then ((l4_known.f).bind fun t990 => (some t990)) else (none))) else (none)) else (none))) else (none))) else (if bt973.2 = 2 then (if bt973.1.toList = ([] : List UInt8) then ((l4_known.f).bind fun t976 => (some t976)) else (none)) else (none))))) = some r := by rw [if_pos rfl] at H;exact H
 replace H := obm H
 obtain ⟨⟨t973,t974⟩,A40,H⟩ := H
 replace H : ((q4_Basin.f k l0_0 a0_1 l0_2 a0_3 a0_4).bind fun t975 => (if t975 = true then ((ca_ReadP.f l0_0 a0_1 t973).bind fun bt977 => (if t974 = 0 then ((q4_Print.f k l0_0 a0_1 l0_2 a0_3 a0_4).bind fun t988 => (if t973.toList = t988.toList then (if bt977.2.2.2.2.2 = 0 then ((q4_SameBasins.f k bt977.1 bt977.2.1 bt977.2.2.1 bt977.2.2.2.1 bt977.2.2.2.2.1 l0_0 a0_1 l0_2 a0_3 a0_4).bind fun t989 => (if t989 = true then ((l4_known.f).bind fun t990 => (some t990)) else (none))) else (none)) else (none))) else (none))) else (if t974 = 2 then (if t973.toList = ([] : List UInt8) then ((l4_known.f).bind fun t976 => (some t976)) else (none)) else (none)))) = some r := H
 have A4 := am A40
 clear A40
 replace H := obm H
 obtain ⟨t975,A50,H⟩ := H
 replace H : (if t975 = true then ((ca_ReadP.f l0_0 a0_1 t973).bind fun bt977 => (if t974 = 0 then ((q4_Print.f k l0_0 a0_1 l0_2 a0_3 a0_4).bind fun t988 => (if t973.toList = t988.toList then (if bt977.2.2.2.2.2 = 0 then ((q4_SameBasins.f k bt977.1 bt977.2.1 bt977.2.2.1 bt977.2.2.2.1 bt977.2.2.2.2.1 l0_0 a0_1 l0_2 a0_3 a0_4).bind fun t989 => (if t989 = true then ((l4_known.f).bind fun t990 => (some t990)) else (none))) else (none)) else (none))) else (none))) else (if t974 = 2 then (if t973.toList = ([] : List UInt8) then ((l4_known.f).bind fun t976 => (some t976)) else (none)) else (none))) = some r := H
 have A5 := am A50
 clear A50
 by_cases c6 : t975 = true
 case neg =>
  replace c6 := Bool.eq_false_iff.mpr c6
  subst c6
  replace H : (if t974 = 2 then (if t973.toList = ([] : List UInt8) then ((l4_known.f).bind fun t976 => (some t976)) else (none)) else (none)) = some r := by rw [if_neg (show ¬ (false = true) by decide)] at H;exact H
  by_cases c35 : t974 = 2
  case neg =>
   rw [if_neg c35] at H
   exact absurd H (by simp)
  rw [if_pos c35] at H
  have c35b0 : (t974 == 2) = true := beq_iff_eq.mpr c35
  have c35b1 : (t974 != 2) = false := bne_eq_false_iff_eq.mpr c35
  clear c35
  by_cases c36 : t973.toList = ([] : List UInt8)
  case neg =>
   rw [if_neg c36] at H
   exact absurd H (by simp)
  rw [if_pos c36] at H
  have c36b0 : (t973.toList == ([] : List UInt8)) = true := beq_iff_eq.mpr c36
  have c36b1 : (t973.toList != ([] : List UInt8)) = false := bne_eq_false_iff_eq.mpr c36
  clear c36
  replace H := obm H
  obtain ⟨t976,A370,H⟩ := H
  replace H : (some t976) = some r := H
  have A37 := am A370
  clear A370
  obtain rfl := Option.some.inj H
  go_enter Tryz.func11,Tryz.ntmps11
  go_wp2_with (first | ((refine gate_dst (N := 1) rfl ?_);refine box_event rfl (N := 1) rfl (cs := #[.slice A0_0 l0_0.length c0_0,.int .i64 a0_1,.slice A0_2 l0_2.length c0_2,.int .i64 a0_3,.int .i64 a0_4]) (t := 27) ?hr ?_;(case hr => go_simp;try rfl);intro gb970 hg w38 hbox hb;have BK970 := am (hbox);have GW970 := am (ge_new (HB.out) hg);have GE970 := am (ge_new (HB.out) hg);replace HB := am (below_step (HB.out) hb);clear hb hbox hg;obtain ⟨hcz39_0,hcz39_1,hcz39_2,hcz39_3,hcz39_4⟩ := cO5 BK970.out) | ((with_reducible refine gate_callee (f := 14) rfl ?_);refine goesL_ (some 8) rfl rfl Tryz.func14 (by kernel_rfl) rfl #[.agg #[.slice A0_0 l0_0.length c0_0,.int .i64 a0_1,.slice A0_2 l0_2.length c0_2,.int .i64 a0_3,.int .i64 a0_4]] rfl (by (try simp only [List.map_toArray,List.map_cons,List.map_nil]);first | done | rfl | (simp only [List.length_drop,List.length_take];rfl)) ?_;(with_reducible refine (l4_short.calls _ _ l0_0 a0_1 _ _ l0_2 a0_3 a0_4 true _ ?side1 ?side2 ?side3 ?side4 A2.out).mono ?_);(case side1 => exact kC HR0_0.out HB.out);(case side2 => exact HC0_0.out);(case side3 => exact kC HR0_2.out HB.out);(case side4 => exact HC0_2.out);rintro e w40 ⟨rfl,hb⟩;refine ⟨_,rfl,?_⟩;replace BK970 := (kmv hb BK970);replace HB := am (below_step (HB.out) hb);(try clear hb);(try clear hb2);(try clear hk);(try clear hi);obtain ⟨hcz41_0,hcz41_1,hcz41_2,hcz41_3,hcz41_4⟩ := cO5 BK970.out) | ((with_reducible refine gate_callee (f := 49) rfl ?_);refine goesL_ (some 13) rfl rfl Tryz.func49 (by kernel_rfl) rfl #[.agg #[.slice A0_0 l0_0.length c0_0,.int .i64 a0_1,.slice A0_2 l0_2.length c0_2,.int .i64 a0_3,.int .i64 a0_4]] rfl (by (try simp only [List.map_toArray,List.map_cons,List.map_nil]);first | done | rfl | (simp only [List.length_drop,List.length_take];rfl)) ?_;(with_reducible refine (ca_Print.calls _ _ l0_0 a0_1 _ _ l0_2 a0_3 a0_4 t973 t974 _ ?side1 ?side2 ?side3 ?side4 (HG.out.below (by repeat (first | (with_reducible exact HB.out) | (with_reducible apply below_alloc) | (with_reducible apply pw_below_drewN) | (with_reducible apply below_drew1) | (with_reducible refine below_set ?_ (Aside0.out (by assumption))) | exact HB.out))) A4.out).mono ?_);(case side1 => exact kC HR0_0.out HB.out);(case side2 => exact HC0_0.out);(case side3 => exact kC HR0_2.out HB.out);(case side4 => exact HC0_2.out);rintro e w42 ⟨rfl,hb⟩;refine ⟨_,rfl,?_⟩;replace BK970 := (kmv hb BK970);replace HB := am (below_step (HB.out) hb);(try clear hb);(try clear hb2);(try clear hk);(try clear hi);obtain ⟨hcz43_0,hcz43_1,hcz43_2,hcz43_3,hcz43_4⟩ := cO5 BK970.out) | ((with_reducible refine gate_callee (f := 15) rfl ?_);refine goesL_ (some 17) rfl rfl Tryz.func15 (by kernel_rfl) rfl #[.agg #[.slice A0_0 l0_0.length c0_0,.int .i64 a0_1,.slice A0_2 l0_2.length c0_2,.int .i64 a0_3,.int .i64 a0_4]] rfl (by (try simp only [List.map_toArray,List.map_cons,List.map_nil]);first | done | rfl | (simp only [List.length_drop,List.length_take];rfl)) ?_;(with_reducible refine (q4_Basin.calls k _ _ l0_0 a0_1 _ _ l0_2 a0_3 a0_4 false _ ?side1 ?side2 ?side3 ?side4 A5.out).mono ?_);(case side1 => exact kC HR0_0.out HB.out);(case side2 => exact HC0_0.out);(case side3 => exact kC HR0_2.out HB.out);(case side4 => exact HC0_2.out);rintro e w44 ⟨rfl,hb⟩;refine ⟨_,rfl,?_⟩;replace BK970 := (kmv hb BK970);replace HB := am (below_step (HB.out) hb);(try clear hb);(try clear hb2);(try clear hk);(try clear hi)) | (go_at_call 19;(with_reducible refine (l4_known.calls  t976 _ A37.out).mono ?_);rintro e w45 ⟨rfl,hb⟩;replace BK970 := (kmv hb BK970);replace HB := am (below_step (HB.out) hb);(try clear hb);(try clear hb2);(try clear hk);(try clear hi)))
  go_ret
  exact ⟨by first | rfl | (simp [*] <;> rfl),HB.out⟩
 subst c6
 replace H : ((ca_ReadP.f l0_0 a0_1 t973).bind fun bt977 => (if t974 = 0 then ((q4_Print.f k l0_0 a0_1 l0_2 a0_3 a0_4).bind fun t988 => (if t973.toList = t988.toList then (if bt977.2.2.2.2.2 = 0 then ((q4_SameBasins.f k bt977.1 bt977.2.1 bt977.2.2.1 bt977.2.2.2.1 bt977.2.2.2.2.1 l0_0 a0_1 l0_2 a0_3 a0_4).bind fun t989 => (if t989 = true then ((l4_known.f).bind fun t990 => (some t990)) else (none))) else (none)) else (none))) else (none))) = some r := by rw [if_pos rfl] at H;exact H
 replace H := obm H
 obtain ⟨⟨t977,t980,t981,t984,t985,t986⟩,A70,H⟩ := H
 replace H : (if t974 = 0 then ((q4_Print.f k l0_0 a0_1 l0_2 a0_3 a0_4).bind fun t988 => (if t973.toList = t988.toList then (if t986 = 0 then ((q4_SameBasins.f k t977 t980 t981 t984 t985 l0_0 a0_1 l0_2 a0_3 a0_4).bind fun t989 => (if t989 = true then ((l4_known.f).bind fun t990 => (some t990)) else (none))) else (none)) else (none))) else (none)) = some r := H
 have A7 := am A70
 clear A70
 by_cases c8 : t974 = 0
 case neg =>
  rw [if_neg c8] at H
  exact absurd H (by simp)
 rw [if_pos c8] at H
 have c8b0 : (t974 == 0) = true := beq_iff_eq.mpr c8
 have c8b1 : (t974 != 0) = false := bne_eq_false_iff_eq.mpr c8
 clear c8
 replace H := obm H
 obtain ⟨t988,A90,H⟩ := H
 replace H : (if t973.toList = t988.toList then (if t986 = 0 then ((q4_SameBasins.f k t977 t980 t981 t984 t985 l0_0 a0_1 l0_2 a0_3 a0_4).bind fun t989 => (if t989 = true then ((l4_known.f).bind fun t990 => (some t990)) else (none))) else (none)) else (none)) = some r := H
 have A9 := am A90
 clear A90
 by_cases c10 : t973.toList = t988.toList
 case neg =>
  rw [if_neg c10] at H
  exact absurd H (by simp)
 rw [if_pos c10] at H
 have c10b0 : (t973.toList == t988.toList) = true := beq_iff_eq.mpr c10
 have c10b1 : (t973.toList != t988.toList) = false := bne_eq_false_iff_eq.mpr c10
 clear c10
 by_cases c11 : t986 = 0
 case neg =>
  rw [if_neg c11] at H
  exact absurd H (by simp)
 rw [if_pos c11] at H
 have c11b0 : (t986 == 0) = true := beq_iff_eq.mpr c11
 have c11b1 : (t986 != 0) = false := bne_eq_false_iff_eq.mpr c11
 clear c11
 replace H := obm H
 obtain ⟨t989,A120,H⟩ := H
 replace H : (if t989 = true then ((l4_known.f).bind fun t990 => (some t990)) else (none)) = some r := H
 have A12 := am A120
 clear A120
 by_cases c13 : t989 = true
 case neg =>
  replace c13 := Bool.eq_false_iff.mpr c13
  subst c13
  replace H : (none) = some r := by rw [if_neg (show ¬ (false = true) by decide)] at H;exact H
  exact absurd H (by simp)
 subst c13
 replace H : ((l4_known.f).bind fun t990 => (some t990)) = some r := by rw [if_pos rfl] at H;exact H
 replace H := obm H
 obtain ⟨t990,A140,H⟩ := H
 replace H : (some t990) = some r := H
 have A14 := am A140
 clear A140
 obtain rfl := Option.some.inj H
 go_enter Tryz.func11,Tryz.ntmps11
 go_wp2_with (first | ((refine gate_dst (N := 1) rfl ?_);refine box_event rfl (N := 1) rfl (cs := #[.slice A0_0 l0_0.length c0_0,.int .i64 a0_1,.slice A0_2 l0_2.length c0_2,.int .i64 a0_3,.int .i64 a0_4]) (t := 27) ?hr ?_;(case hr => go_simp;try rfl);intro gb970 hg w15 hbox hb;have BK970 := am (hbox);have GW970 := am (ge_new (HB.out) hg);have GE970 := am (ge_new (HB.out) hg);replace HB := am (below_step (HB.out) hb);clear hb hbox hg;obtain ⟨hcz16_0,hcz16_1,hcz16_2,hcz16_3,hcz16_4⟩ := cO5 BK970.out) | ((with_reducible refine gate_callee (f := 14) rfl ?_);refine goesL_ (some 8) rfl rfl Tryz.func14 (by kernel_rfl) rfl #[.agg #[.slice A0_0 l0_0.length c0_0,.int .i64 a0_1,.slice A0_2 l0_2.length c0_2,.int .i64 a0_3,.int .i64 a0_4]] rfl (by (try simp only [List.map_toArray,List.map_cons,List.map_nil]);first | done | rfl | (simp only [List.length_drop,List.length_take];rfl)) ?_;(with_reducible refine (l4_short.calls _ _ l0_0 a0_1 _ _ l0_2 a0_3 a0_4 true _ ?side1 ?side2 ?side3 ?side4 A2.out).mono ?_);(case side1 => exact kC HR0_0.out HB.out);(case side2 => exact HC0_0.out);(case side3 => exact kC HR0_2.out HB.out);(case side4 => exact HC0_2.out);rintro e w17 ⟨rfl,hb⟩;refine ⟨_,rfl,?_⟩;replace BK970 := (kmv hb BK970);replace HB := am (below_step (HB.out) hb);(try clear hb);(try clear hb2);(try clear hk);(try clear hi);obtain ⟨hcz18_0,hcz18_1,hcz18_2,hcz18_3,hcz18_4⟩ := cO5 BK970.out) | ((with_reducible refine gate_callee (f := 49) rfl ?_);refine goesL_ (some 13) rfl rfl Tryz.func49 (by kernel_rfl) rfl #[.agg #[.slice A0_0 l0_0.length c0_0,.int .i64 a0_1,.slice A0_2 l0_2.length c0_2,.int .i64 a0_3,.int .i64 a0_4]] rfl (by (try simp only [List.map_toArray,List.map_cons,List.map_nil]);first | done | rfl | (simp only [List.length_drop,List.length_take];rfl)) ?_;(with_reducible refine (ca_Print.calls _ _ l0_0 a0_1 _ _ l0_2 a0_3 a0_4 t973 t974 _ ?side1 ?side2 ?side3 ?side4 (HG.out.below (by repeat (first | (with_reducible exact HB.out) | (with_reducible apply below_alloc) | (with_reducible apply pw_below_drewN) | (with_reducible apply below_drew1) | (with_reducible refine below_set ?_ (Aside0.out (by assumption))) | exact HB.out))) A4.out).mono ?_);(case side1 => exact kC HR0_0.out HB.out);(case side2 => exact HC0_0.out);(case side3 => exact kC HR0_2.out HB.out);(case side4 => exact HC0_2.out);rintro e w19 ⟨rfl,hb⟩;refine ⟨_,rfl,?_⟩;replace BK970 := (kmv hb BK970);replace HB := am (below_step (HB.out) hb);(try clear hb);(try clear hb2);(try clear hk);(try clear hi);obtain ⟨hcz20_0,hcz20_1,hcz20_2,hcz20_3,hcz20_4⟩ := cO5 BK970.out) | ((with_reducible refine gate_callee (f := 15) rfl ?_);refine goesL_ (some 17) rfl rfl Tryz.func15 (by kernel_rfl) rfl #[.agg #[.slice A0_0 l0_0.length c0_0,.int .i64 a0_1,.slice A0_2 l0_2.length c0_2,.int .i64 a0_3,.int .i64 a0_4]] rfl (by (try simp only [List.map_toArray,List.map_cons,List.map_nil]);first | done | rfl | (simp only [List.length_drop,List.length_take];rfl)) ?_;(with_reducible refine (q4_Basin.calls k _ _ l0_0 a0_1 _ _ l0_2 a0_3 a0_4 true _ ?side1 ?side2 ?side3 ?side4 A5.out).mono ?_);(case side1 => exact kC HR0_0.out HB.out);(case side2 => exact HC0_0.out);(case side3 => exact kC HR0_2.out HB.out);(case side4 => exact HC0_2.out);rintro e w21 ⟨rfl,hb⟩;refine ⟨_,rfl,?_⟩;replace BK970 := (kmv hb BK970);replace HB := am (below_step (HB.out) hb);(try clear hb);(try clear hb2);(try clear hk);(try clear hi);obtain ⟨hcz22_0,hcz22_1,hcz22_2,hcz22_3,hcz22_4⟩ := cO5 BK970.out) | ((with_reducible refine gate_callee (f := 50) rfl ?_);refine goesL_ (some 32) rfl rfl Tryz.func50 (by kernel_rfl) rfl #[.agg #[.slice A0_0 l0_0.length c0_0,.int .i64 a0_1],.string t973] rfl (by (try simp only [List.map_toArray,List.map_cons,List.map_nil]);first | done | rfl | (simp only [List.length_drop,List.length_take];rfl)) ?_;(with_reducible refine (ca_ReadP.calls _ _ l0_0 a0_1 t973 t977 t980 t981 t984 t985 t986 _ ?side1 ?side2 (HG.out.below (by repeat (first | (with_reducible exact HB.out) | (with_reducible apply below_alloc) | (with_reducible apply pw_below_drewN) | (with_reducible apply below_drew1) | (with_reducible refine below_set ?_ (Aside0.out (by assumption))) | exact HB.out))) A7.out).mono ?_);(case side1 => exact kC HR0_0.out HB.out);(case side2 => exact HC0_0.out);rintro e w23 ⟨v978,v982,rfl,ho0,ho1,hb⟩;refine ⟨_,rfl,?_⟩;have HO979 := am (Kd.R_lower ho0 (below_size (HB.out)));have HO983 := am (Kd.R_lower ho1 (below_size (HB.out)));replace BK970 := (kmv hb BK970);replace HB := am (below_step (HB.out) hb);(try clear hb);(try clear hb2);(try clear hk);(try clear hi);(try clear ho0);(try clear ho1)) | ((refine gate_dst (N := 5) rfl ?_);refine box_event rfl (N := 5) rfl (cs := #[.slice none 0 0,.int .i64 0,.slice none 0 0,.int .i64 0,.int .i64 0]) (t := 27) ?hr ?_;(case hr => go_simp;try rfl);intro gb987 hg w24 hbox hb;have BK987 := am (hbox);have GW987 := am (ge_new (HB.out) hg);have GE987 := am (ge_new (HB.out) hg);have NB970_987 := am (ne_new BK970.out hg);have NB987_970 := am (ne_new2 BK970.out hg);replace HO979 := am (Kd.R_below HO979.out hb);replace HO983 := am (Kd.R_below HO983.out hb);replace BK970 := (kmv hb BK970);replace HB := am (below_step (HB.out) hb);clear hb hbox hg;obtain ⟨Ao25,co25,eo25⟩ := Kd.R_slice HO979.out;subst eo25;have hnb26 := NB987_970.out;have hnc26 := NB970_987.out;obtain ⟨hcz27_0,hcz27_1,hcz27_2,hcz27_3,hcz27_4⟩ := cO5 BK987.out;have hfz27_0 := blk_frozen BK987.out 0;have hfz27_1 := blk_frozen BK987.out 1;have hfz27_2 := blk_frozen BK987.out 2;have hfz27_3 := blk_frozen BK987.out 3;have hfz27_4 := blk_frozen BK987.out 4;obtain ⟨Ao28,co28,eo28⟩ := Kd.R_slice HO983.out;subst eo28;obtain ⟨hcz29_0,hcz29_1,hcz29_2,hcz29_3,hcz29_4⟩ := cO5 BK970.out) | (go_at_call 51;(with_reducible refine (q4_Print.calls k _ _ l0_0 a0_1 _ _ l0_2 a0_3 a0_4 t988 _ ?side1 ?side2 ?side3 ?side4 A9.out).mono ?_);(case side1 => exact kC HR0_0.out (by repeat (first | (with_reducible first | exact HB.out | refine below_set ?_ (Aside0.out (by assumption)) | apply below_alloc | apply pw_below_drewN) | exact HB.out)));(case side2 => exact HC0_0.out);(case side3 => exact kC HR0_2.out (by repeat (first | (with_reducible first | exact HB.out | refine below_set ?_ (Aside0.out (by assumption)) | apply below_alloc | apply pw_below_drewN) | exact HB.out)));(case side4 => exact HC0_2.out);rintro e w30 ⟨rfl,hb⟩;replace HO979 := am (Kd.R_below (Kd.R_mono (Kd.R_far (p := ⟨gb987,4,none⟩) (Kd.R_far (p := ⟨gb987,3,none⟩) (Kd.R_far (p := ⟨gb987,2,none⟩) (Kd.R_far (p := ⟨gb987,1,none⟩) (Kd.R_far (p := ⟨gb987,0,none⟩) (Kd.R_types HO979.out BK987.out (by decide)) (fun _ hk => hk.2) (.slice Ao25 t977.length co25)) (fun _ hk => hk.2) (.int .i64 t980)) (fun _ hk => hk.2) (.slice Ao28 t981.length co28)) (fun _ hk => hk.2) (.int .i64 t984)) (fun _ hk => hk.2) (.int .i64 t985)) (fun _ h_ => h_.1)) hb);replace HO983 := am (Kd.R_below (Kd.R_mono (Kd.R_far (p := ⟨gb987,4,none⟩) (Kd.R_far (p := ⟨gb987,3,none⟩) (Kd.R_far (p := ⟨gb987,2,none⟩) (Kd.R_far (p := ⟨gb987,1,none⟩) (Kd.R_far (p := ⟨gb987,0,none⟩) (Kd.R_types HO983.out BK987.out (by decide)) (fun _ hk => hk.2) (.slice Ao25 t977.length co25)) (fun _ hk => hk.2) (.int .i64 t980)) (fun _ hk => hk.2) (.slice Ao28 t981.length co28)) (fun _ hk => hk.2) (.int .i64 t984)) (fun _ hk => hk.2) (.int .i64 t985)) (fun _ h_ => h_.1)) hb);replace BK970 := am (blk_below (blk_far (blk_far (blk_far (blk_far (blk_far BK970.out NB970_987.out _) NB970_987.out _) NB970_987.out _) NB970_987.out _) NB970_987.out _) hb);replace BK987 := am (blk_below (blk_put (cs := #[.slice Ao25 t977.length co25,.int .i64 t980,.slice Ao28 t981.length co28,.int .i64 t984,.int .i64 0]) (blk_put (cs := #[.slice Ao25 t977.length co25,.int .i64 t980,.slice Ao28 t981.length co28,.int .i64 0,.int .i64 0]) (blk_put (cs := #[.slice Ao25 t977.length co25,.int .i64 t980,.slice none 0 0,.int .i64 0,.int .i64 0]) (blk_put (cs := #[.slice Ao25 t977.length co25,.int .i64 0,.slice none 0 0,.int .i64 0,.int .i64 0]) (blk_put (cs := #[.slice none 0 0,.int .i64 0,.slice none 0 0,.int .i64 0,.int .i64 0]) BK987.out 0 _ rfl) 1 _ rfl) 2 _ rfl) 3 _ rfl) 4 _ rfl) hb);replace HB := am (below_step (by repeat (first | (with_reducible first | exact HB.out | refine below_set ?_ (Aside0.out (by assumption)) | apply below_alloc | apply pw_below_drewN) | exact HB.out)) hb);(try clear hb);(try clear hb2);(try clear hk);(try clear hi);obtain ⟨hcz31_0,hcz31_1,hcz31_2,hcz31_3,hcz31_4⟩ := cO5 BK987.out;have hfz31_0 := blk_frozen BK987.out 0;have hfz31_1 := blk_frozen BK987.out 1;have hfz31_2 := blk_frozen BK987.out 2;have hfz31_3 := blk_frozen BK987.out 3;have hfz31_4 := blk_frozen BK987.out 4;obtain ⟨hcz32_0,hcz32_1,hcz32_2,hcz32_3,hcz32_4⟩ := cO5 BK970.out) | (go_at_call 52;(with_reducible refine (q4_SameBasins.calls k _ _ t977 t980 _ _ t981 t984 t985 _ _ l0_0 a0_1 _ _ l0_2 a0_3 a0_4 true _ ?side1 ?side2 ?side3 ?side4 ?side5 ?side6 ?side7 ?side8 A12.out).mono ?_);(case side1 => repeat (first | exact (Kd.R_reads' HO979.out).2.2 | (with_reducible refine Kd.C_alloc ?_ _) | (with_reducible refine Kd.C_drewN ?_ _) | (with_reducible refine Kd.C_drew ?_)));(case side2 => exact (Kd.R_reads' HO979.out).2.1);(case side3 => repeat (first | exact (Kd.R_reads' HO983.out).2.2 | (with_reducible refine Kd.C_alloc ?_ _) | (with_reducible refine Kd.C_drewN ?_ _) | (with_reducible refine Kd.C_drew ?_)));(case side4 => exact (Kd.R_reads' HO983.out).2.1);(case side5 => exact kC HR0_0.out HB.out);(case side6 => exact HC0_0.out);(case side7 => exact kC HR0_2.out HB.out);(case side8 => exact HC0_2.out);rintro e w33 ⟨rfl,hb⟩;replace HO979 := am (Kd.R_below HO979.out hb);replace HO983 := am (Kd.R_below HO983.out hb);replace BK970 := (kmv hb BK970);replace BK987 := (kmv hb BK987);replace HB := am (below_step (HB.out) hb);(try clear hb);(try clear hb2);(try clear hk);(try clear hi)) | (go_at_call 19;(with_reducible refine (l4_known.calls  t990 _ A14.out).mono ?_);rintro e w34 ⟨rfl,hb⟩;replace HO979 := am (Kd.R_below HO979.out hb);replace HO983 := am (Kd.R_below HO983.out hb);replace BK970 := (kmv hb BK970);replace BK987 := (kmv hb BK987);replace HB := am (below_step (HB.out) hb);(try clear hb);(try clear hb2);(try clear hk);(try clear hi)))
 go_ret
 exact ⟨by first | rfl | (simp [*] <;> rfl),HB.out⟩
end
def ubl (b : ByteArray) : List UInt8:=b.data.toList
theorem bl_inj {a b : ByteArray} (h : ubl a = ubl b) : a = b:=ByteArray.ext (Array.toList_inj.1 h)
theorem bl_app (a b : ByteArray) : ubl (a ++ b) = ubl a ++ ubl b:=by simp [ubl]
theorem bl_size (a : ByteArray) : (ubl a).length = a.size:=by simp [ubl]
theorem bl_mk (l : List UInt8) : ubl ⟨l.toArray⟩ = l:=by simp [ubl]
theorem bls_inj {xs ys : List ByteArray} (h : xs.map ubl = ys.map ubl) : xs = ys:=by
 induction xs generalizing ys with
 | nil=>cases ys with
  | nil=>rfl
  | cons y ys=>simp at h
 | cons x xs ih=>cases ys with
  | nil=>simp at h
  | cons y ys =>
   simp only [List.map_cons,List.cons.injEq] at h
   rw [bl_inj h.1,ih h.2]
def cut1 (c : UInt8) : List UInt8→List UInt8 × List (List UInt8)
 | []=>([],[])
 | x :: xs=>if x = c then ([],(cut1 c xs).1 :: (cut1 c xs).2) else (x :: (cut1 c xs).1,(cut1 c xs).2)
def cutL (c : UInt8) (s : List UInt8) : List (List UInt8):=(cut1 c s).1 :: (cut1 c s).2
theorem cut1_none {c : UInt8} : ∀ {a : List UInt8},c ∉ a→cut1 c a = (a,[])
 | [],_=>rfl
 | x :: xs,h=>by
  have h1 : x ≠ c:=fun e=>h (by simp [e])
  have h2 : c ∉ xs:=fun e=>h (by simp [e])
  rw [cut1,if_neg h1,cut1_none h2]
theorem cut1_app {c : UInt8} (s : List UInt8) : ∀ {a : List UInt8},c ∉ a→cut1 c (a ++ c :: s) = (a,(cut1 c s).1 :: (cut1 c s).2)
 | [],_=>by rw [List.nil_append,cut1,if_pos rfl]
 | x :: xs,h=>by
  have h1 : x ≠ c:=fun e=>h (by simp [e])
  have h2 : c ∉ xs:=fun e=>h (by simp [e])
  rw [List.cons_append,cut1,if_neg h1,cut1_app s h2]
theorem cutL_none {c : UInt8} {a : List UInt8} (h : c ∉ a) : cutL c a = [a]:=by rw [cutL,cut1_none h]
theorem cutL_app {c : UInt8} {a : List UInt8} (h : c ∉ a) (s : List UInt8) : cutL c (a ++ c :: s) = a :: cutL c s:=by rw [cutL,cut1_app s h];rfl
theorem cutL_lines {c : UInt8} (s : List UInt8) : ∀ {ls : List (List UInt8)},(∀ l ∈ ls,c ∉ l)→cutL c ((ls.map (· ++ [c])).flatten ++ s) = ls ++ cutL c s
 | [],_=>rfl
 | l :: ls,h=>by
  have ih:=cutL_lines s (ls:=ls) (fun x hx=>h x (by simp [hx]))
  have e : ((l :: ls).map (· ++ [c])).flatten ++ s = l ++ c :: ((ls.map (· ++ [c])).flatten ++ s):=by simp
  rw [e,cutL_app (h l (by simp)),ih];rfl
theorem splitK_cut (c : UInt8) : ∀ s : List UInt8,Lib.splitK [c] 0 (Lib.count s [c]) s = cutL c s
 | []=>rfl
 | b :: l=>by
  have ih:=splitK_cut c l
  by_cases e : b = c
  ·subst e
   rw [Lib.count_cons_eq,Nat.add_comm,Lib.splitK,cutL,cut1,if_pos rfl]
   have hi : Lib.index (b :: l) [b] = 0:=by simp [Lib.index]
   rw [hi,if_neg (by decide)]
   simp only [Int.toNat_zero,Nat.add_zero,List.take_zero,List.length_singleton,Nat.zero_add,List.drop_succ_cons,List.drop_zero,ih]
   rfl
  ·rw [Lib.count_cons_ne b c l e,cutL,cut1,if_neg e]
   have hi : Lib.index (b :: l) [c] = if Lib.index l [c] == -1 then -1 else Lib.index l [c] + 1:=by
    have : ([c].isPrefixOf (b :: l)) = false:=by simp [List.isPrefixOf,Ne.symm e]
    rw [Lib.index,this,if_neg (by decide)]
   cases hk : Lib.count l [c] with
   | zero =>
    rw [hk,Lib.splitK] at ih
    rw [Lib.splitK]
    unfold cutL at ih
    simp only [List.cons.injEq] at ih
    rw [← ih.1,← ih.2]
   | succ k =>
    have hn : (Lib.index l [c] == -1) = false:=by
     cases h : (Lib.index l [c] == -1) with
     | false=>rfl
     | true=>rw [Lib.count_miss (by simpa using h)] at hk;cases hk
    have g:=Lib.index_ge l [c]
    rw [hk,Lib.splitK,hn,if_neg (by decide)] at ih
    have hn2 : (Lib.index (b :: l) [c] == -1) = false:=by rw [hi,hn];simp;omega
    rw [Lib.splitK,hn2,if_neg (by decide),hi,hn,if_neg (by decide)]
    have g2 : Lib.index l [c] ≠ -1:=by simpa using hn
    have e1 : (Lib.index l [c] + 1).toNat = (Lib.index l [c]).toNat + 1:=by omega
    unfold cutL at ih
    simp only [List.cons.injEq,Nat.add_zero,List.length_singleton] at ih
    rw [e1]
    simp only [Nat.add_zero,List.take_succ_cons,List.length_singleton,List.drop_succ_cons,List.cons.injEq]
    exact ⟨⟨trivial,ih.1⟩,ih.2⟩
theorem splitF_cut (s sep : ByteArray) (c : UInt8) (h : ubl sep = [c]) : (splitF s sep).map ubl = cutL c (ubl s):=by
 have:=Lib.splitB_data sep 0 (Lib.countB s sep) s
 unfold splitF
 have e : Lib.countB s sep = Lib.count (ubl s) [c]:=by rw [← h];rfl
 rw [show (fun x : ByteArray=>x.data.toList) = ubl from rfl,show sep.data.toList = [c] from h,e] at this
 rw [e,this]
 exact splitK_cut c (ubl s)
def dig (n : Nat) : UInt8:=UInt8.ofNat (48 + n)
theorem dec1 {n : Nat} (h : n < 10) : Lib.decDigits n = [dig n]:=by rw [Lib.decDigits,dif_pos h];rfl
theorem dec2 {n : Nat} (h0 : 10≤n) (h1 : n < 100) : Lib.decDigits n = [dig (n / 10),dig (n % 10)]:=by rw [Lib.decDigits,dif_neg (by omega),dec1 (by omega)];rfl
theorem dec3 {n : Nat} (h0 : 100≤n) (h1 : n < 1000) : Lib.decDigits n = [dig (n / 100),dig (n / 10 % 10),dig (n % 10)]:=by
 rw [Lib.decDigits,dif_neg (by omega),dec2 (by omega) (by omega),show n / 10 / 10 = n / 100 by omega];rfl
theorem itB_nn {n : Int} (h : 0≤n) : ubl (itB n) = Lib.decDigits n.toNat:=by
 unfold itB Lib.itoa
 rw [if_neg (by omega),bl_mk]
theorem dig_toNat {n : Nat} (h : n < 10) : (dig n).toNat = 48 + n:=by
 unfold dig
 rw [UInt8.toNat_ofNat']
 omega
theorem dec_digit : ∀ (n : Nat) (x : UInt8),x ∈ Lib.decDigits n→48≤x.toNat∧x.toNat≤57:=by
 intro n
 induction n using Nat.strongRecOn with
 | _ n ih =>
  intro x hx
  rw [Lib.decDigits] at hx
  split at hx
  ·rename_i h
   rw [List.mem_singleton.1 hx]
   have:=dig_toNat h
   unfold dig at this
   omega
  ·rename_i h
   rcases List.mem_append.1 hx with hx | hx
   ·exact ih (n / 10) (by omega) x hx
   ·rw [List.mem_singleton.1 hx]
    have:=dig_toNat (n:=n % 10) (by omega)
    unfold dig at this
    omega
theorem itB_digit {n : Int} (h : 0≤n) {x : UInt8} (hx : x ∈ ubl (itB n)) : 48≤x.toNat∧x.toNat≤57:=by
 rw [itB_nn h] at hx;exact dec_digit _ _ hx
theorem bt_bl (s : ByteArray) (p : Nat) : bt s (p : Int) = if h : p < (ubl s).length then (((ubl s)[p]'h).toNat : Int) else 0:=by
 unfold bt
 by_cases h : p < s.size
 ·rw [dif_pos (by simpa using h),dif_pos (by rw [bl_size];exact h)]
  simp [ubl]
  rfl
 ·rw [dif_neg (by simpa using h),dif_neg (by rw [bl_size];exact h)]
theorem numF_it {n : Int} (h0 : 0≤n) (h1 : n≤999) : numF (itB n) = some n:=by
 have hb:=itB_nn h0
 have key : ∀ l : List UInt8,ubl (itB n) = l→l.length ≠ 0→l.length≤3→(∀ x ∈ l,48≤x.toNat∧x.toNat≤57)→valTo (itB n) l.length = n→numF (itB n) = some n:=by
  intro l hl n0 n3 hd hv
  have hs : (itB n).size = l.length:=by rw [← bl_size,hl]
  have:=numF_some (x:=itB n) (by omega) (fun p hp=>by
   rw [bt_bl,dif_pos (by rw [bl_size];exact hp)]
   have:=hd _ (by rw [← hl];exact List.getElem_mem (by rw [bl_size];exact hp))
   omega) (by omega) (by rw [hs,hv])
  rw [this,hs,hv]
 have dd:=fun x (hx : x ∈ Lib.decDigits n.toNat)=>dec_digit _ x hx
 by_cases a : n.toNat < 10
 ·rw [dec1 a] at hb dd
  refine key _ hb (by simp) (by simp) dd ?_
  simp only [List.length_singleton,valTo]
  have b0:=bt_bl (itB n) 0
  rw [hb] at b0
  simp only [Int.natCast_zero] at b0
  rw [show ((0 : Nat) : Int) = 0 from rfl,b0]
  simp [dig_toNat a];omega
 ·by_cases b : n.toNat < 100
  ·rw [dec2 (by omega) b] at hb dd
   refine key _ hb (by simp) (by simp) dd ?_
   have b0:=bt_bl (itB n) 0
   have b1:=bt_bl (itB n) 1
   rw [hb] at b0 b1
   simp only [List.length_cons,List.length_nil,Nat.zero_add,Nat.reduceAdd,valTo]
   rw [b0,b1]
   simp [dig_toNat (n:=n.toNat / 10) (by omega),dig_toNat (n:=n.toNat % 10) (by omega)];omega
  ·rw [dec3 (by omega) (by omega)] at hb dd
   refine key _ hb (by simp) (by simp) dd ?_
   have b0:=bt_bl (itB n) 0
   have b1:=bt_bl (itB n) 1
   have b2:=bt_bl (itB n) 2
   rw [hb] at b0 b1 b2
   simp only [List.length_cons,List.length_nil,Nat.zero_add,Nat.reduceAdd,valTo]
   rw [b0,b1,b2]
   simp [dig_toNat (n:=n.toNat / 100) (by omega),dig_toNat (n:=n.toNat / 10 % 10) (by omega),dig_toNat (n:=n.toNat % 10) (by omega)];omega
section
attribute [local go_sem] max2_int min2_int max_two min_two
set_option linter.unusedSimpArgs false
set_option linter.unusedSimpArgs false
end
theorem w64 {n : Int} (h : -9223372036854775808≤n∧n≤9223372036854775807) : wrap64 n = n:=by unfold wrap64;omega
theorem ksucc {k : Nat} (h : 0 < k) : ∃ m,k = m + 1:=⟨k - 1,by omega⟩
def rowOk (r : S126) : Bool:=decide (1≤r.f0∧r.f0≤60) && (decide (1≤r.f1∧r.f1≤60) && decide (1≤r.f2∧r.f2≤1000))
def nozOk (n : Int) (z : S48) : Bool:=decide (0≤z.f0∧z.f0≤n - 1) && decide (0≤z.f1∧z.f1≤40)
def okT (rows : List S126) (draw : Int) : Bool:=decide (1≤(rows.length : Int)∧(rows.length : Int)≤12) && (decide (0≤draw∧draw≤100) && rows.all rowOk)
def okB (rows : List S126) (draw : Int) (noz : List S48) (weir spill : Int) : Bool:=
 okT rows draw && (decide (1≤(noz.length : Int)∧(noz.length : Int)≤6) && (decide (0≤weir∧weir≤40) && (decide (0≤spill∧spill≤100) && noz.all (nozOk rows.length))))
theorem c_in (a b c : Int) : ca_in.f a b c = some (decide (b≤a∧a≤c)):=by
 unfold ca_in.f
 by_cases h : a ≥ b
 ·rw [if_pos h];have : b≤a:=h;simp [this]
 ·rw [if_neg h];have : ¬ b≤a:=h;simp [this]
theorem n_in (a b c : Int) : nz_in.f a b c = some (decide (b≤a∧a≤c)):=c_in a b c
theorem r4_in (a b c : Int) : q4_in.f a b c = some (decide (b≤a∧a≤c)):=c_in a b c
theorem r3_in (a b c : Int) : q3_in.f a b c = some (decide (b≤a∧a≤c)):=c_in a b c
theorem c_height (a : Int) : ca_isHeight.f a = some (decide (0≤a∧a≤40)):=by unfold ca_isHeight.f;rw [c_in];rfl
theorem r_height (a : Int) : q4_Height.f a = some (decide (0≤a∧a≤40)):=by unfold q4_Height.f;rw [r4_in];rfl
theorem anyM_total {α : Type} {q : α→Option Bool} {p : α→Bool} (h : ∀ x,q x = some (p x)) : ∀ xs,anyM q xs = some (xs.any p)
 | []=>rfl
 | x :: xs=>by
  simp only [anyM,h,Option.bind_some,List.any_cons,anyM_total h xs]
  cases p x<;>rfl
theorem row_bad (x : S126) : nz_isTable_1.f x.f0 x.f1 x.f2 = some (!rowOk x):=by
 unfold nz_isTable_1.f rowOk
 simp only [n_in,Option.bind_some]
 cases decide (1≤x.f0∧x.f0≤60)<;>cases decide (1≤x.f1∧x.f1≤60)<;>cases decide (1≤x.f2∧x.f2≤1000)<;>rfl
theorem noz_bad {rows : List S126} (hl : rows.length≤1000) (x : S48) : ca_isBasin_1.f rows x = some (!nozOk rows.length x):=by
 unfold ca_isBasin_1.f nozOk
 rw [w64 (by omega)]
 simp only [c_in,c_height,Option.bind_some]
 cases decide (0≤x.f0∧x.f0≤(rows.length : Int) - 1)<;>cases decide (0≤x.f1∧x.f1≤40)<;>rfl
theorem isTable_eq (rows : List S126) (draw : Int) : nz_isTable.f rows draw = some (okT rows draw):=by
 unfold nz_isTable.f okT cf_isTable.f
 rw [anyM_total row_bad,← List.not_all_eq_any_not]
 simp only [n_in,Option.bind_some]
 cases decide (1≤(rows.length : Int)∧(rows.length : Int)≤12)<;>cases decide (0≤draw∧draw≤100)<;>cases rows.all rowOk<;>rfl
theorem isBasin_eq {rows : List S126} {draw : Int} {noz : List S48} {weir spill : Int} (hl : rows.length≤1000) : ca_isBasin.f rows draw noz weir spill = some (okB rows draw noz weir spill):=by
 unfold ca_isBasin.f okB nz_Check.f
 rw [anyM_total (noz_bad hl),← List.not_all_eq_any_not,isTable_eq]
 simp only [c_in,c_height,Option.bind_some]
 cases okT rows draw<;>cases decide (1≤(noz.length : Int)∧(noz.length : Int)≤6)<;>cases decide (0≤weir∧weir≤40)<;>cases decide (0≤spill∧spill≤100)<;>cases noz.all (nozOk rows.length)<;>rfl
theorem refTable_go (rows : List S126) (draw : Int) (hl : rows.length≤1000) : ∀ (d k : Nat) (i : Int),0≤i→i + d = rows.length→d < k→
  q3_Table.l0 k i rows draw = some ((rows.drop i.toNat).all rowOk && (decide (1≤(rows.length : Int)∧(rows.length : Int)≤12) && decide (0≤draw∧draw≤100)))
 | 0,k,i,h0,hi,hk=>by
  obtain ⟨k,rfl⟩:=ksucc hk
  simp only [q3_Table.l0]
  rw [if_neg (by omega),List.drop_of_length_le (by omega)]
  simp only [r3_in,Option.bind_some,List.all_nil,Bool.true_and]
  cases decide (1≤(rows.length : Int)∧(rows.length : Int)≤12)<;>cases decide (0≤draw∧draw≤100)<;>rfl
 | d + 1,k,i,h0,hi,hk=>by
  obtain ⟨k,rfl⟩:=ksucc (by omega : 0 < k)
  simp only [q3_Table.l0]
  rw [if_pos (by omega),if_pos h0,w64 (by omega),refTable_go rows draw hl d k (i + 1) (by omega) (by omega) (by omega),drop_at z126 rows i h0 (by omega),List.all_cons]
  show _ = some ((rowOk (rd_T126 rows i) && _) && _)
  unfold rowOk
  simp only [r3_in,Option.bind_some]
  cases decide (1≤(rd_T126 rows i).f0∧(rd_T126 rows i).f0≤60)<;>cases decide (1≤(rd_T126 rows i).f1∧(rd_T126 rows i).f1≤60)<;>cases decide (1≤(rd_T126 rows i).f2∧(rd_T126 rows i).f2≤1000)<;>rfl
theorem refTable_eq {rows : List S126} {draw : Int} {k : Nat} (hl : rows.length≤1000) (hk : rows.length < k) : q3_Table.f k rows draw = some (okT rows draw):=by
 unfold q3_Table.f okT
 rw [refTable_go rows draw hl rows.length k 0 (by omega) (by omega) hk]
 show some (rows.all rowOk && _) = _
 cases decide (1≤(rows.length : Int)∧(rows.length : Int)≤12)<;>cases decide (0≤draw∧draw≤100)<;>cases rows.all rowOk<;>rfl
theorem refBasin_go (rows : List S126) (draw : Int) (noz : List S48) (weir spill : Int) (hl : rows.length≤1000) (hn : noz.length≤1000) : ∀ (d k : Nat) (i : Int),0≤i→i + d = noz.length→rows.length + d + 1 < k→
  q4_Basin.l0 k i rows draw noz weir spill = some ((noz.drop i.toNat).all (nozOk rows.length) && (okT rows draw && (decide (1≤(noz.length : Int)∧(noz.length : Int)≤6) && (decide (0≤weir∧weir≤40) && decide (0≤spill∧spill≤100)))))
 | 0,k,i,h0,hi,hk=>by
  obtain ⟨k,rfl⟩:=ksucc (by omega : 0 < k)
  simp only [q4_Basin.l0]
  rw [if_neg (by omega),List.drop_of_length_le (by omega),refTable_eq hl (by omega)]
  simp only [r4_in,r_height,Option.bind_some,List.all_nil,Bool.true_and]
  cases okT rows draw<;>cases decide (1≤(noz.length : Int)∧(noz.length : Int)≤6)<;>cases decide (0≤weir∧weir≤40)<;>cases decide (0≤spill∧spill≤100)<;>rfl
 | d + 1,k,i,h0,hi,hk=>by
  obtain ⟨k,rfl⟩:=ksucc (by omega : 0 < k)
  simp only [q4_Basin.l0]
  rw [if_pos (by omega),if_pos h0,w64 (n:=i + 1) (by omega),w64 (by omega),refBasin_go rows draw noz weir spill hl hn d k (i + 1) (by omega) (by omega) (by omega),drop_at z48 noz i h0 (by omega),List.all_cons]
  show _ = some ((nozOk rows.length (rd_T48 noz i) && _) && _)
  unfold nozOk
  simp only [r4_in,r_height,Option.bind_some]
  cases decide (0≤(rd_T48 noz i).f0∧(rd_T48 noz i).f0≤(rows.length : Int) - 1)<;>cases decide (0≤(rd_T48 noz i).f1∧(rd_T48 noz i).f1≤40)<;>rfl
theorem refBasin_eq {rows : List S126} {draw : Int} {noz : List S48} {weir spill : Int} {k : Nat} (hl : rows.length≤1000) (hn : noz.length≤1000) (hk : rows.length + noz.length + 1 < k) :
  q4_Basin.f k rows draw noz weir spill = some (okB rows draw noz weir spill):=by
 unfold q4_Basin.f okB
 rw [refBasin_go rows draw noz weir spill hl hn noz.length k 0 (by omega) (by omega) hk]
 show some (noz.all (nozOk rows.length) && _) = _
 cases okT rows draw<;>cases decide (1≤(noz.length : Int)∧(noz.length : Int)≤6)<;>cases decide (0≤weir∧weir≤40)<;>cases decide (0≤spill∧spill≤100)<;>cases noz.all (nozOk rows.length)<;>rfl
structure OkB (rows : List S126) (draw : Int) (noz : List S48) (weir spill : Int) : Prop where
 r1 : 1≤rows.length
 r2 : rows.length≤12
 tab : okT rows draw = true
 rr : ∀ r ∈ rows,1≤r.f2∧r.f2≤1000
 n1 : 1≤noz.length
 n2 : noz.length≤6
 w0 : 0≤weir
 w1 : weir≤40
 s0 : 0≤spill
 s1 : spill≤100
 nn : ∀ z ∈ noz,0≤z.f0∧z.f0 < rows.length∧0≤z.f1∧z.f1≤40
theorem okB_iff {rows : List S126} {draw : Int} {noz : List S48} {weir spill : Int} : okB rows draw noz weir spill = true↔OkB rows draw noz weir spill:=by
 constructor
 ·intro h
  unfold okB at h
  simp only [Bool.and_eq_true,decide_eq_true_eq,List.all_eq_true] at h
  obtain ⟨ht,h2,h3,h4,h5⟩:=h
  have ht':=ht
  unfold okT at ht'
  simp only [Bool.and_eq_true,decide_eq_true_eq,List.all_eq_true] at ht'
  obtain ⟨h0,h1,hr⟩:=ht'
  refine ⟨by omega,by omega,ht,fun r hm=>?_,by omega,by omega,by omega,by omega,by omega,by omega,fun z hm=>?_⟩
  ·have:=hr r hm;unfold rowOk at this;simp only [Bool.and_eq_true,decide_eq_true_eq] at this;omega
  ·have:=h5 z hm;unfold nozOk at this;simp only [Bool.and_eq_true,decide_eq_true_eq] at this;omega
 ·intro h
  unfold okB
  simp only [Bool.and_eq_true,decide_eq_true_eq,List.all_eq_true]
  have a1:=h.n1;have a2:=h.n2
  refine ⟨h.tab,by omega,⟨h.w0,h.w1⟩,⟨h.s0,h.s1⟩,fun z hz=>?_⟩
  have:=h.nn z hz
  unfold nozOk;simp only [Bool.and_eq_true,decide_eq_true_eq];omega
theorem son1 {n : Int} (h0 : 0≤n) (h1 : n < 256) : strOfNums [n] = ⟨#[UInt8.ofNat n.toNat]⟩:=by simp [strOfNums]
theorem decLen (n : Nat) : ∀ m : Nat,n < 10 ^ (m + 1)→(Lib.decDigits n).length≤m + 1:=by
 intro m
 induction m generalizing n with
 | zero=>intro h;rw [dec1 (by omega)];simp
 | succ m ih =>
  intro h
  rw [Lib.decDigits]
  split
  ·simp
  ·have:=ih (n / 10) (by rw [Nat.pow_succ] at h;omega)
   simp only [List.length_append,List.length_singleton];omega
theorem decimal_eq : ∀ (m : Nat) (n : Int) (k : Nat),0≤n→n < 10 ^ (m + 1)→m≤17→2 * m + 2≤k→q1_Decimal.f k n = some (itB n):=by
 intro m
 induction m with
 | zero =>
  intro n k h0 h1 hm hk
  obtain ⟨k,rfl⟩ : ∃ q,k = q + 1 + 1:=⟨k - 2,by omega⟩
  have h1 : n < 10:=by simpa using h1
  simp only [q1_Decimal.f,q1_Decimal.j0]
  rw [if_pos (by omega),decide_eq_false (by omega),if_neg (by decide),if_neg (by omega),if_pos (by omega),w64 (by omega),Int.emod_eq_of_lt (by omega) (by omega),son1 (by omega) (by omega)]
  congr 1
  apply bl_inj
  rw [itB_nn h0,dec1 (by omega),show (48 + n).toNat = 48 + n.toNat by omega]
  rfl
 | succ m ih =>
  intro n k h0 h1 hm hk
  obtain ⟨k,rfl⟩ : ∃ q,k = q + 1 + 1:=⟨k - 2,by omega⟩
  have p : (10 : Int) ^ (m + 1 + 1) = 10 * 10 ^ (m + 1):=by rw [Int.pow_succ];omega
  have pb : (10 : Int) ^ (m + 1)≤10 ^ 18:=by
   have : (10 : Nat) ^ (m + 1)≤10 ^ 18:=Nat.pow_le_pow_right (by omega) (by omega)
   exact_mod_cast this
  have pv : (10 : Int) ^ 18 = 1000000000000000000:=by decide
  simp only [q1_Decimal.f,q1_Decimal.j0]
  rw [if_pos (by omega),decide_eq_false (by omega),if_neg (by decide),if_neg (by omega)]
  by_cases c : n < 10
  ·rw [if_pos c,w64 (by omega),Int.emod_eq_of_lt (by omega) (by omega),son1 (by omega) (by omega)]
   congr 1
   apply bl_inj
   rw [itB_nn h0,dec1 (by omega),show (48 + n).toNat = 48 + n.toNat by omega]
   rfl
  ·rw [if_neg c,Int.tdiv_eq_ediv_of_nonneg h0,Int.tmod_eq_emod_of_nonneg h0,w64 (n:=n / 10) (by omega),w64 (n:=48 + n % 10) (by omega),ih (n / 10) k (by omega) (by omega) (by omega) (by omega),Option.bind_some,Option.bind_some,Int.emod_eq_of_lt (a:=48 + n % 10) (by omega) (by omega),son1 (by omega) (by omega)]
   have hl : (itB (n / 10)).size≤100:=by
    have:=decLen (n / 10).toNat 99 (by
     have : (n / 10).toNat < 10 ^ 18:=by omega
     exact Nat.lt_of_lt_of_le this (Nat.pow_le_pow_right (by omega) (by omega)))
    rw [← bl_size,itB_nn (by omega)];omega
   rw [if_pos (by
    have e1 : (⟨#[UInt8.ofNat (48 + n % 10).toNat]⟩ : ByteArray).size = 1:=rfl
    omega)]
   congr 1
   apply bl_inj
   rw [bl_app,itB_nn h0,itB_nn (show 0≤n / 10 by omega)]
   conv=>rhs;rw [Lib.decDigits,dif_neg (by omega)]
   rw [show (n / 10).toNat = n.toNat / 10 by omega,show (48 + n % 10).toNat = 48 + n.toNat % 10 by omega]
   rfl
theorem itB_size {n : Int} (h0 : 0≤n) (h1 : n < 10000) : (itB n).size≤4:=by
 rw [← bl_size,itB_nn h0]
 exact decLen n.toNat 3 (by omega)
theorem bt_in (s : ByteArray) (p : Int) : 0≤bt s p∧bt s p≤255:=by
 unfold bt
 split
 ·rename_i h
  have:=(s[p.toNat]'h).toNat_lt
  omega
 ·omega
theorem lineB_size {wd : ByteArray} {a b : Int} (hw : wd.size≤20) (a0 : 0≤a) (a1 : a≤1000) (b0 : 0≤b) (b1 : b≤1000) : (lineB wd a b).size≤30:=by
 have:=itB_size a0 (by omega)
 have:=itB_size b0 (by omega)
 have e : spB.size = 1:=rfl
 unfold lineB
 simp only [ByteArray.size_append]
 omega
theorem row_eq {wd : ByteArray} {a b : Int} (hw : wd.size≤20) (a0 : 0≤a) (a1 : a≤1000) (b0 : 0≤b) (b1 : b≤1000) {k : Nat} (hk : 20≤k) : q1_Row.f k wd [a,b] = some (lineB wd a b):=by
 obtain ⟨k,rfl⟩ : ∃ q,k = q + 1 + 1 + 1:=⟨k - 3,by omega⟩
 have za:=itB_size a0 (by omega)
 have zb:=itB_size b0 (by omega)
 have e : (⟨#[32]⟩ : ByteArray).size = 1:=rfl
 have ra : rd [a,b] 0 = a:=rfl
 have rb : rd [a,b] 1 = b:=rfl
 unfold q1_Row.f
 simp only [q1_Row.l0]
 rw [if_pos (by simp),if_pos (by omega),if_pos (by omega),ra,decimal_eq 3 a _ a0 (by omega) (by omega) (by omega),Option.bind_some,if_pos (by rw [ByteArray.size_append];omega),w64 (n:=0 + 1) (by omega)]
 simp only [Int.zero_add]
 rw [if_pos (by simp),if_pos (by rw [ByteArray.size_append,ByteArray.size_append];omega),if_pos (by omega),rb,decimal_eq 3 b _ b0 (by omega) (by omega) (by omega),Option.bind_some,if_pos (by rw [ByteArray.size_append,ByteArray.size_append,ByteArray.size_append];omega),w64 (n:=1 + 1) (by omega),if_neg (by simp)]
 congr 1
 apply bl_inj
 simp [lineB,bl_app,spB]
theorem rdOf_drop {d : ByteArray} {xs : List ByteArray} {i : Int} (h0 : 0≤i) (h1 : i < xs.length) : xs.drop i.toNat = rdOf d xs i :: xs.drop (i.toNat + 1):=by
 have hi : i.toNat < xs.length:=by omega
 rw [List.drop_eq_getElem_cons hi];simp [rdOf,hi]
def sealGo : List ByteArray→Int→ByteArray→Int→ByteArray × Int
 | [],_,out,chk=>(out,chk)
 | x :: rest,i,out,chk=>sealGo rest (i + 1) (out ++ (x ++ nlB)) (sumB x i x.size 0 chk)
theorem seal_l1 (xs : List ByteArray) (by_ : Int) (out : ByteArray) (i : Int) (h0 : 0≤i) (h1 : i < xs.length) (hl : xs.length≤1000) (hx : (rdOf ByteArray.empty xs i).size≤1000) (ho : out.size≤100000000) {r : Option ByteArray} {N0 : Nat} (chk1 : Int)
  (hr : ∀ k,N0≤k→q1_Sealed.l0 k xs by_ (out ++ (rdOf ByteArray.empty xs i ++ nlB)) chk1 (i + 1) = r) : ∀ (d k : Nat) (p : Nat) (chk : Int),p + d = (rdOf ByteArray.empty xs i).size→N0 + d < k→sumB (rdOf ByteArray.empty xs i) i d (p : Int) chk = chk1→
  q1_Sealed.l1 k xs by_ out chk i (p : Int) = r
 | 0,k,p,chk,hp,hk,hs=>by
  obtain ⟨k,rfl⟩:=ksucc (by omega : 0 < k)
  simp only [q1_Sealed.l1]
  have e : (⟨#[10]⟩ : ByteArray).size = 1:=rfl
  rw [if_pos h0,if_pos h1,if_neg (by omega),if_pos (by omega),if_pos (by rw [ByteArray.size_append];omega),w64 (n:=i + 1) (by omega)]
  have:=hr k (by omega)
  simp only [sumB] at hs
  rw [hs]
  have e2 : out ++ (rdOf ByteArray.empty xs i ++ nlB) = out ++ rdOf ByteArray.empty xs i ++ (⟨#[10]⟩ : ByteArray):=by
   apply bl_inj;simp [bl_app,nlB]
  rw [← e2];exact this
 | d + 1,k,p,chk,hp,hk,hs=>by
  obtain ⟨k,rfl⟩:=ksucc (by omega : 0 < k)
  simp only [q1_Sealed.l1]
  have hb:=bt_in (rdOf ByteArray.empty xs i) (p : Int)
  rw [if_pos h0,if_pos h1,if_pos (by omega),if_pos (by omega),w64 (n:=bt _ _) (by omega),w64 (n:=(p : Int) + 1) (by omega),w64 (n:=i + 1) (by omega)]
  have:=seal_l1 xs by_ out i h0 h1 hl hx ho chk1 hr d k (p + 1) _ (by omega) (by omega) hs
  rw [show (((p + 1 : Nat)) : Int) = (p : Int) + 1 by omega] at this
  exact this
theorem mul_in {b p i : Int} (b0 : 0≤b) (b1 : b≤255) (p0 : 0≤p) (p1 : p≤1000) (i0 : 0≤i) (i1 : i≤1000) : 0≤b * p * i∧b * p * i≤255000000∧0≤b * p∧b * p≤255000:=by
 have a1 : 0≤b * p:=Int.mul_nonneg b0 p0
 have a2 : b * p≤255 * 1000:=Int.mul_le_mul b1 p1 p0 (by omega)
 have a3 : 0≤b * p * i:=Int.mul_nonneg a1 i0
 have a4 : b * p * i≤255000 * 1000:=Int.mul_le_mul (by omega) i1 i0 (by omega)
 omega
def sumBd (d : Nat) : Int:=255000000 * (d : Int)
theorem sumBd_succ (d : Nat) : sumBd (d + 1) = sumBd d + 255000000:=by unfold sumBd;omega
theorem sum_in (s : ByteArray) (i : Int) (i0 : 0≤i) (i1 : i≤999) (d : Nat) : ∀ (p chk : Int),0≤p→p + d≤1000→0≤chk→chk + sumBd d≤1000000000000000→0≤sumB s i d p chk∧sumB s i d p chk≤chk + sumBd d:=by
 induction d with
 | zero =>
  intro p chk p0 p1 c0 c1
  simp only [sumB,sumBd];omega
 | succ d ih =>
  intro p chk p0 p1 c0 c1
  rw [sumBd_succ] at c1 ⊢
  have sd : 0≤sumBd d:=by unfold sumBd;omega
  simp only [sumB]
  have hb:=bt_in s p
  have m:=mul_in hb.1 hb.2 (show 0≤p + 1 by omega) (show p + 1≤1000 by omega) (show 0≤i + 1 by omega) (show i + 1≤1000 by omega)
  rw [w64 (n:=bt s p * (p + 1)) (by omega),w64 (n:=bt s p * (p + 1) * (i + 1)) (by omega),w64 (n:=chk + _) (by omega)]
  have:=ih (p + 1) (chk + bt s p * (p + 1) * (i + 1)) (by omega) (by omega) (by omega) (by omega)
  omega
theorem last_eq {out : ByteArray} (ho : out.size≤10000000) {c : Int} (c0 : 0≤c) (c1 : c≤998) {k : Nat} (hk : 20≤k) {r : Option ByteArray}
  (h : r = some (lastB out c)) : (if out.size + 4≤9223372036854775807 then ((q1_Decimal.f k (wrap64 (Int.tdiv c 100))).bind fun t944=>(if (out ++ (⟨#[101,110,100,32]⟩ : ByteArray)).size + t944.size≤9223372036854775807 then ((q1_Decimal.f k (Int.tmod (wrap64 (Int.tdiv c 10)) 10)).bind fun t945=>(if ((out ++ (⟨#[101,110,100,32]⟩ : ByteArray)) ++ t944).size + t945.size≤9223372036854775807 then ((q1_Decimal.f k (Int.tmod c 10)).bind fun t946=>(if (((out ++ (⟨#[101,110,100,32]⟩ : ByteArray)) ++ t944) ++ t945).size + t946.size≤9223372036854775807 then (if ((((out ++ (⟨#[101,110,100,32]⟩ : ByteArray)) ++ t944) ++ t945) ++ t946).size + 1≤9223372036854775807 then (some (((((out ++ (⟨#[101,110,100,32]⟩ : ByteArray)) ++ t944) ++ t945) ++ t946) ++ (⟨#[10]⟩ : ByteArray))) else (none)) else (none))) else (none))) else (none))) else (none)) = r:=by
 subst h
 have e4 : (⟨#[101,110,100,32]⟩ : ByteArray).size = 4:=rfl
 have q1 : Int.tdiv c 100 = c / 100:=Int.tdiv_eq_ediv_of_nonneg c0
 have q2 : Int.tdiv c 10 = c / 10:=Int.tdiv_eq_ediv_of_nonneg c0
 have q3 : Int.tmod c 10 = c % 10:=Int.tmod_eq_emod_of_nonneg c0
 have q4 : Int.tmod (c / 10) 10 = c / 10 % 10:=Int.tmod_eq_emod_of_nonneg (by omega)
 have z1:=itB_size (n:=c / 100) (by omega) (by omega)
 have z2:=itB_size (n:=c / 10 % 10) (by omega) (by omega)
 have z3:=itB_size (n:=c % 10) (by omega) (by omega)
 rw [if_pos (by omega),q1,q2,q3,w64 (n:=c / 100) (by omega),w64 (n:=c / 10) (by omega),q4,decimal_eq 3 (c / 100) k (by omega) (by omega) (by omega) (by omega),Option.bind_some,if_pos (by rw [ByteArray.size_append];omega),decimal_eq 3 (c / 10 % 10) k (by omega) (by omega) (by omega) (by omega),Option.bind_some,if_pos (by simp only [ByteArray.size_append];omega),decimal_eq 3 (c % 10) k (by omega) (by omega) (by omega) (by omega),Option.bind_some,if_pos (by simp only [ByteArray.size_append];omega),if_pos (by simp only [ByteArray.size_append];omega)]
 unfold lastB
 rw [q1,q2,q3,q4]
 rfl
theorem seal_l0 (xs : List ByteArray) (hl : xs.length≤900) (hx : ∀ x ∈ xs,x.size≤1000) : ∀ (d k : Nat) (i : Int) (out : ByteArray) (chk : Int),0≤i→i + d = xs.length→out.size≤1001 * i→0≤chk→chk≤255000000000 * i→1002 * d + 20 < k→
  q1_Sealed.l0 k xs 127 out chk i = some (lastB (sealGo (xs.drop i.toNat) i out chk).1 ((sealGo (xs.drop i.toNat) i out chk).2.tmod 127))
 | 0,k,i,out,chk,h0,h1,ho,c0,c1,hk=>by
  obtain ⟨k,rfl⟩:=ksucc (by omega : 0 < k)
  simp only [q1_Sealed.l0]
  rw [if_neg (by omega),if_neg (by decide),List.drop_of_length_le (by omega)]
  simp only [sealGo]
  have m : Int.tmod chk 127 = chk % 127:=Int.tmod_eq_emod_of_nonneg c0
  exact last_eq (by omega) (by rw [m];omega) (by rw [m];omega) (by omega) rfl
 | d + 1,k,i,out,chk,h0,h1,ho,c0,c1,hk=>by
  obtain ⟨k,rfl⟩:=ksucc (by omega : 0 < k)
  have hm : rdOf ByteArray.empty xs i ∈ xs:=by
   have hi : i.toNat < xs.length:=by omega
   have : rdOf ByteArray.empty xs i = xs[i.toNat]:=by simp [rdOf,hi]
   rw [this];exact List.getElem_mem _
  have hz:=hx _ hm
  simp only [q1_Sealed.l0]
  rw [if_pos (by omega),rdOf_drop (d:=ByteArray.empty) h0 (by omega)]
  simp only [sealGo]
  have e : nlB.size = 1:=rfl
  have sb : sumBd (rdOf ByteArray.empty xs i).size≤255000000000:=by unfold sumBd;omega
  have hs:=sum_in (rdOf ByteArray.empty xs i) i h0 (by omega) (rdOf ByteArray.empty xs i).size 0 chk (by omega) (by omega) c0 (by omega)
  have:=seal_l1 xs 127 out i h0 (by omega) (by omega) hz (by omega) (sumB (rdOf ByteArray.empty xs i) i (rdOf ByteArray.empty xs i).size 0 chk) (N0:=1002 * d + 21) (fun k hk=>seal_l0 xs hl hx d k (i + 1) (out ++ (rdOf ByteArray.empty xs i ++ nlB)) _ (by omega) (by omega) (by rw [ByteArray.size_append,ByteArray.size_append];omega) (by omega) (by omega) (by omega)) (rdOf ByteArray.empty xs i).size k 0 chk (by omega) (by omega) rfl
  rw [show (i + 1).toNat = i.toNat + 1 by omega] at this
  exact this
theorem sealed_eq {xs : List ByteArray} (hl : xs.length≤900) (hx : ∀ x ∈ xs,x.size≤1000) {k : Nat} (hk : 1002 * xs.length + 20 < k) : q1_Sealed.f k xs 127 = some (lastB (sealGo xs 0 ByteArray.empty 0).1 ((sealGo xs 0 ByteArray.empty 0).2.tmod 127)):=by
 have:=seal_l0 xs hl hx xs.length k 0 ByteArray.empty 0 (by omega) (by omega) (by show 0≤_;omega) (by omega) (by omega) hk
 rw [Int.toNat_zero,List.drop_zero] at this
 exact this
def linesL (weir spill : Int) (noz : List S48) : List ByteArray:=lineB castleB weir spill :: noz.map fun z=>lineB nozzleB z.f0 z.f1
theorem textGo_seal : ∀ (ps : List (Int × Int)) (i : Int) (out : ByteArray) (chk : Int),0 < i→textGo ps i out chk = sealGo (ps.map fun x=>lineB nozzleB x.1 x.2) i out chk
 | [],i,out,chk,h=>rfl
 | x :: ps,i,out,chk,h=>by
  simp only [textGo,List.map_cons,sealGo]
  rw [if_neg (by omega)]
  exact textGo_seal ps (i + 1) _ _ (by omega)
theorem text_seal (weir spill : Int) (noz : List S48) : ca_text.f weir spill noz = lastB (sealGo (linesL weir spill noz) 0 ByteArray.empty 0).1 ((sealGo (linesL weir spill noz) 0 ByteArray.empty 0).2.tmod 127):=by
 unfold ca_text.f linesL
 simp only [textGo,sealGo,if_true]
 rw [textGo_seal _ _ _ _ (by omega),List.map_map]
 rfl
def okN (weir spill : Int) (noz : List S48) : Prop:=noz.length≤800∧(0≤weir∧weir≤1000∧0≤spill∧spill≤1000)∧∀ z ∈ noz,0≤z.f0∧z.f0≤1000∧0≤z.f1∧z.f1≤1000
theorem lines_size {weir spill : Int} {noz : List S48} (h : okN weir spill noz) : ∀ x ∈ linesL weir spill noz,x.size≤30:=by
 obtain ⟨h0,h1,h2⟩:=h
 intro x hx
 rcases List.mem_cons.1 hx with rfl | hx
 ·exact lineB_size (by decide) h1.1 h1.2.1 h1.2.2.1 h1.2.2.2
 ·obtain ⟨z,hz,rfl⟩:=List.mem_map.1 hx
  have:=h2 z hz
  exact lineB_size (by decide) this.1 this.2.1 this.2.2.1 this.2.2.2
theorem rprint_go (rows : List S126) (draw : Int) {weir spill : Int} {noz : List S48} (h : okN weir spill noz) : ∀ (d k : Nat) (i : Int),0≤i→i + d = noz.length→1002 * (noz.length + 1) + 50 + d < k→
  q4_Print.l0 k (lineB castleB weir spill :: (noz.take i.toNat).map fun z=>lineB nozzleB z.f0 z.f1) i rows draw noz weir spill = some (ca_text.f weir spill noz)
 | 0,k,i,h0,h1,hk=>by
  obtain ⟨k,rfl⟩:=ksucc (by omega : 0 < k)
  simp only [q4_Print.l0]
  have hl:=h.1
  rw [if_neg (by omega),List.take_of_length_le (by omega)]
  have:=sealed_eq (xs:=linesL weir spill noz) (k:=k) (by simp [linesL];omega) (fun x hx=>by have:=lines_size h x hx;omega) (by simp [linesL];omega)
  unfold linesL at this
  rw [this,Option.bind_some,text_seal]
  rfl
 | d + 1,k,i,h0,h1,hk=>by
  obtain ⟨k,rfl⟩:=ksucc (by omega : 0 < k)
  simp only [q4_Print.l0]
  have hl:=h.1
  have hi : i.toNat < noz.length:=by omega
  have hz : rd_T48 noz i = noz[i.toNat]:=by simp [rd_T48,hi]
  have hb:=h.2.2 _ (List.getElem_mem hi)
  rw [if_pos (by omega),if_pos h0,hz,show (⟨#[110,111,122,122,108,101]⟩ : ByteArray) = nozzleB from rfl,row_eq (by decide) hb.1 hb.2.1 hb.2.2.1 hb.2.2.2 (by omega),Option.bind_some,if_pos (by simp;omega),w64 (n:=i + 1) (by omega)]
  have:=rprint_go rows draw h d k (i + 1) (by omega) (by omega) (by omega)
  rw [show (i + 1).toNat = i.toNat + 1 by omega,List.take_succ_eq_append_getElem hi,List.map_append] at this
  exact this
theorem rPrint_eq (rows : List S126) (draw : Int) {weir spill : Int} {noz : List S48} (h : okN weir spill noz) {k : Nat} (hk : 1003 * (noz.length + 1) + 60 < k) : q4_Print.f k rows draw noz weir spill = some (ca_text.f weir spill noz):=by
 unfold q4_Print.f
 obtain ⟨h0,h1,h2⟩:=h
 rw [show (⟨#[99,97,115,116,108,101]⟩ : ByteArray) = castleB from rfl,row_eq (by decide) h1.1 h1.2.1 h1.2.2.1 h1.2.2.2 (by omega),Option.bind_some]
 have:=rprint_go rows draw ⟨h0,h1,h2⟩ noz.length k 0 (by omega) (by omega) (by omega)
 simpa using this
section
attribute [local go_sem] max2_int min2_int max_two min_two
set_option linter.unusedSimpArgs false
end
set_option linter.unusedSimpArgs false
section
attribute [local go_sem] max2_int min2_int max_two min_two
set_option linter.unusedSimpArgs false
set_option linter.unusedSimpArgs false
set_option linter.unusedSimpArgs false
set_option linter.unusedSimpArgs false
set_option linter.unusedSimpArgs false
set_option linter.unusedSimpArgs false
set_option linter.unusedSimpArgs false
end
set_option linter.unusedSimpArgs false
section
attribute [local go_sem] max2_int min2_int max_two min_two
set_option linter.unusedSimpArgs false
set_option linter.unusedSimpArgs false
end
set_option linter.unusedSimpArgs false
def fillK (n : Nat) : Nat := 50 * (n + 2) + 100
section
variable {rows : List S126} {draw : Int} {noz : List S48} {weir spill : Int}
def over (weir spill h : Int) : Int:=spill * mx 0 (h - weir)
end
set_option linter.unusedSimpArgs false
end Go.Proofs.YtnnmnhpeblhiiaaGreatDoor.C

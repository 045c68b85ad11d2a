/- A part of the proof: the walks of the functions that it reaches. TIGHT. -/
import Derived.Test.YticlelgmmonloaaGreatDoorM15
import Derived.Test.YticlelgmmonloaaGreatDoorM16
set_option linter.unusedVariables false
set_option linter.unusedSimpArgs false
namespace Go.Proofs.YticlelgmmonloaaGreatDoor.C
open Go.RowKit Go.Proofs.YticlelgmmonloaaGreatDoorW.PrintWords Go.Proofs.YticlelgmmonloaaGreatDoorW.PrintLast Go.Proofs.YticlelgmmonloaaGreatDoorW.PrintMore
set_option linter.unusedVariables false
set_option linter.unusedSimpArgs false
set_option maxHeartbeats 16000000
set_option maxRecDepth 100000
section
attribute [local go_sem] max2_int min2_int max_two min_two
mutual
def l4_CastleLow.j0 : Nat → Int → Bool → List (S126) → Int → List (S64) → Int → Int → Int → Int → Option (Bool)
 | 0,_,_,_,_,_,_,_,_,_ => none
 | k + 1,x2,x36,x772000,x772001,x772002,x772003,x772004,x773000,x773001 => if x36 = true then ((l4_known.f).bind fun t777 => (some t777)) else (if 0 ≤ x773000 then (if x773000 < (x772002.length : Int) then ((ca_Gains.f k x772000 x772001 x772002 x772003 x772004 x773000 x773001 x2).bind fun bt780 => ((q4_With.f x772000 x772001 x772002 x772003 x772004 x773000 x773001).bind fun t794 => ((ca_Gains.f k x772000 x772001 t794 x772003 x772004 x773000 ((rd_T64 x772002 x773000).f1) x2).bind fun bt797 => (if bt780.2.2 = 0 then (if bt797.2.2 = 0 then (if (bt780.1.length : Int) = (x772002.length : Int) then (if (bt797.1.length : Int) = (x772002.length : Int) then (if bt780.2.1 < (-10000) then (l4_CastleLow.j1 k bt780.1 bt780.2.1 bt797.1 (x772002.length : Int) true x773000 x773001 x773000 ((rd_T64 x772002 x773000).f1)) else (if bt780.2.1 > 10000 then (l4_CastleLow.j1 k bt780.1 bt780.2.1 bt797.1 (x772002.length : Int) true x773000 x773001 x773000 ((rd_T64 x772002 x773000).f1)) else (if bt797.2.1 < (-10000) then (l4_CastleLow.j1 k bt780.1 bt780.2.1 bt797.1 (x772002.length : Int) true x773000 x773001 x773000 ((rd_T64 x772002 x773000).f1)) else (l4_CastleLow.j1 k bt780.1 bt780.2.1 bt797.1 (x772002.length : Int) (bt797.2.1 != (wrap64 (-bt780.2.1))) x773000 x773001 x773000 ((rd_T64 x772002 x773000).f1))))) else (l4_CastleLow.j1 k bt780.1 bt780.2.1 bt797.1 (x772002.length : Int) true x773000 x773001 x773000 ((rd_T64 x772002 x773000).f1))) else (l4_CastleLow.j1 k bt780.1 bt780.2.1 bt797.1 (x772002.length : Int) true x773000 x773001 x773000 ((rd_T64 x772002 x773000).f1))) else (l4_CastleLow.j1 k bt780.1 bt780.2.1 bt797.1 (x772002.length : Int) true x773000 x773001 x773000 ((rd_T64 x772002 x773000).f1))) else (l4_CastleLow.j1 k bt780.1 bt780.2.1 bt797.1 (x772002.length : Int) true x773000 x773001 x773000 ((rd_T64 x772002 x773000).f1)))))) else (none)) else (none))
def l4_CastleLow.j1 : Nat → List Int → Int → List Int → Int → Bool → Int → Int → Int → Int → Option (Bool)
 | 0,_,_,_,_,_,_,_,_,_ => none
 | k + 1,x8,x9,x11,x14,x104,x773000,x773001,x780000,x780001 => if x104 = true then (none) else (if x773001 ≤ x780001 then (l4_CastleLow.j2 k x8 x11 x14 (decide (x773001 ≤ x780001)) x9 (decide (x9 > 0)) x773000 x773001) else (l4_CastleLow.j2 k x8 x11 x14 (decide (x773001 ≤ x780001)) x9 false x773000 x773001))
def l4_CastleLow.j2 : Nat → List Int → List Int → Int → Bool → Int → Bool → Int → Int → Option (Bool)
 | 0,_,_,_,_,_,_,_,_ => none
 | k + 1,x8,x11,x14,x15,x16,x115,x773000,x773001 => if x115 = true then (none) else (l4_CastleLow.l0 k x8 x11 x14 x15 x16 0 x773000 x773001)
def l4_CastleLow.l0 : Nat → List Int → List Int → Int → Bool → Int → Int → Int → Int → Option (Bool)
 | 0,_,_,_,_,_,_,_,_ => none
 | k + 1,x8,x11,x14,x15,x16,x17,x773000,x773001 => if x17 < x14 then (if 0 ≤ x17 then (if x17 < (x8.length : Int) then (if (rd x8 x17) < (-10000) then (none) else (if (rd x8 x17) > 10000 then (none) else (if x17 < (x11.length : Int) then (if (rd x11 x17) = (wrap64 (-(rd x8 x17))) then (if x15 = true then (if x17 = x773000 then (if (rd x8 x17) < 0 then (none) else (l4_CastleLow.l0 k x8 x11 x14 x15 (wrap64 (x16 + (rd x8 x17))) (wrap64 (x17 + 1)) x773000 x773001)) else (if (rd x8 x17) > 0 then (none) else (l4_CastleLow.l0 k x8 x11 x14 x15 (wrap64 (x16 + (rd x8 x17))) (wrap64 (x17 + 1)) x773000 x773001))) else (l4_CastleLow.l0 k x8 x11 x14 x15 (wrap64 (x16 + (rd x8 x17))) (wrap64 (x17 + 1)) x773000 x773001)) else (none)) else (none)))) else (none)) else (none)) else (if x16 = 0 then ((l4_known.f).bind fun t811 => (some t811)) else (none))
end
def l4_CastleLow.f (k : Nat) (l0_0 : List (S126)) (a0_1 : Int) (l0_2 : List (S64)) (a0_3 : Int) (a0_4 : Int) (a1_0 : Int) (a1_1 : Int) (a2 : Int) : Option (Bool) := (l4_short.f l0_0 a0_1 l0_2 a0_3 a0_4).bind fun t773 => (if t773 = true then ((q4_Basin.f k l0_0 a0_1 l0_2 a0_3 a0_4).bind fun t774 => (if t774 = true then ((q4_Change.f l0_0 a0_1 l0_2 a0_3 a0_4 a1_0 a1_1).bind fun t775 => (if t775 = true then ((q4_Cups.f a2).bind fun t776 => (l4_CastleLow.j0 k a2 (!t776) l0_0 a0_1 l0_2 a0_3 a0_4 a1_0 a1_1)) else (l4_CastleLow.j0 k a2 true l0_0 a0_1 l0_2 a0_3 a0_4 a1_0 a1_1))) else (l4_CastleLow.j0 k a2 true l0_0 a0_1 l0_2 a0_3 a0_4 a1_0 a1_1))) else (l4_CastleLow.j0 k a2 true l0_0 a0_1 l0_2 a0_3 a0_4 a1_0 a1_1))
def l4_CastleLow.T3 : Bool × List (List Nat × List Nat) := (true,[([],[]),([0],[0]),([],[]),([2],[2]),([],[]),([4],[4]),([3,5],[3,5]),([6],[6]),([7],[7]),([1,8],[1,8]),([],[]),([10,9,0,1,2,3,4,5,6,7,8,9,10],[9,10])])
def l4_CastleLow.B3 : List Nat := [0,1,0,4,0,16,60,124,252,511,0,2047]
theorem l4_CastleLow.tab3 : rtab .any (opsOf Tryz.f10 3) = l4_CastleLow.T3 := by kernel_rfl
theorem l4_CastleLow.bits3 : waitsOk l4_CastleLow.T3.2 l4_CastleLow.B3 = true := by kernel_rfl
def l4_CastleLow.T5 : Bool × List (List Nat × List Nat) := (true,[([],[]),([],[]),([0,1],[0,1]),([],[]),([],[]),([2,3,4,2],[2,3,4]),([5],[5]),([6],[6]),([6],[6]),([6],[6]),([7,5,0,1,2,3,4,5,6,7],[7]),([8,10,0,1,2,3,4,5,6,7,8,10],[8]),([9,11,0,1,2,3,4,5,6,7,8,9,10,11],[9])])
def l4_CastleLow.B5 : List Nat := [0,0,3,0,0,31,63,127,127,127,255,1535,4095]
theorem l4_CastleLow.tab5 : rtab .any (opsOf Tryz.f10 5) = l4_CastleLow.T5 := by kernel_rfl
theorem l4_CastleLow.bits5 : waitsOk l4_CastleLow.T5.2 l4_CastleLow.B5 = true := by kernel_rfl
def l4_CastleLow.T16 : Bool × List (List Nat × List Nat) := (true,[([],[]),([],[]),([0,1],[0,1]),([2],[2]),([3],[3]),([4],[4]),([5],[5]),([5],[5]),([6,7,5],[5,6,7]),([8,5],[5,8]),([9,5],[5,9]),([5,10],[5,10]),([11,5],[11]),([12],[12]),([12],[12]),([13,14,12],[12,13,14]),([15,12],[12,15]),([12],[12]),([12],[12]),([17,18,12],[12,17,18]),([19,12],[12,19]),([20,12],[12,20]),([16,21,12],[12,16,21]),([12,22],[12,22]),([23,12],[23]),([24],[24]),([25,24,24],[24,25]),([26],[26]),([26],[26]),([28,26],[26,28]),([27,29,26],[26,27,29]),([26,30,24],[24,26,30]),([31,26,24],[24,31]),([32],[32]),([32],[32]),([33,34,32],[32,33,34]),([35,32],[32,35]),([36,32],[32,36]),([32,37,24],[24,32,37]),([24,38],[24,38]),([39,32],[39]),([40],[40]),([41,40,40],[40,41]),([42],[42]),([42],[42]),([44,42],[42,44]),([43,45,42],[42,43,45]),([42,46,40],[40,42,46]),([47,42,40],[40,47]),([48],[48]),([48],[48]),([49,50,48],[48,49,50]),([51,48],[48,51]),([52,48],[48,52]),([48,53,40],[40,48,53]),([40,54],[40,54])])
def l4_CastleLow.B16 : List Nat := [0,0,3,7,15,31,63,63,255,511,1023,2047,4095,8191,8191,32767,65535,8191,8191,401407,925695,1974271,4194303,8388607,16777215,33554431,67108863,134217727,134217727,402653183,1073741823,2147483647,4294967295,8589934591,8589934591,34359738367,68719476735,137438953471,274877906943,549755813887,1099511627775,2199023255551,4398046511103,8796093022207,8796093022207,26388279066623,70368744177663,140737488355327,281474976710655,562949953421311,562949953421311,2251799813685247,4503599627370495,9007199254740991,18014398509481983,36028797018963967]
theorem l4_CastleLow.tab16 : rtab .any (opsOf Tryz.f10 16) = l4_CastleLow.T16 := by kernel_rfl
theorem l4_CastleLow.bits16 : waitsOk l4_CastleLow.T16.2 l4_CastleLow.B16 = true := by kernel_rfl
theorem l4_CastleLow.calls (k : Nat) (A0_0 : Option Addr) (c0_0 : Nat) (l0_0 : List (S126)) (a0_1 : Int) (A0_2 : Option Addr) (c0_2 : Nat) (l0_2 : List (S64)) (a0_3 : Int) (a0_4 : Int) (a1_0 : Int) (a1_1 : Int) (a2 : Int) (r : Bool) (w : World) (hr0_0 : Kd.C k126 w A0_0 l0_0.length l0_0) (hc0_0 : l0_0.length ≤ c0_0) (hr0_2 : Kd.C k64 w A0_2 l0_2.length l0_2) (hc0_2 : l0_2.length ≤ c0_2) (h : l4_CastleLow.f k l0_0 a0_1 l0_2 a0_3 a0_4 a1_0 a1_1 a2 = some r) :
 Calls Tryz.prog 10 #[.agg #[.slice A0_0 l0_0.length c0_0,.int .i64 a0_1,.slice A0_2 l0_2.length c0_2,.int .i64 a0_3,.int .i64 a0_4],.agg #[.int .i64 a1_0,.int .i64 a1_1],.int .i64 a2] w fun e w' => e = .returned (.bool r) ∧ Below w.heap.size w w' := by
 have hu27 := Tryz.underlying27
 have hu58 := Tryz.underlying58
 have HR0_0 := am hr0_0
 have HC0_0 := am hc0_0
 clear hr0_0 hc0_0
 have HR0_2 := am hr0_2
 have HC0_2 := am hc0_2
 clear hr0_2 hc0_2
 have HB := am (Below.refl w.heap.size w)
 have H : ((l4_short.f l0_0 a0_1 l0_2 a0_3 a0_4).bind fun t773 => (if t773 = true then ((q4_Basin.f k l0_0 a0_1 l0_2 a0_3 a0_4).bind fun t774 => (if t774 = true then ((q4_Change.f l0_0 a0_1 l0_2 a0_3 a0_4 a1_0 a1_1).bind fun t775 => (if t775 = true then ((q4_Cups.f a2).bind fun t776 => (l4_CastleLow.j0 k a2 (!t776) l0_0 a0_1 l0_2 a0_3 a0_4 a1_0 a1_1)) else (l4_CastleLow.j0 k a2 true l0_0 a0_1 l0_2 a0_3 a0_4 a1_0 a1_1))) else (l4_CastleLow.j0 k a2 true l0_0 a0_1 l0_2 a0_3 a0_4 a1_0 a1_1))) else (l4_CastleLow.j0 k a2 true l0_0 a0_1 l0_2 a0_3 a0_4 a1_0 a1_1))) = some r := h
 clear h
 have HC4 := am H
 clear H
 go_enter Tryz.func10,Tryz.ntmps10
 go_upto_region 1 with (first | ((refine gate_dst (N := 3) rfl ?_);(try (refine gate_guard (by rfl) ?_;dsimp only));refine box_event rfl (N := 3) rfl (cs := #[.slice A0_0 l0_0.length c0_0,.int .i64 a0_1,.slice A0_2 l0_2.length c0_2,.int .i64 a0_3,.int .i64 a0_4]) (t := 27) ?hr ?_;(case hr => go_simp;try rfl);intro gb771 hg w5 hbox hb;have BK771 := am (hbox);have GW771 := am (ge_new (HB.out) hg);have GE771 := am (ge_new (HB.out) hg);replace HB := am (below_step (HB.out) hb);clear hb hbox hg) | ((refine gate_dst (N := 4) rfl ?_);(try (refine gate_guard (by rfl) ?_;dsimp only));refine box_event rfl (N := 4) rfl (cs := #[.int .i64 a1_0,.int .i64 a1_1]) (t := 58) ?hr ?_;(case hr => go_simp;try rfl);intro gb772 hg w6 hbox hb;have BK772 := am (hbox);have GW772 := am (ge_new (HB.out) hg);have GE772 := am (ge_new (HB.out) hg);have NB771_772 := am (ne_new BK771.out hg);have NB772_771 := am (ne_new2 BK771.out hg);replace BK771 := (kmv hb BK771);replace HB := am (below_step (HB.out) hb);clear hb hbox hg))
 (try simp only [Act.put,List.setIfInBounds_toArray,List.set_cons_zero,List.set_cons_succ])
 go_cut [36] (fun v36 wc => ∃ (kq : Nat) (x36_3 : Bool),v36 = .bool x36_3 ∧ Aside0 (l4_CastleLow.j0 kq a2 x36_3 l0_0 a0_1 l0_2 a0_3 a0_4 a1_0 a1_1 = some r) ∧ Aside0 (kq ≤ k) ∧ Aside0 (wc.heap[gb771]? = some (.cells #[(.slice A0_0 l0_0.length c0_0),.int .i64 a0_1,(.slice A0_2 l0_2.length c0_2),.int .i64 a0_3,.int .i64 a0_4] 27 (0,0))) ∧ Aside0 (wc.heap[gb772]? = some (.cells #[.int .i64 a1_0,.int .i64 a1_1] 58 (0,0))) ∧ Aside0 (Below w.heap.size w wc))
 case first =>
  as_aux_lemma =>
   have H := HC4.out
   clear HC4
   replace H := obm H
   obtain ⟨t773,A70,H⟩ := H
   replace H : (if t773 = true then ((q4_Basin.f k l0_0 a0_1 l0_2 a0_3 a0_4).bind fun t774 => (if t774 = true then ((q4_Change.f l0_0 a0_1 l0_2 a0_3 a0_4 a1_0 a1_1).bind fun t775 => (if t775 = true then ((q4_Cups.f a2).bind fun t776 => (l4_CastleLow.j0 k a2 (!t776) l0_0 a0_1 l0_2 a0_3 a0_4 a1_0 a1_1)) else (l4_CastleLow.j0 k a2 true l0_0 a0_1 l0_2 a0_3 a0_4 a1_0 a1_1))) else (l4_CastleLow.j0 k a2 true l0_0 a0_1 l0_2 a0_3 a0_4 a1_0 a1_1))) else (l4_CastleLow.j0 k a2 true l0_0 a0_1 l0_2 a0_3 a0_4 a1_0 a1_1)) = some r := H
   have A7 := am A70
   clear A70
   by_cases c8 : t773 = true
   case neg =>
    as_aux_lemma =>
     replace c8 := Bool.eq_false_iff.mpr c8
     subst c8
     replace H : (l4_CastleLow.j0 k a2 true l0_0 a0_1 l0_2 a0_3 a0_4 a1_0 a1_1) = some r := by rw [if_neg (show ¬ (false = true) by decide)] at H;exact H
     replace H' := am H
     have hnb35 := NB771_772.out
     have hnc35 := NB772_771.out
     obtain ⟨hcz36_0,hcz36_1,hcz36_2,hcz36_3,hcz36_4⟩ := cO5 BK771.out
     go_wp2_with (first | ((with_reducible refine gate_callee (f := 14) rfl ?_);refine goesL_ (some 19) rfl rfl Tryz.func14 (by kernel_rfl) rfl #[.agg #[.slice A0_0 l0_0.length c0_0,.int .i64 a0_1,.slice A0_2 l0_2.length c0_2,.int .i64 a0_3,.int .i64 a0_4]] rfl (by (try simp only [List.map_toArray,List.map_cons,List.map_nil]);first | done | rfl | (simp only [List.length_drop,List.length_take];rfl)) ?_;(with_reducible refine (l4_short.calls _ _ l0_0 a0_1 _ _ l0_2 a0_3 a0_4 false _ ?side1 ?side2 ?side3 ?side4 A7.out).mono ?_);(case side1 => exact kC HR0_0.out HB.out);(case side2 => exact HC0_0.out);(case side3 => exact kC HR0_2.out HB.out);(case side4 => exact HC0_2.out);rintro e w37 ⟨rfl,hb⟩;refine ⟨_,rfl,?_⟩;replace BK771 := (kmv hb BK771);replace BK772 := (kmv hb BK772);replace HB := am (below_step (HB.out) hb);(try clear hb);(try clear hb2);(try clear hk);(try clear hi)))
     go_meet
     case rel => exact ⟨_,(true),(by first | rfl | (simp;done) | (simp [*];done)),H',⟨by first | omega | exact Nat.le_refl _⟩,⟨BK771.out⟩,⟨BK772.out⟩,⟨HB.out⟩⟩
   as_aux_lemma =>
    subst c8
    replace H : ((q4_Basin.f k l0_0 a0_1 l0_2 a0_3 a0_4).bind fun t774 => (if t774 = true then ((q4_Change.f l0_0 a0_1 l0_2 a0_3 a0_4 a1_0 a1_1).bind fun t775 => (if t775 = true then ((q4_Cups.f a2).bind fun t776 => (l4_CastleLow.j0 k a2 (!t776) l0_0 a0_1 l0_2 a0_3 a0_4 a1_0 a1_1)) else (l4_CastleLow.j0 k a2 true l0_0 a0_1 l0_2 a0_3 a0_4 a1_0 a1_1))) else (l4_CastleLow.j0 k a2 true l0_0 a0_1 l0_2 a0_3 a0_4 a1_0 a1_1))) = some r := by rw [if_pos rfl] at H;exact H
    replace H := obm H
    obtain ⟨t774,A90,H⟩ := H
    replace H : (if t774 = true then ((q4_Change.f l0_0 a0_1 l0_2 a0_3 a0_4 a1_0 a1_1).bind fun t775 => (if t775 = true then ((q4_Cups.f a2).bind fun t776 => (l4_CastleLow.j0 k a2 (!t776) l0_0 a0_1 l0_2 a0_3 a0_4 a1_0 a1_1)) else (l4_CastleLow.j0 k a2 true l0_0 a0_1 l0_2 a0_3 a0_4 a1_0 a1_1))) else (l4_CastleLow.j0 k a2 true l0_0 a0_1 l0_2 a0_3 a0_4 a1_0 a1_1)) = some r := H
    have A9 := am A90
    clear A90
    by_cases c10 : t774 = true
    case neg =>
     as_aux_lemma =>
      replace c10 := Bool.eq_false_iff.mpr c10
      subst c10
      replace H : (l4_CastleLow.j0 k a2 true l0_0 a0_1 l0_2 a0_3 a0_4 a1_0 a1_1) = some r := by rw [if_neg (show ¬ (false = true) by decide)] at H;exact H
      replace H' := am H
      have hnb30 := NB771_772.out
      have hnc30 := NB772_771.out
      obtain ⟨hcz31_0,hcz31_1,hcz31_2,hcz31_3,hcz31_4⟩ := cO5 BK771.out
      go_wp2_with (first | ((with_reducible refine gate_callee (f := 14) rfl ?_);refine goesL_ (some 19) rfl rfl Tryz.func14 (by kernel_rfl) rfl #[.agg #[.slice A0_0 l0_0.length c0_0,.int .i64 a0_1,.slice A0_2 l0_2.length c0_2,.int .i64 a0_3,.int .i64 a0_4]] rfl (by (try simp only [List.map_toArray,List.map_cons,List.map_nil]);first | done | rfl | (simp only [List.length_drop,List.length_take];rfl)) ?_;(with_reducible refine (l4_short.calls _ _ l0_0 a0_1 _ _ l0_2 a0_3 a0_4 true _ ?side1 ?side2 ?side3 ?side4 A7.out).mono ?_);(case side1 => exact kC HR0_0.out HB.out);(case side2 => exact HC0_0.out);(case side3 => exact kC HR0_2.out HB.out);(case side4 => exact HC0_2.out);rintro e w32 ⟨rfl,hb⟩;refine ⟨_,rfl,?_⟩;replace BK771 := (kmv hb BK771);replace BK772 := (kmv hb BK772);replace HB := am (below_step (HB.out) hb);(try clear hb);(try clear hb2);(try clear hk);(try clear hi);obtain ⟨hcz33_0,hcz33_1,hcz33_2,hcz33_3,hcz33_4⟩ := cO5 BK771.out) | (go_at_call 17;(with_reducible refine (q4_Basin.calls k _ _ l0_0 a0_1 _ _ l0_2 a0_3 a0_4 false _ ?side1 ?side2 ?side3 ?side4 A9.out).mono ?_);(case side1 => exact kC HR0_0.out HB.out);(case side2 => exact HC0_0.out);(case side3 => exact kC HR0_2.out HB.out);(case side4 => exact HC0_2.out);rintro e w34 ⟨rfl,hb⟩;replace BK771 := (kmv hb BK771);replace BK772 := (kmv hb BK772);replace HB := am (below_step (HB.out) hb);(try clear hb);(try clear hb2);(try clear hk);(try clear hi)))
      go_meet
      case rel => exact ⟨_,(true),(by first | rfl | (simp;done) | (simp [*];done)),H',⟨by first | omega | exact Nat.le_refl _⟩,⟨BK771.out⟩,⟨BK772.out⟩,⟨HB.out⟩⟩
    as_aux_lemma =>
     subst c10
     replace H : ((q4_Change.f l0_0 a0_1 l0_2 a0_3 a0_4 a1_0 a1_1).bind fun t775 => (if t775 = true then ((q4_Cups.f a2).bind fun t776 => (l4_CastleLow.j0 k a2 (!t776) l0_0 a0_1 l0_2 a0_3 a0_4 a1_0 a1_1)) else (l4_CastleLow.j0 k a2 true l0_0 a0_1 l0_2 a0_3 a0_4 a1_0 a1_1))) = some r := by rw [if_pos rfl] at H;exact H
     replace H := obm H
     obtain ⟨t775,A110,H⟩ := H
     replace H : (if t775 = true then ((q4_Cups.f a2).bind fun t776 => (l4_CastleLow.j0 k a2 (!t776) l0_0 a0_1 l0_2 a0_3 a0_4 a1_0 a1_1)) else (l4_CastleLow.j0 k a2 true l0_0 a0_1 l0_2 a0_3 a0_4 a1_0 a1_1)) = some r := H
     have A11 := am A110
     clear A110
     by_cases c12 : t775 = true
     case neg =>
      as_aux_lemma =>
       replace c12 := Bool.eq_false_iff.mpr c12
       subst c12
       replace H : (l4_CastleLow.j0 k a2 true l0_0 a0_1 l0_2 a0_3 a0_4 a1_0 a1_1) = some r := by rw [if_neg (show ¬ (false = true) by decide)] at H;exact H
       replace H' := am H
       have hnb22 := NB771_772.out
       have hnc22 := NB772_771.out
       obtain ⟨hcz23_0,hcz23_1,hcz23_2,hcz23_3,hcz23_4⟩ := cO5 BK771.out
       go_wp2_with (first | ((with_reducible refine gate_callee (f := 14) rfl ?_);refine goesL_ (some 19) rfl rfl Tryz.func14 (by kernel_rfl) rfl #[.agg #[.slice A0_0 l0_0.length c0_0,.int .i64 a0_1,.slice A0_2 l0_2.length c0_2,.int .i64 a0_3,.int .i64 a0_4]] rfl (by (try simp only [List.map_toArray,List.map_cons,List.map_nil]);first | done | rfl | (simp only [List.length_drop,List.length_take];rfl)) ?_;(with_reducible refine (l4_short.calls _ _ l0_0 a0_1 _ _ l0_2 a0_3 a0_4 true _ ?side1 ?side2 ?side3 ?side4 A7.out).mono ?_);(case side1 => exact kC HR0_0.out HB.out);(case side2 => exact HC0_0.out);(case side3 => exact kC HR0_2.out HB.out);(case side4 => exact HC0_2.out);rintro e w24 ⟨rfl,hb⟩;refine ⟨_,rfl,?_⟩;replace BK771 := (kmv hb BK771);replace BK772 := (kmv hb BK772);replace HB := am (below_step (HB.out) hb);(try clear hb);(try clear hb2);(try clear hk);(try clear hi);obtain ⟨hcz25_0,hcz25_1,hcz25_2,hcz25_3,hcz25_4⟩ := cO5 BK771.out) | (go_at_call 17;(with_reducible refine (q4_Basin.calls k _ _ l0_0 a0_1 _ _ l0_2 a0_3 a0_4 true _ ?side1 ?side2 ?side3 ?side4 A9.out).mono ?_);(case side1 => exact kC HR0_0.out HB.out);(case side2 => exact HC0_0.out);(case side3 => exact kC HR0_2.out HB.out);(case side4 => exact HC0_2.out);rintro e w26 ⟨rfl,hb⟩;replace BK771 := (kmv hb BK771);replace BK772 := (kmv hb BK772);replace HB := am (below_step (HB.out) hb);(try clear hb);(try clear hb2);(try clear hk);(try clear hi);obtain ⟨hcz27_0,hcz27_1,hcz27_2,hcz27_3,hcz27_4⟩ := cO5 BK771.out;obtain ⟨hcz28_0,hcz28_1⟩ := cO2 BK772.out) | (go_at_call 34;(with_reducible refine (q4_Change.calls _ _ l0_0 a0_1 _ _ l0_2 a0_3 a0_4 a1_0 a1_1 false _ ?side1 ?side2 ?side3 ?side4 A11.out).mono ?_);(case side1 => exact kC HR0_0.out HB.out);(case side2 => exact HC0_0.out);(case side3 => exact kC HR0_2.out HB.out);(case side4 => exact HC0_2.out);rintro e w29 ⟨rfl,hb⟩;replace BK771 := (kmv hb BK771);replace BK772 := (kmv hb BK772);replace HB := am (below_step (HB.out) hb);(try clear hb);(try clear hb2);(try clear hk);(try clear hi)))
       go_meet
       case rel => exact ⟨_,(true),(by first | rfl | (simp;done) | (simp [*];done)),H',⟨by first | omega | exact Nat.le_refl _⟩,⟨BK771.out⟩,⟨BK772.out⟩,⟨HB.out⟩⟩
     as_aux_lemma =>
      subst c12
      replace H : ((q4_Cups.f a2).bind fun t776 => (l4_CastleLow.j0 k a2 (!t776) l0_0 a0_1 l0_2 a0_3 a0_4 a1_0 a1_1)) = some r := by rw [if_pos rfl] at H;exact H
      replace H := obm H
      obtain ⟨t776,A130,H⟩ := H
      replace H : (l4_CastleLow.j0 k a2 (!t776) l0_0 a0_1 l0_2 a0_3 a0_4 a1_0 a1_1) = some r := H
      have A13 := am A130
      clear A130
      replace H' := am H
      have hnb14 := NB771_772.out
      have hnc14 := NB772_771.out
      obtain ⟨hcz15_0,hcz15_1,hcz15_2,hcz15_3,hcz15_4⟩ := cO5 BK771.out
      go_wp2_with (first | ((with_reducible refine gate_callee (f := 14) rfl ?_);refine goesL_ (some 19) rfl rfl Tryz.func14 (by kernel_rfl) rfl #[.agg #[.slice A0_0 l0_0.length c0_0,.int .i64 a0_1,.slice A0_2 l0_2.length c0_2,.int .i64 a0_3,.int .i64 a0_4]] rfl (by (try simp only [List.map_toArray,List.map_cons,List.map_nil]);first | done | rfl | (simp only [List.length_drop,List.length_take];rfl)) ?_;(with_reducible refine (l4_short.calls _ _ l0_0 a0_1 _ _ l0_2 a0_3 a0_4 true _ ?side1 ?side2 ?side3 ?side4 A7.out).mono ?_);(case side1 => exact kC HR0_0.out HB.out);(case side2 => exact HC0_0.out);(case side3 => exact kC HR0_2.out HB.out);(case side4 => exact HC0_2.out);rintro e w16 ⟨rfl,hb⟩;refine ⟨_,rfl,?_⟩;replace BK771 := (kmv hb BK771);replace BK772 := (kmv hb BK772);replace HB := am (below_step (HB.out) hb);(try clear hb);(try clear hb2);(try clear hk);(try clear hi);obtain ⟨hcz17_0,hcz17_1,hcz17_2,hcz17_3,hcz17_4⟩ := cO5 BK771.out) | (go_at_call 17;(with_reducible refine (q4_Basin.calls k _ _ l0_0 a0_1 _ _ l0_2 a0_3 a0_4 true _ ?side1 ?side2 ?side3 ?side4 A9.out).mono ?_);(case side1 => exact kC HR0_0.out HB.out);(case side2 => exact HC0_0.out);(case side3 => exact kC HR0_2.out HB.out);(case side4 => exact HC0_2.out);rintro e w18 ⟨rfl,hb⟩;replace BK771 := (kmv hb BK771);replace BK772 := (kmv hb BK772);replace HB := am (below_step (HB.out) hb);(try clear hb);(try clear hb2);(try clear hk);(try clear hi);obtain ⟨hcz19_0,hcz19_1,hcz19_2,hcz19_3,hcz19_4⟩ := cO5 BK771.out;obtain ⟨hcz20_0,hcz20_1⟩ := cO2 BK772.out) | (go_at_call 34;(with_reducible refine (q4_Change.calls _ _ l0_0 a0_1 _ _ l0_2 a0_3 a0_4 a1_0 a1_1 true _ ?side1 ?side2 ?side3 ?side4 A11.out).mono ?_);(case side1 => exact kC HR0_0.out HB.out);(case side2 => exact HC0_0.out);(case side3 => exact kC HR0_2.out HB.out);(case side4 => exact HC0_2.out);rintro e w21 ⟨rfl,hb⟩;replace BK771 := (kmv hb BK771);replace BK772 := (kmv hb BK772);replace HB := am (below_step (HB.out) hb);(try clear hb);(try clear hb2);(try clear hk);(try clear hi)) | (go_at_call 18;(with_reducible refine (q4_Cups.calls a2 t776 _ A13.out).mono ?_);rintro e w' ⟨rfl,⟨nd,rfl⟩⟩))
      go_meet
      case rel => exact ⟨_,(!t776),(by first | rfl | (simp;done) | (simp [*];done)),H',⟨by first | omega | exact Nat.le_refl _⟩,⟨BK771.out⟩,⟨BK772.out⟩,⟨pw_below_drewN HB.out _⟩⟩
 case rest =>
  as_aux_lemma =>
   clear HC4
   obtain ⟨kq,x36_3,rfl,HA,HJ3,BK771,BK772,HB⟩ := hcut
   cases kq with
   | zero => exact absurd HA.out (by simp [l4_CastleLow.j0])
   | succ kj3 =>
    have H := HA.out
    clear HA
    simp only [l4_CastleLow.j0] at H
    by_cases c38 : x36_3 = true
    · subst c38
      replace H : ((l4_known.f).bind fun t777 => (some t777)) = some r := by rw [if_pos rfl] at H;exact H
      replace H := obm H
      obtain ⟨t777,A390,H⟩ := H
      replace H : (some t777) = some r := H
      have A39 := am A390
      clear A390
      obtain rfl := Option.some.inj H
      go_wp2_with (first | ((with_reducible refine gate_callee (f := 15) rfl ?_);refine goesL_ (some 37) rfl rfl Tryz.func15 (by kernel_rfl) rfl #[] rfl (by (try simp only [List.map_toArray,List.map_cons,List.map_nil]);first | done | rfl | (simp only [List.length_drop,List.length_take];rfl)) ?_;(with_reducible refine (l4_known.calls  t777 _ A39.out).mono ?_);rintro e w40 ⟨rfl,hb⟩;refine ⟨_,rfl,?_⟩;replace BK771 := (kmv hb BK771);replace BK772 := (kmv hb BK772);replace HB := am (below_step (HB.out) hb);(try clear hb);(try clear hb2);(try clear hk);(try clear hi)))
      go_ret
      exact ⟨by first | rfl | (simp [*] <;> rfl),HB.out⟩
    · as_aux_lemma =>
       replace c38 := Bool.eq_false_iff.mpr c38
       subst c38
       replace H : (if 0 ≤ a1_0 then (if a1_0 < (l0_2.length : Int) then ((ca_Gains.f kj3 l0_0 a0_1 l0_2 a0_3 a0_4 a1_0 a1_1 a2).bind fun bt780 => ((q4_With.f l0_0 a0_1 l0_2 a0_3 a0_4 a1_0 a1_1).bind fun t794 => ((ca_Gains.f kj3 l0_0 a0_1 t794 a0_3 a0_4 a1_0 ((rd_T64 l0_2 a1_0).f1) a2).bind fun bt797 => (if bt780.2.2 = 0 then (if bt797.2.2 = 0 then (if (bt780.1.length : Int) = (l0_2.length : Int) then (if (bt797.1.length : Int) = (l0_2.length : Int) then (if bt780.2.1 < (-10000) then (l4_CastleLow.j1 kj3 bt780.1 bt780.2.1 bt797.1 (l0_2.length : Int) true a1_0 a1_1 a1_0 ((rd_T64 l0_2 a1_0).f1)) else (if bt780.2.1 > 10000 then (l4_CastleLow.j1 kj3 bt780.1 bt780.2.1 bt797.1 (l0_2.length : Int) true a1_0 a1_1 a1_0 ((rd_T64 l0_2 a1_0).f1)) else (if bt797.2.1 < (-10000) then (l4_CastleLow.j1 kj3 bt780.1 bt780.2.1 bt797.1 (l0_2.length : Int) true a1_0 a1_1 a1_0 ((rd_T64 l0_2 a1_0).f1)) else (l4_CastleLow.j1 kj3 bt780.1 bt780.2.1 bt797.1 (l0_2.length : Int) (bt797.2.1 != (wrap64 (-bt780.2.1))) a1_0 a1_1 a1_0 ((rd_T64 l0_2 a1_0).f1))))) else (l4_CastleLow.j1 kj3 bt780.1 bt780.2.1 bt797.1 (l0_2.length : Int) true a1_0 a1_1 a1_0 ((rd_T64 l0_2 a1_0).f1))) else (l4_CastleLow.j1 kj3 bt780.1 bt780.2.1 bt797.1 (l0_2.length : Int) true a1_0 a1_1 a1_0 ((rd_T64 l0_2 a1_0).f1))) else (l4_CastleLow.j1 kj3 bt780.1 bt780.2.1 bt797.1 (l0_2.length : Int) true a1_0 a1_1 a1_0 ((rd_T64 l0_2 a1_0).f1))) else (l4_CastleLow.j1 kj3 bt780.1 bt780.2.1 bt797.1 (l0_2.length : Int) true a1_0 a1_1 a1_0 ((rd_T64 l0_2 a1_0).f1)))))) else (none)) else (none)) = some r := by rw [if_neg (show ¬ (false = true) by decide)] at H;exact H
       by_cases c41 : 0 ≤ a1_0
       case neg =>
        rw [if_neg c41] at H
        exact absurd H (by simp)
       as_aux_lemma =>
        rw [if_pos c41] at H
        have c41b0 : decide (0 ≤ a1_0) = true := decide_eq_true c41
        clear c41
        by_cases c42 : a1_0 < (l0_2.length : Int)
        case neg =>
         rw [if_neg c42] at H
         exact absurd H (by simp)
        as_aux_lemma =>
         rw [if_pos c42] at H
         have c42b0 : decide (a1_0 < (l0_2.length : Int)) = true := decide_eq_true c42
         clear c42
         replace H := obm H
         obtain ⟨⟨t780,t783,t784⟩,A430,H⟩ := H
         replace H : ((q4_With.f l0_0 a0_1 l0_2 a0_3 a0_4 a1_0 a1_1).bind fun t794 => ((ca_Gains.f kj3 l0_0 a0_1 t794 a0_3 a0_4 a1_0 ((rd_T64 l0_2 a1_0).f1) a2).bind fun bt797 => (if t784 = 0 then (if bt797.2.2 = 0 then (if (t780.length : Int) = (l0_2.length : Int) then (if (bt797.1.length : Int) = (l0_2.length : Int) then (if t783 < (-10000) then (l4_CastleLow.j1 kj3 t780 t783 bt797.1 (l0_2.length : Int) true a1_0 a1_1 a1_0 ((rd_T64 l0_2 a1_0).f1)) else (if t783 > 10000 then (l4_CastleLow.j1 kj3 t780 t783 bt797.1 (l0_2.length : Int) true a1_0 a1_1 a1_0 ((rd_T64 l0_2 a1_0).f1)) else (if bt797.2.1 < (-10000) then (l4_CastleLow.j1 kj3 t780 t783 bt797.1 (l0_2.length : Int) true a1_0 a1_1 a1_0 ((rd_T64 l0_2 a1_0).f1)) else (l4_CastleLow.j1 kj3 t780 t783 bt797.1 (l0_2.length : Int) (bt797.2.1 != (wrap64 (-t783))) a1_0 a1_1 a1_0 ((rd_T64 l0_2 a1_0).f1))))) else (l4_CastleLow.j1 kj3 t780 t783 bt797.1 (l0_2.length : Int) true a1_0 a1_1 a1_0 ((rd_T64 l0_2 a1_0).f1))) else (l4_CastleLow.j1 kj3 t780 t783 bt797.1 (l0_2.length : Int) true a1_0 a1_1 a1_0 ((rd_T64 l0_2 a1_0).f1))) else (l4_CastleLow.j1 kj3 t780 t783 bt797.1 (l0_2.length : Int) true a1_0 a1_1 a1_0 ((rd_T64 l0_2 a1_0).f1))) else (l4_CastleLow.j1 kj3 t780 t783 bt797.1 (l0_2.length : Int) true a1_0 a1_1 a1_0 ((rd_T64 l0_2 a1_0).f1))))) = some r := H
         have A43 := am A430
         clear A430
         replace H := obm H
         obtain ⟨t794,A440,H⟩ := H
         replace H : ((ca_Gains.f kj3 l0_0 a0_1 t794 a0_3 a0_4 a1_0 ((rd_T64 l0_2 a1_0).f1) a2).bind fun bt797 => (if t784 = 0 then (if bt797.2.2 = 0 then (if (t780.length : Int) = (l0_2.length : Int) then (if (bt797.1.length : Int) = (l0_2.length : Int) then (if t783 < (-10000) then (l4_CastleLow.j1 kj3 t780 t783 bt797.1 (l0_2.length : Int) true a1_0 a1_1 a1_0 ((rd_T64 l0_2 a1_0).f1)) else (if t783 > 10000 then (l4_CastleLow.j1 kj3 t780 t783 bt797.1 (l0_2.length : Int) true a1_0 a1_1 a1_0 ((rd_T64 l0_2 a1_0).f1)) else (if bt797.2.1 < (-10000) then (l4_CastleLow.j1 kj3 t780 t783 bt797.1 (l0_2.length : Int) true a1_0 a1_1 a1_0 ((rd_T64 l0_2 a1_0).f1)) else (l4_CastleLow.j1 kj3 t780 t783 bt797.1 (l0_2.length : Int) (bt797.2.1 != (wrap64 (-t783))) a1_0 a1_1 a1_0 ((rd_T64 l0_2 a1_0).f1))))) else (l4_CastleLow.j1 kj3 t780 t783 bt797.1 (l0_2.length : Int) true a1_0 a1_1 a1_0 ((rd_T64 l0_2 a1_0).f1))) else (l4_CastleLow.j1 kj3 t780 t783 bt797.1 (l0_2.length : Int) true a1_0 a1_1 a1_0 ((rd_T64 l0_2 a1_0).f1))) else (l4_CastleLow.j1 kj3 t780 t783 bt797.1 (l0_2.length : Int) true a1_0 a1_1 a1_0 ((rd_T64 l0_2 a1_0).f1))) else (l4_CastleLow.j1 kj3 t780 t783 bt797.1 (l0_2.length : Int) true a1_0 a1_1 a1_0 ((rd_T64 l0_2 a1_0).f1)))) = some r := H
         have A44 := am A440
         clear A440
         replace H := obm H
         obtain ⟨⟨t797,t800,t801⟩,A450,H⟩ := H
         replace H : (if t784 = 0 then (if t801 = 0 then (if (t780.length : Int) = (l0_2.length : Int) then (if (t797.length : Int) = (l0_2.length : Int) then (if t783 < (-10000) then (l4_CastleLow.j1 kj3 t780 t783 t797 (l0_2.length : Int) true a1_0 a1_1 a1_0 ((rd_T64 l0_2 a1_0).f1)) else (if t783 > 10000 then (l4_CastleLow.j1 kj3 t780 t783 t797 (l0_2.length : Int) true a1_0 a1_1 a1_0 ((rd_T64 l0_2 a1_0).f1)) else (if t800 < (-10000) then (l4_CastleLow.j1 kj3 t780 t783 t797 (l0_2.length : Int) true a1_0 a1_1 a1_0 ((rd_T64 l0_2 a1_0).f1)) else (l4_CastleLow.j1 kj3 t780 t783 t797 (l0_2.length : Int) (t800 != (wrap64 (-t783))) a1_0 a1_1 a1_0 ((rd_T64 l0_2 a1_0).f1))))) else (l4_CastleLow.j1 kj3 t780 t783 t797 (l0_2.length : Int) true a1_0 a1_1 a1_0 ((rd_T64 l0_2 a1_0).f1))) else (l4_CastleLow.j1 kj3 t780 t783 t797 (l0_2.length : Int) true a1_0 a1_1 a1_0 ((rd_T64 l0_2 a1_0).f1))) else (l4_CastleLow.j1 kj3 t780 t783 t797 (l0_2.length : Int) true a1_0 a1_1 a1_0 ((rd_T64 l0_2 a1_0).f1))) else (l4_CastleLow.j1 kj3 t780 t783 t797 (l0_2.length : Int) true a1_0 a1_1 a1_0 ((rd_T64 l0_2 a1_0).f1))) = some r := H
         have A45 := am A450
         clear A450
         have HC46 := am H
         clear H
         try go_wp2
         replace BK771 := am (blk_drew BK771.out)
         replace BK772 := am (blk_drew BK772.out)
         replace HB := am (below_drew1 HB.out)
         have p778 : 0 ≤ (a1_0 : Int) := of_decide_eq_true (by assumption)
         have q778 : a1_0 < (l0_2.length : Int) := of_decide_eq_true (by assumption)
         obtain ⟨ad778,e778,hx778_0,hx778_1⟩ := at_T64 HR0_2.out a1_0 p778 q778
         have hw778_1 := hx778_1
         have hw778_0 := hx778_0
         cases e778
         replace hx778_0 := (HB.out.cell (wbl hx778_0)).trans hx778_0
         replace hx778_1 := (HB.out.cell (wbl hx778_1)).trans hx778_1
         replace p778 := eq_true p778
         replace q778 := eq_true q778
         refine start_ (n := 12) (S := fun w' => w'.cell? ⟨gb772,0,none⟩ = some (.int .i64 a1_0) ∧ w'.cell? ⟨gb772,1,none⟩ = some (.int .i64 a1_1) ∧ w'.cell? ⟨gb771,0,none⟩ = some (.slice A0_0 l0_0.length c0_0) ∧ w'.cell? ⟨gb771,1,none⟩ = some (.int .i64 a0_1) ∧ w'.cell? ⟨gb771,2,none⟩ = some (.slice (some ad778) l0_2.length c0_2) ∧ w'.cell? ⟨gb771,3,none⟩ = some (.int .i64 a0_3) ∧ w'.cell? ⟨gb771,4,none⟩ = some (.int .i64 a0_4) ∧ w'.cell? (ad778.add ((a1_0).toNat * 2)) = some (.int .i64 ((rd_T64 l0_2 a1_0).f0)) ∧ w'.cell? ⟨(ad778.add ((a1_0).toNat * 2)).block,(ad778.add ((a1_0).toNat * 2)).off + 1,none⟩ = some (.int .i64 ((rd_T64 l0_2 a1_0).f1))) (ds := []) (ba 12 0) (by kernel_rfl) rfl rfl ⟨(blk_cell BK772.out 0).trans rfl,(blk_cell BK772.out 1).trans rfl,(blk_cell BK771.out 0).trans rfl,(blk_cell BK771.out 1).trans rfl,(blk_cell BK771.out 2).trans rfl,(blk_cell BK771.out 3).trans rfl,(blk_cell BK771.out 4).trans rfl,((HB.out.cell (wbl hw778_0)).trans hw778_0),((HB.out.cell (wbl hw778_1)).trans hw778_1)⟩ (fun hHeld => ?_);refine with_tabW l4_CastleLow.tab3 l4_CastleLow.bits3 (fun HT_ HW_ => ?_)
         generalize wc.drew = w47 at BK771 BK772 HB hx778_0 hx778_1 hHeld ⊢
         refine pure_ (i := 0) (N := some 38) (v := ?_) (a' := ?_) (ba 12 1) rfl rfl (any_of HT_.out (by kernel_rfl)) (fun _ _ _ h => h) (Or.inl ⟨by rfl,?_⟩) ?_ ?_
         rotate_left
         · intro w'
           go_simp
           with_reducible rfl
         rotate_left
         · simp only [Act.put,NRM]
           rfl
         refine pure_ (i := 2) (N := some 40) (v := ?_) (a' := ?_) (ba 12 5) rfl rfl (any_of HT_.out (by kernel_rfl)) (fun _ _ _ h => h) (Or.inl ⟨by rfl,?_⟩) ?_ ?_
         rotate_left
         · intro w'
           go_simp
           with_reducible rfl
         rotate_left
         · simp only [Act.put,NRM]
           rfl
         refine pure_ (i := 4) (N := some 42) (v := ?_) (a' := ?_) (ba 12 21) rfl rfl (any_of HT_.out (by kernel_rfl)) (fun _ _ _ h => h) (Or.inl ⟨by rfl,?_⟩) ?_ ?_
         rotate_left
         · intro w'
           go_simp
           with_reducible rfl
         rotate_left
         · simp only [Act.put,NRM]
           rfl
         refine take_ (i := 1) (N := some 39) (v := ?_) (a' := ?_) (ba 12 23) rfl rfl (take_ofW HT_.out HW_.out (by kernel_rfl)) (fun _ _ _ h => h) (Or.inl ⟨by rfl,?_⟩) hHeld ?_ ?_
         rotate_left
         · rintro w' ⟨s0,s1,s2,s3,s4,s5,s6,s7,s8⟩
           go_simp
           with_reducible rfl
         rotate_left
         · simp only [Act.put,NRM]
           rfl
         refine take_ (i := 3) (N := some 41) (v := ?_) (a' := ?_) (ba 12 31) rfl rfl (take_ofW HT_.out HW_.out (by kernel_rfl)) (fun _ _ _ h => h) (Or.inl ⟨by rfl,?_⟩) hHeld ?_ ?_
         rotate_left
         · rintro w' ⟨s0,s1,s2,s3,s4,s5,s6,s7,s8⟩
           go_simp
           with_reducible rfl
         rotate_left
         · simp only [Act.put,NRM]
           rfl
         refine take_ (i := 5) (N := some 43) (v := ?_) (a' := ?_) (ba 12 63) rfl rfl (take_ofW HT_.out HW_.out (by kernel_rfl)) (fun _ _ _ h => h) (Or.inl ⟨by rfl,?_⟩) hHeld ?_ ?_
         rotate_left
         · rintro w' ⟨s0,s1,s2,s3,s4,s5,s6,s7,s8⟩
           go_simp
           with_reducible rfl
         rotate_left
         · simp only [Act.put,NRM]
           rfl
         refine pure_ (i := 6) (N := some 44) (v := ?_) (a' := ?_) (ba 12 127) rfl rfl (any_of HT_.out (by kernel_rfl)) (fun _ _ _ h => h) (Or.inl ⟨by rfl,?_⟩) ?_ ?_
         rotate_left
         · intro w'
           go_simp
           with_reducible rfl
         rotate_left
         · simp only [Act.put,NRM]
           rfl
         refine pure_ (i := 7) (N := some 45) (v := ?_) (a' := ?_) (ba 12 255) rfl rfl (any_of HT_.out (by kernel_rfl)) (fun _ _ _ h => h) (Or.inl ⟨by rfl,?_⟩) ?_ ?_
         rotate_left
         · intro w'
           go_simp
           with_reducible rfl
         rotate_left
         · simp only [Act.put,NRM]
           rfl
         refine take_ (i := 8) (N := some 46) (v := ?_) (a' := ?_) (ba 12 511) rfl rfl (take_ofW HT_.out HW_.out (by kernel_rfl)) (fun _ _ _ h => h) (Or.inl ⟨by rfl,?_⟩) hHeld ?_ ?_
         rotate_left
         · rintro w' ⟨s0,s1,s2,s3,s4,s5,s6,s7,s8⟩
           go_simp
           with_reducible rfl
         rotate_left
         · simp only [Act.put,NRM]
           rfl
         refine pure_ (i := 9) (N := some 47) (v := ?_) (a' := ?_) (ba 12 1023) rfl rfl (any_of HT_.out (by kernel_rfl)) (fun _ _ _ h => h) (Or.inl ⟨by rfl,?_⟩) ?_ ?_
         rotate_left
         · intro w'
           go_simp
           with_reducible rfl
         rotate_left
         · simp only [Act.put,NRM]
           rfl
         refine one_ (i := 10) (N := some 7) (ba 12 2047) rfl rfl (one_of HT_.out (by kernel_rfl)) (by decide) (fun K hK => ?_)
         refine box_step ?hg (N := 7) ?hd (cs := #[.int .i64 0,.int .i64 0]) (t := 58) ?hr ?_;(case hd => rfl);(case hg => rfl);(case hr => go_simp;try rfl)
         intro gb779 hg w48 hbox hb
         have BK779 := am (hbox)
         have GW779 := am (ge_new (HB.out) hg)
         have GE779 := am (ge_new (HB.out) hg)
         have NB771_779 := am (ne_new BK771.out hg)
         have NB779_771 := am (ne_new2 BK771.out hg)
         have NB772_779 := am (ne_new BK772.out hg)
         have NB779_772 := am (ne_new2 BK772.out hg)
         replace BK771 := (kmv hb BK771)
         replace BK772 := (kmv hb BK772)
         replace HB := am (below_step (HB.out) hb)
         clear hb hbox hg
         refine hK.out _ _ ⟨(blk_cell BK772.out 0).trans rfl,(blk_cell BK772.out 1).trans rfl,(blk_cell BK771.out 0).trans rfl,(blk_cell BK771.out 1).trans rfl,(blk_cell BK771.out 2).trans rfl,(blk_cell BK771.out 3).trans rfl,(blk_cell BK771.out 4).trans rfl,((HB.out.cell (wbl hw778_0)).trans hw778_0),((HB.out.cell (wbl hw778_1)).trans hw778_1)⟩ (fun hHeld => ?_)
         clear hK K
         refine norm_ (a' := ?_) ?_ ?_
         rotate_left
         · show Act.put _ (some 7) _ = _
           simp only [Act.put,NRM]
           rfl
         refine one_ (i := 11) (N := none) (ba 12 4095) rfl rfl (one_of HT_.out (by kernel_rfl)) (by decide) (fun K hK => ?_)
         have hs49 := cO1 BK779.out
         have hfs49 := blk_frozen BK779.out 0
         have hns49_0 := NB771_779.out
         have hns49_1 := NB772_779.out
         have hms49_0 := NB779_771.out
         have hms49_1 := NB779_772.out
         have hs50 : w48.cell? ⟨gb779,1,none⟩ = some (.int .i64 0) := (blk_cell BK779.out 1).trans rfl
         have hfs50 := blk_frozen BK779.out 1
         have hns50_0 := NB771_779.out
         have hns50_1 := NB772_779.out
         have hms50_0 := NB779_771.out
         have hms50_1 := NB779_772.out
         refine skip_ (w1 := ?_) (by rfl) rfl ?_ ?_
         rotate_left
         · go_simp
           rfl
         refine hK.out _ _ ⟨((cell_far (p := ⟨gb779,_,none⟩) NB772_779.out _).trans (((cell_far (p := ⟨gb779,_,none⟩) NB772_779.out _).trans (hHeld.1)))),((cell_far (p := ⟨gb779,_,none⟩) NB772_779.out _).trans (((cell_far (p := ⟨gb779,_,none⟩) NB772_779.out _).trans (hHeld.2.1)))),((cell_far (p := ⟨gb779,_,none⟩) NB771_779.out _).trans (((cell_far (p := ⟨gb779,_,none⟩) NB771_779.out _).trans (hHeld.2.2.1)))),((cell_far (p := ⟨gb779,_,none⟩) NB771_779.out _).trans (((cell_far (p := ⟨gb779,_,none⟩) NB771_779.out _).trans (hHeld.2.2.2.1)))),((cell_far (p := ⟨gb779,_,none⟩) NB771_779.out _).trans (((cell_far (p := ⟨gb779,_,none⟩) NB771_779.out _).trans (hHeld.2.2.2.2.1)))),((cell_far (p := ⟨gb779,_,none⟩) NB771_779.out _).trans (((cell_far (p := ⟨gb779,_,none⟩) NB771_779.out _).trans (hHeld.2.2.2.2.2.1)))),((cell_far (p := ⟨gb779,_,none⟩) NB771_779.out _).trans (((cell_far (p := ⟨gb779,_,none⟩) NB771_779.out _).trans (hHeld.2.2.2.2.2.2.1)))),((cell_far (p := ⟨gb779,_,none⟩) (by first | exact Nat.ne_of_lt (Nat.lt_of_lt_of_le (by have := World.block_lt_of_cell? _ _ hw778_0;first | rwa [add_block] at this | exact this) GW779.out) | (rw [add_block];exact Nat.ne_of_lt (Nat.lt_of_lt_of_le (by have := World.block_lt_of_cell? _ _ hw778_0;first | rwa [add_block] at this | exact this) GW779.out)) | (show (Addr.add _ _).block ≠ _;rw [add_block];exact Nat.ne_of_lt (Nat.lt_of_lt_of_le (by have := World.block_lt_of_cell? _ _ hw778_0;first | rwa [add_block] at this | exact this) GW779.out)) | (dsimp only;exact Nat.ne_of_lt (Nat.lt_of_lt_of_le (by have := World.block_lt_of_cell? _ _ hw778_0;first | rwa [add_block] at this | exact this) GW779.out))) _).trans (((cell_far (p := ⟨gb779,_,none⟩) (by first | exact Nat.ne_of_lt (Nat.lt_of_lt_of_le (by have := World.block_lt_of_cell? _ _ hw778_0;first | rwa [add_block] at this | exact this) GW779.out) | (rw [add_block];exact Nat.ne_of_lt (Nat.lt_of_lt_of_le (by have := World.block_lt_of_cell? _ _ hw778_0;first | rwa [add_block] at this | exact this) GW779.out)) | (show (Addr.add _ _).block ≠ _;rw [add_block];exact Nat.ne_of_lt (Nat.lt_of_lt_of_le (by have := World.block_lt_of_cell? _ _ hw778_0;first | rwa [add_block] at this | exact this) GW779.out)) | (dsimp only;exact Nat.ne_of_lt (Nat.lt_of_lt_of_le (by have := World.block_lt_of_cell? _ _ hw778_0;first | rwa [add_block] at this | exact this) GW779.out))) _).trans (hHeld.2.2.2.2.2.2.2.1)))),((cell_far (p := ⟨gb779,_,none⟩) (by first | exact Nat.ne_of_lt (Nat.lt_of_lt_of_le (by have := World.block_lt_of_cell? _ _ hw778_1;first | rwa [add_block] at this | exact this) GW779.out) | (rw [add_block];exact Nat.ne_of_lt (Nat.lt_of_lt_of_le (by have := World.block_lt_of_cell? _ _ hw778_1;first | rwa [add_block] at this | exact this) GW779.out)) | (show (Addr.add _ _).block ≠ _;rw [add_block];exact Nat.ne_of_lt (Nat.lt_of_lt_of_le (by have := World.block_lt_of_cell? _ _ hw778_1;first | rwa [add_block] at this | exact this) GW779.out)) | (dsimp only;exact Nat.ne_of_lt (Nat.lt_of_lt_of_le (by have := World.block_lt_of_cell? _ _ hw778_1;first | rwa [add_block] at this | exact this) GW779.out))) _).trans (((cell_far (p := ⟨gb779,_,none⟩) (by first | exact Nat.ne_of_lt (Nat.lt_of_lt_of_le (by have := World.block_lt_of_cell? _ _ hw778_1;first | rwa [add_block] at this | exact this) GW779.out) | (rw [add_block];exact Nat.ne_of_lt (Nat.lt_of_lt_of_le (by have := World.block_lt_of_cell? _ _ hw778_1;first | rwa [add_block] at this | exact this) GW779.out)) | (show (Addr.add _ _).block ≠ _;rw [add_block];exact Nat.ne_of_lt (Nat.lt_of_lt_of_le (by have := World.block_lt_of_cell? _ _ hw778_1;first | rwa [add_block] at this | exact this) GW779.out)) | (dsimp only;exact Nat.ne_of_lt (Nat.lt_of_lt_of_le (by have := World.block_lt_of_cell? _ _ hw778_1;first | rwa [add_block] at this | exact this) GW779.out))) _).trans (hHeld.2.2.2.2.2.2.2.2))))⟩ (fun hHeld => ?_)
         clear hK K
         refine done_ (done_of HT_.out (by kernel_rfl)) ?_
         have hnb51 := NB771_772.out
         have hnc51 := NB772_771.out
         have hnb52 := NB771_779.out
         have hnc52 := NB779_771.out
         obtain ⟨hcz53_0,hcz53_1,hcz53_2,hcz53_3,hcz53_4⟩ := cO5 BK771.out
         have hnb54 := NB772_779.out
         have hnc54 := NB779_772.out
         obtain ⟨hcz55_0,hcz55_1⟩ := cO2 BK772.out
         try go_wp2_with (first | ((with_reducible refine gate_callee (f := 33) rfl ?_);refine goesL_ (some 52) rfl rfl Tryz.func33 (by kernel_rfl) rfl #[.agg #[.slice A0_0 l0_0.length c0_0,.int .i64 a0_1,.slice (some ad778) l0_2.length c0_2,.int .i64 a0_3,.int .i64 a0_4],.agg #[.int .i64 a1_0,.int .i64 a1_1],.int .i64 a2] rfl (by (try simp only [List.map_toArray,List.map_cons,List.map_nil]);first | done | rfl | (simp only [List.length_drop,List.length_take];rfl)) ?_;(with_reducible refine (ca_Gains.calls kj3 _ _ l0_0 a0_1 _ _ l0_2 a0_3 a0_4 a1_0 a1_1 a2 t780 t783 t784 _ ?side1 ?side2 ?side3 ?side4 A43.out).mono ?_);(case side1 => exact kC HR0_0.out (by repeat (first | (with_reducible first | exact HB.out | refine below_set ?_ (Aside0.out (by assumption)) | apply below_alloc | apply pw_below_drewN) | exact HB.out)));(case side2 => exact HC0_0.out);(case side3 => exact kC HR0_2.out (by repeat (first | (with_reducible first | exact HB.out | refine below_set ?_ (Aside0.out (by assumption)) | apply below_alloc | apply pw_below_drewN) | exact HB.out)));(case side4 => exact HC0_2.out);rintro e w56 ⟨v781,rfl,ho0,hb⟩;refine ⟨_,rfl,?_⟩;have HO782 := am (Kd.R_lower ho0 (below_size (by repeat (first | (with_reducible first | exact HB.out | refine below_set ?_ (Aside0.out (by assumption)) | apply below_alloc | apply pw_below_drewN) | exact HB.out))));replace BK771 := am (blk_below (blk_far (blk_far BK771.out NB771_779.out _) NB771_779.out _) hb);replace BK772 := am (blk_below (blk_far (blk_far BK772.out NB772_779.out _) NB772_779.out _) hb);replace BK779 := am (blk_below (blk_put (cs := #[.int .i64 a1_0,.int .i64 0]) (blk_put (cs := #[.int .i64 0,.int .i64 0]) BK779.out 0 _ rfl) 1 _ rfl) hb);replace HB := am (below_step (by repeat (first | (with_reducible first | exact HB.out | refine below_set ?_ (Aside0.out (by assumption)) | apply below_alloc | apply pw_below_drewN) | exact HB.out)) hb);(try clear hb);(try clear hb2);(try clear hk);(try clear hi);(try clear ho0)))
         replace HO782 := am (Kd.R_drew HO782.out)
         replace BK771 := am (blk_drew BK771.out)
         replace BK772 := am (blk_drew BK772.out)
         replace BK779 := am (blk_drew BK779.out)
         replace HB := am (below_drew1 HB.out)
         refine start_ (n := 13) (S := fun w' => w'.cell? ⟨gb771,0,none⟩ = some (.slice A0_0 l0_0.length c0_0) ∧ w'.cell? ⟨gb771,1,none⟩ = some (.int .i64 a0_1) ∧ w'.cell? ⟨gb771,2,none⟩ = some (.slice (some ad778) l0_2.length c0_2) ∧ w'.cell? ⟨gb771,3,none⟩ = some (.int .i64 a0_3) ∧ w'.cell? ⟨gb771,4,none⟩ = some (.int .i64 a0_4) ∧ w'.cell? ⟨gb772,0,none⟩ = some (.int .i64 a1_0) ∧ w'.cell? ⟨gb772,1,none⟩ = some (.int .i64 a1_1) ∧ w'.cell? ⟨gb779,0,none⟩ = some (.int .i64 a1_0) ∧ w'.cell? ⟨gb779,1,none⟩ = some (.int .i64 ((rd_T64 l0_2 a1_0).f1))) (ds := []) (ba 13 0) (by kernel_rfl) rfl rfl ⟨(blk_cell BK771.out 0).trans rfl,(blk_cell BK771.out 1).trans rfl,(blk_cell BK771.out 2).trans rfl,(blk_cell BK771.out 3).trans rfl,(blk_cell BK771.out 4).trans rfl,(blk_cell BK772.out 0).trans rfl,(blk_cell BK772.out 1).trans rfl,(blk_cell BK779.out 0).trans rfl,(blk_cell BK779.out 1).trans rfl⟩ (fun hHeld => ?_);refine with_tabW l4_CastleLow.tab5 l4_CastleLow.bits5 (fun HT_ HW_ => ?_)
         generalize w56.drew = w57 at HO782 BK771 BK772 BK779 HB hHeld ⊢
         refine pure_ (i := 4) (N := some 61) (v := ?_) (a' := ?_) (ba 13 16) rfl rfl (any_of HT_.out (by kernel_rfl)) (fun _ _ _ h => h) (Or.inl ⟨by rfl,?_⟩) ?_ ?_
         rotate_left
         · intro w'
           go_simp
           with_reducible rfl
         rotate_left
         · simp only [Act.put,NRM]
           rfl
         refine take_ (i := 0) (N := some 57) (v := ?_) (a' := ?_) (ba 13 17) rfl rfl (take_ofW HT_.out HW_.out (by kernel_rfl)) (fun _ _ _ h => h) (Or.inl ⟨by rfl,?_⟩) hHeld ?_ ?_
         rotate_left
         · rintro w' ⟨s0,s1,s2,s3,s4,s5,s6,s7,s8⟩
           go_simp
           with_reducible rfl
         rotate_left
         · simp only [Act.put,NRM]
           rfl
         refine take_ (i := 1) (N := some 58) (v := ?_) (a' := ?_) (ba 13 19) rfl rfl (take_ofW HT_.out HW_.out (by kernel_rfl)) (fun _ _ _ h => h) (Or.inl ⟨by rfl,?_⟩) hHeld ?_ ?_
         rotate_left
         · rintro w' ⟨s0,s1,s2,s3,s4,s5,s6,s7,s8⟩
           go_simp
           with_reducible rfl
         rotate_left
         · simp only [Act.put,NRM]
           rfl
         refine take_ (i := 3) (N := some 60) (v := ?_) (a' := ?_) (ba 13 27) rfl rfl (take_ofW HT_.out HW_.out (by kernel_rfl)) (fun _ _ _ h => h) (Or.inl ⟨by rfl,?_⟩) hHeld ?_ ?_
         rotate_left
         · rintro w' ⟨s0,s1,s2,s3,s4,s5,s6,s7,s8⟩
           go_simp
           with_reducible rfl
         rotate_left
         · simp only [Act.put,NRM]
           rfl
         refine one_ (i := 2) (N := some 59) (ba 13 31) rfl rfl (one_of HT_.out (by kernel_rfl)) (by decide) (fun K hK => ?_)
         refine goes_ Tryz.func36 (by kernel_rfl) rfl #[.agg #[.slice A0_0 l0_0.length c0_0,.int .i64 a0_1,.slice (some ad778) l0_2.length c0_2,.int .i64 a0_3,.int .i64 a0_4],.agg #[.int .i64 a1_0,.int .i64 a1_1]] (by rfl) rfl rfl (by (try simp only [List.map_toArray,List.map_cons,List.map_nil]);first | done | rfl | (simp only [List.length_drop,List.length_take];rfl)) ?_
         with_reducible refine (q4_With.calls _ _ l0_0 a0_1 _ _ l0_2 a0_3 a0_4 a1_0 a1_1 t794 _ ?side1 ?side2 ?side3 ?side4 A44.out).mono ?_
         (case side1 => exact kC HR0_0.out HB.out)
         (case side2 => exact HC0_0.out)
         (case side3 => exact kC HR0_2.out HB.out)
         (case side4 => exact HC0_2.out)
         rintro e w58 ⟨v795,rfl,ho0,hb⟩
         refine ⟨_,rfl,?_⟩
         have HO796 := am (Kd.R_lower ho0 (below_size (HB.out)))
         replace HO782 := am (Kd.R_below HO782.out hb)
         replace BK771 := (kmv hb BK771)
         replace BK772 := (kmv hb BK772)
         replace BK779 := (kmv hb BK779)
         replace HB := am (below_step (HB.out) hb)
         (try clear hb)
         (try clear hb2)
         (try clear hk)
         (try clear hi)
         (try clear ho0)
         obtain ⟨Ao59,co59,eo59⟩ := Kd.R_slice HO796.out
         (first | subst eo59 | (injection eo59 with f1_ f2_ f3_;have f4_ := f1_.symm;have f5_ := f3_.symm;clear f1_ f2_ f3_;subst f4_;subst f5_))
         refine hK.out _ _ ⟨(blk_cell BK771.out 0).trans rfl,(blk_cell BK771.out 1).trans rfl,(blk_cell BK771.out 2).trans rfl,(blk_cell BK771.out 3).trans rfl,(blk_cell BK771.out 4).trans rfl,(blk_cell BK772.out 0).trans rfl,(blk_cell BK772.out 1).trans rfl,(blk_cell BK779.out 0).trans rfl,(blk_cell BK779.out 1).trans rfl⟩ (fun hHeld => ?_)
         clear hK K
         refine norm_ (a' := ?_) ?_ ?_
         rotate_left
         · show Act.put _ (some 59) _ = _
           simp only [Act.put,NRM]
           rfl
         refine one_ (i := 5) (N := some 62) (ba 13 63) rfl rfl (one_of HT_.out (by kernel_rfl)) (by decide) (fun K hK => ?_)
         refine goes_ Tryz.func33 (by kernel_rfl) rfl #[.agg #[.slice A0_0 l0_0.length c0_0,.int .i64 a0_1,.slice Ao59 t794.length co59,.int .i64 a0_3,.int .i64 a0_4],.agg #[.int .i64 a1_0,.int .i64 ((rd_T64 l0_2 a1_0).f1)],.int .i64 a2] (by rfl) rfl rfl (by (try simp only [List.map_toArray,List.map_cons,List.map_nil]);first | done | rfl | (simp only [List.length_drop,List.length_take];rfl)) ?_
         with_reducible refine (ca_Gains.calls kj3 _ _ l0_0 a0_1 _ _ t794 a0_3 a0_4 a1_0 ((rd_T64 l0_2 a1_0).f1) a2 t797 t800 t801 _ ?side1 ?side2 ?side3 ?side4 A45.out).mono ?_
         (case side1 => exact kC HR0_0.out HB.out)
         (case side2 => exact HC0_0.out)
         (case side3 => repeat (first | exact (Kd.R_reads' HO796.out).2.2 | (with_reducible refine Kd.C_alloc ?_ _) | (with_reducible refine Kd.C_drewN ?_ _) | (with_reducible refine Kd.C_drew ?_)))
         (case side4 => exact (Kd.R_reads' HO796.out).2.1)
         rintro e w60 ⟨v798,rfl,ho0,hb⟩
         refine ⟨_,rfl,?_⟩
         have HO799 := am (Kd.R_lower (Kd.R_new' ho0 (Kd.R_lt HO782.out)) (below_size (HB.out)))
         replace HO782 := am (Kd.R_elder' HO782.out (Kd.R_base ho0) hb)
         replace HO796 := am (Kd.R_below HO796.out hb)
         replace BK771 := (kmv hb BK771)
         replace BK772 := (kmv hb BK772)
         replace BK779 := (kmv hb BK779)
         replace HB := am (below_step (HB.out) hb)
         (try clear hb)
         (try clear hb2)
         (try clear hk)
         (try clear hi)
         (try clear ho0)
         refine hK.out _ _ ⟨(blk_cell BK771.out 0).trans rfl,(blk_cell BK771.out 1).trans rfl,(blk_cell BK771.out 2).trans rfl,(blk_cell BK771.out 3).trans rfl,(blk_cell BK771.out 4).trans rfl,(blk_cell BK772.out 0).trans rfl,(blk_cell BK772.out 1).trans rfl,(blk_cell BK779.out 0).trans rfl,(blk_cell BK779.out 1).trans rfl⟩ (fun hHeld => ?_)
         clear hK K
         refine norm_ (a' := ?_) ?_ ?_
         rotate_left
         · show Act.put _ (some 62) _ = _
           simp only [Act.put,NRM]
           rfl
         refine pure_ (i := 6) (N := some 56) (v := ?_) (a' := ?_) (ba 13 127) rfl rfl (any_of HT_.out (by kernel_rfl)) (fun _ _ _ h => h) (Or.inl ⟨by rfl,?_⟩) ?_ ?_
         rotate_left
         · intro w'
           go_simp
           with_reducible rfl
         rotate_left
         · simp only [Act.put,NRM]
           rfl
         refine pure_ (i := 7) (N := some 63) (v := ?_) (a' := ?_) (ba 13 255) rfl rfl (any_of HT_.out (by kernel_rfl)) (fun _ _ _ h => h) (Or.inl ⟨by rfl,?_⟩) ?_ ?_
         rotate_left
         · intro w'
           go_simp
           with_reducible rfl
         rotate_left
         · simp only [Act.put,NRM]
           rfl
         refine pure_ (i := 8) (N := some 64) (v := ?_) (a' := ?_) (ba 13 511) rfl rfl (any_of HT_.out (by kernel_rfl)) (fun _ _ _ h => h) (Or.inl ⟨by rfl,?_⟩) ?_ ?_
         rotate_left
         · intro w'
           go_simp
           with_reducible rfl
         rotate_left
         · simp only [Act.put,NRM]
           rfl
         refine pure_ (i := 9) (N := some 65) (v := ?_) (a' := ?_) (ba 13 1023) rfl rfl (any_of HT_.out (by kernel_rfl)) (fun _ _ _ h => h) (Or.inl ⟨by rfl,?_⟩) ?_ ?_
         rotate_left
         · intro w'
           go_simp
           with_reducible rfl
         rotate_left
         · simp only [Act.put,NRM]
           rfl
         refine pure_ (i := 10) (N := some 11) (v := ?_) (a' := ?_) (ba 13 2047) rfl rfl (any_of HT_.out (by kernel_rfl)) (fun _ _ _ h => h) (Or.inl ⟨by rfl,?_⟩) ?_ ?_
         rotate_left
         · intro w'
           go_simp
           with_reducible rfl
         rotate_left
         · simp only [Act.put,NRM]
           rfl
         refine pure_ (i := 11) (N := some 12) (v := ?_) (a' := ?_) (ba 13 4095) rfl rfl (any_of HT_.out (by kernel_rfl)) (fun _ _ _ h => h) (Or.inl ⟨by rfl,?_⟩) ?_ ?_
         rotate_left
         · intro w'
           go_simp
           with_reducible rfl
         rotate_left
         · simp only [Act.put,NRM]
           rfl
         refine pure_ (i := 12) (N := some 13) (v := ?_) (a' := ?_) (ba 13 8191) rfl rfl (any_of HT_.out (by kernel_rfl)) (fun _ _ _ h => h) (Or.inl ⟨by rfl,?_⟩) ?_ ?_
         rotate_left
         · intro w'
           go_simp
           with_reducible rfl
         rotate_left
         · simp only [Act.put,NRM]
           rfl
         refine done_ (done_of HT_.out (by kernel_rfl)) ?_
         obtain ⟨hcz61_0,hcz61_1,hcz61_2,hcz61_3,hcz61_4⟩ := cO5 BK771.out
         go_upto_region 7 with (fail)
         go_cut [104] (fun v104 wc => ∃ (kq : Nat) (x104_45 : Bool),v104 = .bool x104_45 ∧ Aside0 (l4_CastleLow.j1 kq t780 t783 t797 (l0_2.length : Int) x104_45 a1_0 a1_1 a1_0 ((rd_T64 l0_2 a1_0).f1) = some r) ∧ Aside0 (kq ≤ kj3) ∧ Aside0 (Kd.R (Kd.int .i64) 3 wc w.heap.size (fun k_ => some k_ ≠ (v798 : Value).ownBlock) v781 t780) ∧ Aside0 (Kd.R (Kd.int .i64) 3 wc w.heap.size (fun k_ => some k_ ≠ (v781 : Value).ownBlock) v798 t797) ∧ Aside0 (wc.heap[gb771]? = some (.cells #[(.slice A0_0 l0_0.length c0_0),.int .i64 a0_1,(.slice (some ad778) l0_2.length c0_2),.int .i64 a0_3,.int .i64 a0_4] 27 (0,0))) ∧ Aside0 (wc.heap[gb772]? = some (.cells #[.int .i64 a1_0,.int .i64 a1_1] 58 (0,0))) ∧ Aside0 (wc.heap[gb779]? = some (.cells #[.int .i64 a1_0,.int .i64 ((rd_T64 l0_2 a1_0).f1)] 58 (0,0))) ∧ Aside0 (Below w.heap.size w wc))
         case first =>
          as_aux_lemma =>
           have H := HC46.out
           clear HC46
           by_cases c62 : t784 = 0
           case neg =>
            rw [if_neg c62] at H
            have c62b0 : (t784 == 0) = false := beq_eq_false_iff_ne.mpr c62
            have c62b1 : (t784 != 0) = true := bne_iff_ne.mpr c62
            (first | rw [c62b0] | (simp only [i64_w,i32_w];rw [c62b0]) | skip)
            replace H' := am H
            go_wp2
            go_meet
            case rel => exact ⟨_,(true),(by first | rfl | (simp;done) | (simp [*];done)),H',⟨by have := HJ3.out;first | omega | exact Nat.le_refl _⟩,⟨by (with_reducible repeat (first | apply Kd.R_alloc | apply Kd.R_drewN | apply Kd.R_drew));exact Kd.R_mono HO782.out (fun _ hk => hk.2)⟩,⟨by (with_reducible repeat (first | apply Kd.R_alloc | apply Kd.R_drewN | apply Kd.R_drew));exact Kd.R_mono HO799.out (fun _ hk => hk.2)⟩,⟨BK771.out⟩,⟨BK772.out⟩,⟨BK779.out⟩,⟨HB.out⟩⟩
           as_aux_lemma =>
            rw [if_pos c62] at H
            have c62b0 : (t784 == 0) = true := beq_iff_eq.mpr c62
            have c62b1 : (t784 != 0) = false := bne_eq_false_iff_eq.mpr c62
            clear c62
            (first | rw [c62b0] | (simp only [i64_w,i32_w];rw [c62b0]) | skip)
            by_cases c63 : t801 = 0
            case neg =>
             rw [if_neg c63] at H
             have c63b0 : (t801 == 0) = false := beq_eq_false_iff_ne.mpr c63
             have c63b1 : (t801 != 0) = true := bne_iff_ne.mpr c63
             replace H' := am H
             go_wp2
             go_meet
             case rel => exact ⟨_,(true),(by first | rfl | (simp;done) | (simp [*];done)),H',⟨by have := HJ3.out;first | omega | exact Nat.le_refl _⟩,⟨by (with_reducible repeat (first | apply Kd.R_alloc | apply Kd.R_drewN | apply Kd.R_drew));exact Kd.R_mono HO782.out (fun _ hk => hk.2)⟩,⟨by (with_reducible repeat (first | apply Kd.R_alloc | apply Kd.R_drewN | apply Kd.R_drew));exact Kd.R_mono HO799.out (fun _ hk => hk.2)⟩,⟨BK771.out⟩,⟨BK772.out⟩,⟨BK779.out⟩,⟨HB.out⟩⟩
            as_aux_lemma =>
             rw [if_pos c63] at H
             have c63b0 : (t801 == 0) = true := beq_iff_eq.mpr c63
             have c63b1 : (t801 != 0) = false := bne_eq_false_iff_eq.mpr c63
             clear c63
             by_cases c64 : (t780.length : Int) = (l0_2.length : Int)
             case neg =>
              rw [if_neg c64] at H
              have c64b0 : ((t780.length : Int) == (l0_2.length : Int)) = false := beq_eq_false_iff_ne.mpr c64
              have c64b1 : ((t780.length : Int) != (l0_2.length : Int)) = true := bne_iff_ne.mpr c64
              have c64b2 : (t780.length == l0_2.length) = false := by first | simpa using c64 | (simp at c64 ⊢;omega)
              replace H' := am H
              obtain ⟨Ao79,co79,eo79⟩ := Kd.R_slice HO782.out
              subst eo79
              go_wp2
              go_meet
              case rel => exact ⟨_,(true),(by first | rfl | (simp;done) | (simp [*];done)),H',⟨by have := HJ3.out;first | omega | exact Nat.le_refl _⟩,⟨by (with_reducible repeat (first | apply Kd.R_alloc | apply Kd.R_drewN | apply Kd.R_drew));exact Kd.R_mono HO782.out (fun _ hk => hk.2)⟩,⟨by (with_reducible repeat (first | apply Kd.R_alloc | apply Kd.R_drewN | apply Kd.R_drew));exact Kd.R_mono HO799.out (fun _ hk => hk.2)⟩,⟨BK771.out⟩,⟨BK772.out⟩,⟨BK779.out⟩,⟨HB.out⟩⟩
             as_aux_lemma =>
              rw [if_pos c64] at H
              have c64b0 : ((t780.length : Int) == (l0_2.length : Int)) = true := beq_iff_eq.mpr c64
              have c64b1 : ((t780.length : Int) != (l0_2.length : Int)) = false := bne_eq_false_iff_eq.mpr c64
              have c64b2 : (t780.length == l0_2.length) = true := by first | simpa using c64 | (simp at c64 ⊢;omega)
              clear c64
              by_cases c65 : (t797.length : Int) = (l0_2.length : Int)
              case neg =>
               rw [if_neg c65] at H
               have c65b0 : ((t797.length : Int) == (l0_2.length : Int)) = false := beq_eq_false_iff_ne.mpr c65
               have c65b1 : ((t797.length : Int) != (l0_2.length : Int)) = true := bne_iff_ne.mpr c65
               have c65b2 : (t797.length == l0_2.length) = false := by first | simpa using c65 | (simp at c65 ⊢;omega)
               replace H' := am H
               obtain ⟨Ao77,co77,eo77⟩ := Kd.R_slice HO782.out
               subst eo77
               obtain ⟨Ao78,co78,eo78⟩ := Kd.R_slice HO799.out
               subst eo78
               go_wp2
               go_meet
               case rel => exact ⟨_,(true),(by first | rfl | (simp;done) | (simp [*];done)),H',⟨by have := HJ3.out;first | omega | exact Nat.le_refl _⟩,⟨by (with_reducible repeat (first | apply Kd.R_alloc | apply Kd.R_drewN | apply Kd.R_drew));exact Kd.R_mono HO782.out (fun _ hk => hk.2)⟩,⟨by (with_reducible repeat (first | apply Kd.R_alloc | apply Kd.R_drewN | apply Kd.R_drew));exact Kd.R_mono HO799.out (fun _ hk => hk.2)⟩,⟨BK771.out⟩,⟨BK772.out⟩,⟨BK779.out⟩,⟨HB.out⟩⟩
              as_aux_lemma =>
               rw [if_pos c65] at H
               have c65b0 : ((t797.length : Int) == (l0_2.length : Int)) = true := beq_iff_eq.mpr c65
               have c65b1 : ((t797.length : Int) != (l0_2.length : Int)) = false := bne_eq_false_iff_eq.mpr c65
               have c65b2 : (t797.length == l0_2.length) = true := by first | simpa using c65 | (simp at c65 ⊢;omega)
               clear c65
               by_cases c66 : t783 < (-10000)
               · rw [if_pos c66] at H
                 have c66b0 : decide (t783 < (-10000)) = true := decide_eq_true c66
                 clear c66
                 replace H' := am H
                 obtain ⟨Ao67,co67,eo67⟩ := Kd.R_slice HO782.out
                 subst eo67
                 obtain ⟨Ao68,co68,eo68⟩ := Kd.R_slice HO799.out
                 subst eo68
                 go_wp2
                 go_meet
                 case rel => exact ⟨_,(true),(by first | rfl | (simp;done) | (simp [*];done)),H',⟨by have := HJ3.out;first | omega | exact Nat.le_refl _⟩,⟨by (with_reducible repeat (first | apply Kd.R_alloc | apply Kd.R_drewN | apply Kd.R_drew));exact Kd.R_mono HO782.out (fun _ hk => hk.2)⟩,⟨by (with_reducible repeat (first | apply Kd.R_alloc | apply Kd.R_drewN | apply Kd.R_drew));exact Kd.R_mono HO799.out (fun _ hk => hk.2)⟩,⟨BK771.out⟩,⟨BK772.out⟩,⟨BK779.out⟩,⟨HB.out⟩⟩
               · as_aux_lemma =>
                  rw [if_neg c66] at H
                  have c66b0 : decide (t783 < (-10000)) = false := decide_eq_false c66
                  clear c66
                  by_cases c69 : t783 > 10000
                  · rw [if_pos c69] at H
                    have c69b0 : decide (10000 < t783) = true := decide_eq_true c69
                    clear c69
                    replace H' := am H
                    obtain ⟨Ao70,co70,eo70⟩ := Kd.R_slice HO782.out
                    subst eo70
                    obtain ⟨Ao71,co71,eo71⟩ := Kd.R_slice HO799.out
                    subst eo71
                    go_wp2
                    go_meet
                    case rel => exact ⟨_,(true),(by first | rfl | (simp;done) | (simp [*];done)),H',⟨by have := HJ3.out;first | omega | exact Nat.le_refl _⟩,⟨by (with_reducible repeat (first | apply Kd.R_alloc | apply Kd.R_drewN | apply Kd.R_drew));exact Kd.R_mono HO782.out (fun _ hk => hk.2)⟩,⟨by (with_reducible repeat (first | apply Kd.R_alloc | apply Kd.R_drewN | apply Kd.R_drew));exact Kd.R_mono HO799.out (fun _ hk => hk.2)⟩,⟨BK771.out⟩,⟨BK772.out⟩,⟨BK779.out⟩,⟨HB.out⟩⟩
                  · as_aux_lemma =>
                     rw [if_neg c69] at H
                     have c69b0 : decide (10000 < t783) = false := decide_eq_false c69
                     clear c69
                     by_cases c72 : t800 < (-10000)
                     · rw [if_pos c72] at H
                       have c72b0 : decide (t800 < (-10000)) = true := decide_eq_true c72
                       clear c72
                       replace H' := am H
                       obtain ⟨Ao73,co73,eo73⟩ := Kd.R_slice HO782.out
                       subst eo73
                       obtain ⟨Ao74,co74,eo74⟩ := Kd.R_slice HO799.out
                       subst eo74
                       go_wp2
                       go_meet
                       case rel => exact ⟨_,(true),(by first | rfl | (simp;done) | (simp [*];done)),H',⟨by have := HJ3.out;first | omega | exact Nat.le_refl _⟩,⟨by (with_reducible repeat (first | apply Kd.R_alloc | apply Kd.R_drewN | apply Kd.R_drew));exact Kd.R_mono HO782.out (fun _ hk => hk.2)⟩,⟨by (with_reducible repeat (first | apply Kd.R_alloc | apply Kd.R_drewN | apply Kd.R_drew));exact Kd.R_mono HO799.out (fun _ hk => hk.2)⟩,⟨BK771.out⟩,⟨BK772.out⟩,⟨BK779.out⟩,⟨HB.out⟩⟩
                     · rw [if_neg c72] at H
                       have c72b0 : decide (t800 < (-10000)) = false := decide_eq_false c72
                       clear c72
                       replace H' := am H
                       obtain ⟨Ao75,co75,eo75⟩ := Kd.R_slice HO782.out
                       subst eo75
                       obtain ⟨Ao76,co76,eo76⟩ := Kd.R_slice HO799.out
                       subst eo76
                       go_wp2
                       go_meet
                       case rel => exact ⟨_,((t800 != (wrap64 (-t783)))),(by first | rfl | (simp;done) | (simp [*];done)),H',⟨by have := HJ3.out;first | omega | exact Nat.le_refl _⟩,⟨by (with_reducible repeat (first | apply Kd.R_alloc | apply Kd.R_drewN | apply Kd.R_drew));exact Kd.R_mono HO782.out (fun _ hk => hk.2)⟩,⟨by (with_reducible repeat (first | apply Kd.R_alloc | apply Kd.R_drewN | apply Kd.R_drew));exact Kd.R_mono HO799.out (fun _ hk => hk.2)⟩,⟨BK771.out⟩,⟨BK772.out⟩,⟨BK779.out⟩,⟨HB.out⟩⟩
         case rest =>
          as_aux_lemma =>
           clear HC46
           obtain ⟨kq,x104_45,rfl,HA,HJ45,HO_8,HO_11,BK771,BK772,BK779,HB⟩ := hcut
           cases kq with
           | zero => exact absurd HA.out (by simp [l4_CastleLow.j1])
           | succ kj45 =>
            have H := HA.out
            clear HA
            simp only [l4_CastleLow.j1] at H
            by_cases c80 : x104_45 = true
            · subst c80
              replace H : (none) = some r := by rw [if_pos rfl] at H;exact H
              exact absurd H (by simp)
            · as_aux_lemma =>
               replace c80 := Bool.eq_false_iff.mpr c80
               subst c80
               replace H : (if a1_1 ≤ ((rd_T64 l0_2 a1_0).f1) then (l4_CastleLow.j2 kj45 t780 t797 (l0_2.length : Int) (decide (a1_1 ≤ ((rd_T64 l0_2 a1_0).f1))) t783 (decide (t783 > 0)) a1_0 a1_1) else (l4_CastleLow.j2 kj45 t780 t797 (l0_2.length : Int) (decide (a1_1 ≤ ((rd_T64 l0_2 a1_0).f1))) t783 false a1_0 a1_1)) = some r := by rw [if_neg (show ¬ (false = true) by decide)] at H;exact H
               have HC81 := am H
               clear H
               have hnb82 := NB772_771.out
               have hnc82 := NB771_772.out
               have hnb83 := NB772_779.out
               have hnc83 := NB779_772.out
               obtain ⟨hcz84_0,hcz84_1⟩ := cO2 BK772.out
               have hnb85 := NB779_771.out
               have hnc85 := NB771_779.out
               obtain ⟨hcz86_0,hcz86_1⟩ := cO2 BK779.out
               have hfz86_0 := blk_frozen BK779.out 0
               have hfz86_1 := blk_frozen BK779.out 1
               go_upto_region 11 with (fail)
               go_cut [115] (fun v115 wc => ∃ (kq : Nat) (x115_80 : Bool),v115 = .bool x115_80 ∧ Aside0 (l4_CastleLow.j2 kq t780 t797 (l0_2.length : Int) (decide (a1_1 ≤ ((rd_T64 l0_2 a1_0).f1))) t783 x115_80 a1_0 a1_1 = some r) ∧ Aside0 (kq ≤ kj45) ∧ Aside0 (Kd.R (Kd.int .i64) 3 wc w.heap.size (fun k_ => some k_ ≠ (v798 : Value).ownBlock) v781 t780) ∧ Aside0 (Kd.R (Kd.int .i64) 3 wc w.heap.size (fun k_ => some k_ ≠ (v781 : Value).ownBlock) v798 t797) ∧ Aside0 (wc.heap[gb771]? = some (.cells #[(.slice A0_0 l0_0.length c0_0),.int .i64 a0_1,(.slice (some ad778) l0_2.length c0_2),.int .i64 a0_3,.int .i64 a0_4] 27 (0,0))) ∧ Aside0 (wc.heap[gb772]? = some (.cells #[.int .i64 a1_0,.int .i64 a1_1] 58 (0,0))) ∧ Aside0 (wc.heap[gb779]? = some (.cells #[.int .i64 a1_0,.int .i64 ((rd_T64 l0_2 a1_0).f1)] 58 (0,0))) ∧ Aside0 (Below w.heap.size w wc))
               case first =>
                as_aux_lemma =>
                 have H := HC81.out
                 clear HC81
                 by_cases c87 : a1_1 ≤ ((rd_T64 l0_2 a1_0).f1)
                 · rw [if_pos c87] at H
                   have c87b0 : decide (a1_1 ≤ ((rd_T64 l0_2 a1_0).f1)) = true := decide_eq_true c87
                   clear c87
                   (first | rw [c87b0] | (simp only [i64_w,i32_w];rw [c87b0]) | skip)
                   replace H' := am H
                   go_wp2
                   (first | rw [show Value.bool true = Value.bool (decide (a1_1 ≤ ((rd_T64 l0_2 a1_0).f1))) from by rw [c87b0]] | skip)
                   go_meet
                   case rel => exact ⟨_,(decide (t783 > 0)),(by first | rfl | (simp;done) | (simp [*];done)),H',⟨by have := HJ3.out;have := HJ45.out;first | omega | exact Nat.le_refl _⟩,⟨by (with_reducible repeat (first | apply Kd.R_alloc | apply Kd.R_drewN | apply Kd.R_drew));exact HO_8.out⟩,⟨by (with_reducible repeat (first | apply Kd.R_alloc | apply Kd.R_drewN | apply Kd.R_drew));exact HO_11.out⟩,⟨BK771.out⟩,⟨BK772.out⟩,⟨BK779.out⟩,⟨HB.out⟩⟩
                 · rw [if_neg c87] at H
                   have c87b0 : decide (a1_1 ≤ ((rd_T64 l0_2 a1_0).f1)) = false := decide_eq_false c87
                   clear c87
                   (first | rw [c87b0] | (simp only [i64_w,i32_w];rw [c87b0]) | skip)
                   replace H' := am H
                   go_wp2
                   (first | rw (occs := .pos [2]) [show Value.bool false = Value.bool (decide (a1_1 ≤ ((rd_T64 l0_2 a1_0).f1))) from by rw [c87b0]] | skip)
                   go_meet
                   case rel => exact ⟨_,(false),(by first | rfl | (simp;done) | (simp [*];done)),H',⟨by have := HJ3.out;have := HJ45.out;first | omega | exact Nat.le_refl _⟩,⟨by (with_reducible repeat (first | apply Kd.R_alloc | apply Kd.R_drewN | apply Kd.R_drew));exact HO_8.out⟩,⟨by (with_reducible repeat (first | apply Kd.R_alloc | apply Kd.R_drewN | apply Kd.R_drew));exact HO_11.out⟩,⟨BK771.out⟩,⟨BK772.out⟩,⟨BK779.out⟩,⟨HB.out⟩⟩
               case rest =>
                as_aux_lemma =>
                 clear HC81
                 obtain ⟨kq,x115_80,rfl,HA,HJ80,HO_8,HO_11,BK771,BK772,BK779,HB⟩ := hcut
                 cases kq with
                 | zero => exact absurd HA.out (by simp [l4_CastleLow.j2])
                 | succ kj80 =>
                  have H := HA.out
                  clear HA
                  simp only [l4_CastleLow.j2] at H
                  by_cases c88 : x115_80 = true
                  · subst c88
                    replace H : (none) = some r := by rw [if_pos rfl] at H;exact H
                    exact absurd H (by simp)
                  · as_aux_lemma =>
                     replace c88 := Bool.eq_false_iff.mpr c88
                     subst c88
                     replace H : (l4_CastleLow.l0 kj80 t780 t797 (l0_2.length : Int) (decide (a1_1 ≤ ((rd_T64 l0_2 a1_0).f1))) t783 0 a1_0 a1_1) = some r := by rw [if_neg (show ¬ (false = true) by decide)] at H;exact H
                     replace H' := am H
                     go_wp2
                     go_loopg [16,17] kj80 (fun kq v16 v17 w' => ∃ (x16_4 : Int) (x17_4 : Int),v16 = .int .i64 x16_4 ∧ v17 = .int .i64 x17_4 ∧ Aside0 (l4_CastleLow.l0 kq t780 t797 (l0_2.length : Int) (decide (a1_1 ≤ ((rd_T64 l0_2 a1_0).f1))) x16_4 x17_4 a1_0 a1_1 = some r) ∧ Aside0 (kq ≤ kj80) ∧ Aside0 (Kd.R (Kd.int .i64) 3 w' w.heap.size (fun k_ => some k_ ≠ (v798 : Value).ownBlock) v781 t780) ∧ Aside0 (Kd.R (Kd.int .i64) 3 w' w.heap.size (fun k_ => some k_ ≠ (v781 : Value).ownBlock) v798 t797) ∧ Aside0 (w'.heap[gb771]? = some (.cells #[(.slice A0_0 l0_0.length c0_0),.int .i64 a0_1,(.slice (some ad778) l0_2.length c0_2),.int .i64 a0_3,.int .i64 a0_4] 27 (0,0))) ∧ Aside0 (w'.heap[gb772]? = some (.cells #[.int .i64 a1_0,.int .i64 a1_1] 58 (0,0))) ∧ Aside0 (w'.heap[gb779]? = some (.cells #[.int .i64 a1_0,.int .i64 ((rd_T64 l0_2 a1_0).f1)] 58 (0,0))) ∧ Aside0 (Below w.heap.size w w'))
                     case atStart => exact ⟨(t783),(0),(by first | rfl | (simp;done) | (simp [*];done)),(by first | rfl | (simp;done) | (simp [*];done)),H',⟨Nat.le_refl _⟩,⟨by (with_reducible repeat (first | apply Kd.R_alloc | apply Kd.R_drewN | apply Kd.R_drew));exact HO_8.out⟩,⟨by (with_reducible repeat (first | apply Kd.R_alloc | apply Kd.R_drewN | apply Kd.R_drew));exact HO_11.out⟩,⟨BK771.out⟩,⟨BK772.out⟩,⟨BK779.out⟩,⟨HB.out⟩⟩
                     case round =>
                      as_aux_lemma =>
                       clear H'
                       obtain ⟨x16_4,x17_4,rfl,rfl,HA,HK4,HO_8,HO_11,BK771,BK772,BK779,HB⟩ := hrel
                       cases gk with
                       | zero => exact absurd HA.out (by simp [l4_CastleLow.l0])
                       | succ k4 =>
                        have H := HA.out
                        clear HA
                        simp only [l4_CastleLow.l0] at H
                        by_cases c89 : x17_4 < (l0_2.length : Int)
                        case neg =>
                         rw [if_neg c89] at H
                         have c89b0 : decide (x17_4 < (l0_2.length : Int)) = false := decide_eq_false c89
                         clear c89
                         by_cases c109 : x16_4 = 0
                         case neg =>
                          rw [if_neg c109] at H
                          exact absurd H (by simp)
                         rw [if_pos c109] at H
                         have c109b0 : (x16_4 == 0) = true := beq_iff_eq.mpr c109
                         have c109b1 : (x16_4 != 0) = false := bne_eq_false_iff_eq.mpr c109
                         clear c109
                         replace H := obm H
                         obtain ⟨t811,A1100,H⟩ := H
                         replace H : (some t811) = some r := H
                         have A110 := am A1100
                         clear A1100
                         obtain rfl := Option.some.inj H
                         go_wp2_with (first | (go_at_call 15;(with_reducible refine (l4_known.calls  t811 _ A110.out).mono ?_);rintro e w111 ⟨rfl,hb⟩;replace HO_8 := am (Kd.R_below HO_8.out hb);replace HO_11 := am (Kd.R_below HO_11.out hb);replace BK771 := (kmv hb BK771);replace BK772 := (kmv hb BK772);replace BK779 := (kmv hb BK779);replace HB := am (below_step (HB.out) hb);(try clear hb);(try clear hb2);(try clear hk);(try clear hi)))
                         go_ret
                         exact ⟨by first | rfl | (simp [*] <;> rfl),HB.out⟩
                        as_aux_lemma =>
                         rw [if_pos c89] at H
                         have c89b0 : decide (x17_4 < (l0_2.length : Int)) = true := decide_eq_true c89
                         clear c89
                         by_cases c90 : 0 ≤ x17_4
                         case neg =>
                          rw [if_neg c90] at H
                          exact absurd H (by simp)
                         as_aux_lemma =>
                          rw [if_pos c90] at H
                          have c90b0 : decide (0 ≤ x17_4) = true := decide_eq_true c90
                          clear c90
                          by_cases c91 : x17_4 < (t780.length : Int)
                          case neg =>
                           rw [if_neg c91] at H
                           exact absurd H (by simp)
                          as_aux_lemma =>
                           rw [if_pos c91] at H
                           have c91b0 : decide (x17_4 < (t780.length : Int)) = true := decide_eq_true c91
                           clear c91
                           by_cases c92 : (rd t780 x17_4) < (-10000)
                           · rw [if_pos c92] at H
                             have c92b0 : decide ((rd t780 x17_4) < (-10000)) = true := decide_eq_true c92
                             clear c92
                             exact absurd H (by simp)
                           · as_aux_lemma =>
                              rw [if_neg c92] at H
                              have c92b0 : decide ((rd t780 x17_4) < (-10000)) = false := decide_eq_false c92
                              clear c92
                              by_cases c93 : (rd t780 x17_4) > 10000
                              · rw [if_pos c93] at H
                                have c93b0 : decide (10000 < (rd t780 x17_4)) = true := decide_eq_true c93
                                clear c93
                                exact absurd H (by simp)
                              · as_aux_lemma =>
                                 rw [if_neg c93] at H
                                 have c93b0 : decide (10000 < (rd t780 x17_4)) = false := decide_eq_false c93
                                 clear c93
                                 by_cases c94 : x17_4 < (t797.length : Int)
                                 case neg =>
                                  rw [if_neg c94] at H
                                  exact absurd H (by simp)
                                 as_aux_lemma =>
                                  rw [if_pos c94] at H
                                  have c94b0 : decide (x17_4 < (t797.length : Int)) = true := decide_eq_true c94
                                  clear c94
                                  by_cases c95 : (rd t797 x17_4) = (wrap64 (-(rd t780 x17_4)))
                                  case neg =>
                                   rw [if_neg c95] at H
                                   have c95b0 : ((rd t797 x17_4) == (wrap64 (-(rd t780 x17_4)))) = false := beq_eq_false_iff_ne.mpr c95
                                   have c95b1 : ((rd t797 x17_4) != (wrap64 (-(rd t780 x17_4)))) = true := bne_iff_ne.mpr c95
                                   exact absurd H (by simp)
                                  as_aux_lemma =>
                                   rw [if_pos c95] at H
                                   have c95b0 : ((rd t797 x17_4) == (wrap64 (-(rd t780 x17_4)))) = true := beq_iff_eq.mpr c95
                                   have c95b1 : ((rd t797 x17_4) != (wrap64 (-(rd t780 x17_4)))) = false := bne_eq_false_iff_eq.mpr c95
                                   clear c95
                                   by_cases c96 : (decide (a1_1 ≤ ((rd_T64 l0_2 a1_0).f1))) = true
                                   case neg =>
                                    as_aux_lemma =>
                                     rw [if_neg c96] at H
                                     have c96b0 : (decide (a1_1 ≤ ((rd_T64 l0_2 a1_0).f1))) = false := by simpa using c96
                                     clear c96
                                     replace H' := am H
                                     try go_wp2
                                     replace HO_8 := am (Kd.R_drew HO_8.out)
                                     replace HO_11 := am (Kd.R_drew HO_11.out)
                                     replace BK771 := am (blk_drew BK771.out)
                                     replace BK772 := am (blk_drew BK772.out)
                                     replace BK779 := am (blk_drew BK779.out)
                                     replace HB := am (below_drew1 HB.out)
                                     obtain ⟨Ao107,co107,eo107⟩ := Kd.R_slice HO_8.out
                                     (first | subst eo107 | (injection eo107 with f1_ f2_ f3_;have f4_ := f1_.symm;have f5_ := f3_.symm;clear f1_ f2_ f3_;subst f4_;subst f5_))
                                     have p802 : 0 ≤ (x17_4 : Int) := of_decide_eq_true (by assumption)
                                     have q802 : x17_4 < (t780.length : Int) := of_decide_eq_true (by assumption)
                                     obtain ⟨ad802,e802,hx802_0⟩ := Kd.at_int (Kd.R_reads' HO_8.out).2.2 x17_4 p802 q802
                                     cases e802
                                     replace p802 := eq_true p802
                                     replace q802 := eq_true q802
                                     have p803 : 0 ≤ (x17_4 : Int) := of_decide_eq_true (by assumption)
                                     have q803 : x17_4 < (t780.length : Int) := of_decide_eq_true (by assumption)
                                     obtain ⟨ad803,e803,hx803_0⟩ := Kd.at_int (Kd.R_reads' HO_8.out).2.2 x17_4 p803 q803
                                     obtain rfl : ad802 = ad803 := (by injection e803)
                                     replace p803 := eq_true p803
                                     replace q803 := eq_true q803
                                     obtain ⟨Ao108,co108,eo108⟩ := Kd.R_slice HO_11.out
                                     (first | subst eo108 | (injection eo108 with f1_ f2_ f3_;have f4_ := f1_.symm;have f5_ := f3_.symm;clear f1_ f2_ f3_;subst f4_;subst f5_))
                                     have p804 : 0 ≤ (x17_4 : Int) := of_decide_eq_true (by assumption)
                                     have q804 : x17_4 < (t797.length : Int) := of_decide_eq_true (by assumption)
                                     obtain ⟨ad804,e804,hx804_0⟩ := Kd.at_int (Kd.R_reads' HO_11.out).2.2 x17_4 p804 q804
                                     cases e804
                                     replace p804 := eq_true p804
                                     replace q804 := eq_true q804
                                     have p805 : 0 ≤ (x17_4 : Int) := of_decide_eq_true (by assumption)
                                     have q805 : x17_4 < (t780.length : Int) := of_decide_eq_true (by assumption)
                                     obtain ⟨ad805,e805,hx805_0⟩ := Kd.at_int (Kd.R_reads' HO_8.out).2.2 x17_4 p805 q805
                                     obtain rfl : ad802 = ad805 := (by injection e805)
                                     replace p805 := eq_true p805
                                     replace q805 := eq_true q805
                                     refine start_ (n := 56) (S := fun w' => w'.cell? (ad802.add (x17_4).toNat) = some (.int .i64 (rd t780 x17_4)) ∧ w'.cell? (ad802.add (x17_4).toNat) = some (.int .i64 (rd t780 x17_4)) ∧ w'.cell? (ad804.add (x17_4).toNat) = some (.int .i64 (rd t797 x17_4)) ∧ w'.cell? (ad802.add (x17_4).toNat) = some (.int .i64 (rd t780 x17_4))) (ds := []) (ba 56 0) (by kernel_rfl) rfl rfl ⟨hx802_0,hx803_0,hx804_0,hx805_0⟩ (fun hHeld => ?_);refine with_tabW l4_CastleLow.tab16 l4_CastleLow.bits16 (fun HT_ HW_ => ?_)
                                     generalize wr.drew = w106 at HO_8 HO_11 BK771 BK772 BK779 HB hx802_0 hx803_0 hx804_0 hx805_0 hHeld ⊢
                                     refine pure_ (i := 0) (N := some 121) (v := ?_) (a' := ?_) (ba 56 1) rfl rfl (any_of HT_.out (by kernel_rfl)) (fun _ _ _ h => h) (Or.inl ⟨by rfl,?_⟩) ?_ ?_
                                     rotate_left
                                     · intro w'
                                       go_simp
                                       with_reducible rfl
                                     rotate_left
                                     · simp only [Act.put,NRM]
                                       rfl
                                     refine pure_ (i := 1) (N := some 122) (v := ?_) (a' := ?_) (ba 56 3) rfl rfl (any_of HT_.out (by kernel_rfl)) (fun _ _ _ h => h) (Or.inl ⟨by rfl,?_⟩) ?_ ?_
                                     rotate_left
                                     · intro w'
                                       go_simp
                                       with_reducible rfl
                                     rotate_left
                                     · simp only [Act.put,NRM]
                                       rfl
                                     refine pure_ (i := 2) (N := some 123) (v := ?_) (a' := ?_) (ba 56 7) rfl rfl (any_of HT_.out (by kernel_rfl)) (fun _ _ _ h => h) (Or.inl ⟨by rfl,?_⟩) ?_ ?_
                                     rotate_left
                                     · intro w'
                                       go_simp
                                       with_reducible rfl
                                     rotate_left
                                     · simp only [Act.put,NRM]
                                       rfl
                                     refine take_ (i := 3) (N := some 124) (v := ?_) (a' := ?_) (ba 56 15) rfl rfl (take_ofW HT_.out HW_.out (by kernel_rfl)) (fun _ _ _ h => h) (Or.inl ⟨by rfl,?_⟩) hHeld ?_ ?_
                                     rotate_left
                                     · rintro w' ⟨s0,s1,s2,s3⟩
                                       go_simp
                                       with_reducible rfl
                                     rotate_left
                                     · simp only [Act.put,NRM]
                                       rfl
                                     refine pure_ (i := 4) (N := some 125) (v := ?_) (a' := ?_) (ba 56 31) rfl rfl (any_of HT_.out (by kernel_rfl)) (fun _ _ _ h => h) (Or.inl ⟨by rfl,?_⟩) ?_ ?_
                                     rotate_left
                                     · intro w'
                                       go_simp
                                       with_reducible rfl
                                     rotate_left
                                     · simp only [Act.put,NRM]
                                       rfl
                                     refine pure_ (i := 5) (N := some 126) (v := ?_) (a' := ?_) (ba 56 63) rfl rfl (any_of HT_.out (by kernel_rfl)) (fun _ _ _ h => h) (Or.inl ⟨by rfl,?_⟩) ?_ ?_
                                     rotate_left
                                     · intro w'
                                       go_simp
                                       with_reducible rfl
                                     rotate_left
                                     · simp only [Act.put,NRM]
                                       rfl
                                     refine pure_ (i := 6) (N := some 127) (v := ?_) (a' := ?_) (ba 56 127) rfl rfl (any_of HT_.out (by kernel_rfl)) (fun _ _ _ h => h) (Or.inl ⟨by rfl,?_⟩) ?_ ?_
                                     rotate_left
                                     · intro w'
                                       go_simp
                                       with_reducible rfl
                                     rotate_left
                                     · simp only [Act.put,NRM]
                                       rfl
                                     refine pure_ (i := 7) (N := some 128) (v := ?_) (a' := ?_) (ba 56 255) rfl rfl (any_of HT_.out (by kernel_rfl)) (fun _ _ _ h => h) (Or.inl ⟨by rfl,?_⟩) ?_ ?_
                                     rotate_left
                                     · intro w'
                                       go_simp
                                       with_reducible rfl
                                     rotate_left
                                     · simp only [Act.put,NRM]
                                       rfl
                                     refine pure_ (i := 8) (N := some 129) (v := ?_) (a' := ?_) (ba 56 511) rfl rfl (any_of HT_.out (by kernel_rfl)) (fun _ _ _ h => h) (Or.inl ⟨by rfl,?_⟩) ?_ ?_
                                     rotate_left
                                     · intro w'
                                       go_simp
                                       with_reducible rfl
                                     rotate_left
                                     · simp only [Act.put,NRM]
                                       rfl
                                     refine take_ (i := 9) (N := some 130) (v := ?_) (a' := ?_) (ba 56 1023) rfl rfl (take_ofW HT_.out HW_.out (by kernel_rfl)) (fun _ _ _ h => h) (Or.inl ⟨by rfl,?_⟩) hHeld ?_ ?_
                                     rotate_left
                                     · rintro w' ⟨s0,s1,s2,s3⟩
                                       go_simp
                                       with_reducible rfl
                                     rotate_left
                                     · simp only [Act.put,NRM]
                                       rfl
                                     refine pure_ (i := 10) (N := some 131) (v := ?_) (a' := ?_) (ba 56 2047) rfl rfl (any_of HT_.out (by kernel_rfl)) (fun _ _ _ h => h) (Or.inl ⟨by rfl,?_⟩) ?_ ?_
                                     rotate_left
                                     · intro w'
                                       go_simp
                                       with_reducible rfl
                                     rotate_left
                                     · simp only [Act.put,NRM]
                                       rfl
                                     refine pure_ (i := 11) (N := some 132) (v := ?_) (a' := ?_) (ba 56 4095) rfl rfl (any_of HT_.out (by kernel_rfl)) (fun _ _ _ h => h) (Or.inl ⟨by rfl,?_⟩) ?_ ?_
                                     rotate_left
                                     · intro w'
                                       go_simp
                                       with_reducible rfl
                                     rotate_left
                                     · simp only [Act.put,NRM]
                                       rfl
                                     refine pure_ (i := 12) (N := some 133) (v := ?_) (a' := ?_) (ba 56 8191) rfl rfl (any_of HT_.out (by kernel_rfl)) (fun _ _ _ h => h) (Or.inl ⟨by rfl,?_⟩) ?_ ?_
                                     rotate_left
                                     · intro w'
                                       go_simp
                                       with_reducible rfl
                                     rotate_left
                                     · simp only [Act.put,NRM]
                                       rfl
                                     refine pure_ (i := 13) (N := some 134) (v := ?_) (a' := ?_) (ba 56 16383) rfl rfl (any_of HT_.out (by kernel_rfl)) (fun _ _ _ h => h) (Or.inl ⟨by rfl,?_⟩) ?_ ?_
                                     rotate_left
                                     · intro w'
                                       go_simp
                                       with_reducible rfl
                                     rotate_left
                                     · simp only [Act.put,NRM]
                                       rfl
                                     refine pure_ (i := 14) (N := some 135) (v := ?_) (a' := ?_) (ba 56 32767) rfl rfl (any_of HT_.out (by kernel_rfl)) (fun _ _ _ h => h) (Or.inl ⟨by rfl,?_⟩) ?_ ?_
                                     rotate_left
                                     · intro w'
                                       go_simp
                                       with_reducible rfl
                                     rotate_left
                                     · simp only [Act.put,NRM]
                                       rfl
                                     refine pure_ (i := 15) (N := some 136) (v := ?_) (a' := ?_) (ba 56 65535) rfl rfl (any_of HT_.out (by kernel_rfl)) (fun _ _ _ h => h) (Or.inl ⟨by rfl,?_⟩) ?_ ?_
                                     rotate_left
                                     · intro w'
                                       go_simp
                                       with_reducible rfl
                                     rotate_left
                                     · simp only [Act.put,NRM]
                                       rfl
                                     refine pure_ (i := 17) (N := some 138) (v := ?_) (a' := ?_) (ba 56 196607) rfl rfl (any_of HT_.out (by kernel_rfl)) (fun _ _ _ h => h) (Or.inl ⟨by rfl,?_⟩) ?_ ?_
                                     rotate_left
                                     · intro w'
                                       go_simp
                                       with_reducible rfl
                                     rotate_left
                                     · simp only [Act.put,NRM]
                                       rfl
                                     refine pure_ (i := 18) (N := some 139) (v := ?_) (a' := ?_) (ba 56 458751) rfl rfl (any_of HT_.out (by kernel_rfl)) (fun _ _ _ h => h) (Or.inl ⟨by rfl,?_⟩) ?_ ?_
                                     rotate_left
                                     · intro w'
                                       go_simp
                                       with_reducible rfl
                                     rotate_left
                                     · simp only [Act.put,NRM]
                                       rfl
                                     refine pure_ (i := 19) (N := some 140) (v := ?_) (a' := ?_) (ba 56 983039) rfl rfl (any_of HT_.out (by kernel_rfl)) (fun _ _ _ h => h) (Or.inl ⟨by rfl,?_⟩) ?_ ?_
                                     rotate_left
                                     · intro w'
                                       go_simp
                                       with_reducible rfl
                                     rotate_left
                                     · simp only [Act.put,NRM]
                                       rfl
                                     refine take_ (i := 16) (N := some 137) (v := ?_) (a' := ?_) (ba 56 1048575) rfl rfl (take_ofW HT_.out HW_.out (by kernel_rfl)) (fun _ _ _ h => h) (Or.inl ⟨by rfl,?_⟩) hHeld ?_ ?_
                                     rotate_left
                                     · rintro w' ⟨s0,s1,s2,s3⟩
                                       go_simp
                                       with_reducible rfl
                                     rotate_left
                                     · simp only [Act.put,NRM]
                                       rfl
                                     refine take_ (i := 20) (N := some 141) (v := ?_) (a' := ?_) (ba 56 2097151) rfl rfl (take_ofW HT_.out HW_.out (by kernel_rfl)) (fun _ _ _ h => h) (Or.inl ⟨by rfl,?_⟩) hHeld ?_ ?_
                                     rotate_left
                                     · rintro w' ⟨s0,s1,s2,s3⟩
                                       go_simp
                                       with_reducible rfl
                                     rotate_left
                                     · simp only [Act.put,NRM]
                                       rfl
                                     refine pure_ (i := 21) (N := some 142) (v := ?_) (a' := ?_) (ba 56 4194303) rfl rfl (any_of HT_.out (by kernel_rfl)) (fun _ _ _ h => h) (Or.inl ⟨by rfl,?_⟩) ?_ ?_
                                     rotate_left
                                     · intro w'
                                       go_simp
                                       with_reducible rfl
                                     rotate_left
                                     · simp only [Act.put,NRM]
                                       rfl
                                     refine pure_ (i := 22) (N := some 143) (v := ?_) (a' := ?_) (ba 56 8388607) rfl rfl (any_of HT_.out (by kernel_rfl)) (fun _ _ _ h => h) (Or.inl ⟨by rfl,?_⟩) ?_ ?_
                                     rotate_left
                                     · intro w'
                                       go_simp
                                       with_reducible rfl
                                     rotate_left
                                     · simp only [Act.put,NRM]
                                       rfl
                                     refine pure_ (i := 23) (N := some 144) (v := ?_) (a' := ?_) (ba 56 16777215) rfl rfl (any_of HT_.out (by kernel_rfl)) (fun _ _ _ h => h) (Or.inl ⟨by rfl,?_⟩) ?_ ?_
                                     rotate_left
                                     · intro w'
                                       go_simp
                                       with_reducible rfl
                                     rotate_left
                                     · simp only [Act.put,NRM]
                                       rfl
                                     refine pure_ (i := 24) (N := some 145) (v := ?_) (a' := ?_) (ba 56 33554431) rfl rfl (any_of HT_.out (by kernel_rfl)) (fun _ _ _ h => h) (Or.inl ⟨by rfl,?_⟩) ?_ ?_
                                     rotate_left
                                     · intro w'
                                       go_simp
                                       with_reducible rfl
                                     rotate_left
                                     · simp only [Act.put,NRM]
                                       rfl
                                     refine pure_ (i := 25) (N := some 146) (v := ?_) (a' := ?_) (ba 56 67108863) rfl rfl (any_of HT_.out (by kernel_rfl)) (fun _ _ _ h => h) (Or.inl ⟨by rfl,?_⟩) ?_ ?_
                                     rotate_left
                                     · intro w'
                                       go_simp
                                       with_reducible rfl
                                     rotate_left
                                     · simp only [Act.put,NRM]
                                       rfl
                                     refine pure_ (i := 26) (N := some 147) (v := ?_) (a' := ?_) (ba 56 134217727) rfl rfl (any_of HT_.out (by kernel_rfl)) (fun _ _ _ h => h) (Or.inl ⟨by rfl,?_⟩) ?_ ?_
                                     rotate_left
                                     · intro w'
                                       go_simp
                                       with_reducible rfl
                                     rotate_left
                                     · simp only [Act.put,NRM]
                                       rfl
                                     refine pure_ (i := 27) (N := some 148) (v := undef) (a' := ?_) (ba 56 268435455) rfl rfl (any_of HT_.out (by kernel_rfl)) (fun _ _ _ h => h) (Or.inr ⟨by rfl,rfl⟩) ?_ ?_
                                     rotate_left
                                     · simp only [Act.put,NRM]
                                       rfl
                                     refine pure_ (i := 28) (N := some 149) (v := undef) (a' := ?_) (ba 56 536870911) rfl rfl (any_of HT_.out (by kernel_rfl)) (fun _ _ _ h => h) (Or.inr ⟨by rfl,rfl⟩) ?_ ?_
                                     rotate_left
                                     · simp only [Act.put,NRM]
                                       rfl
                                     refine pure_ (i := 29) (N := some 150) (v := undef) (a' := ?_) (ba 56 1073741823) rfl rfl (any_of HT_.out (by kernel_rfl)) (fun _ _ _ h => h) (Or.inr ⟨by rfl,rfl⟩) ?_ ?_
                                     rotate_left
                                     · simp only [Act.put,NRM]
                                       rfl
                                     refine pure_ (i := 30) (N := some 151) (v := undef) (a' := ?_) (ba 56 2147483647) rfl rfl (any_of HT_.out (by kernel_rfl)) (fun _ _ _ h => h) (Or.inr ⟨by rfl,rfl⟩) ?_ ?_
                                     rotate_left
                                     · simp only [Act.put,NRM]
                                       rfl
                                     refine pure_ (i := 31) (N := some 152) (v := ?_) (a' := ?_) (ba 56 4294967295) rfl rfl (any_of HT_.out (by kernel_rfl)) (fun _ _ _ h => h) (Or.inl ⟨by rfl,?_⟩) ?_ ?_
                                     rotate_left
                                     · intro w'
                                       go_simp
                                       with_reducible rfl
                                     rotate_left
                                     · simp only [Act.put,NRM]
                                       rfl
                                     refine pure_ (i := 32) (N := some 153) (v := ?_) (a' := ?_) (ba 56 8589934591) rfl rfl (any_of HT_.out (by kernel_rfl)) (fun _ _ _ h => h) (Or.inl ⟨by rfl,?_⟩) ?_ ?_
                                     rotate_left
                                     · intro w'
                                       go_simp
                                       with_reducible rfl
                                     rotate_left
                                     · simp only [Act.put,NRM]
                                       rfl
                                     refine pure_ (i := 33) (N := some 154) (v := undef) (a' := ?_) (ba 56 17179869183) rfl rfl (any_of HT_.out (by kernel_rfl)) (fun _ _ _ h => h) (Or.inr ⟨by rfl,rfl⟩) ?_ ?_
                                     rotate_left
                                     · simp only [Act.put,NRM]
                                       rfl
                                     refine pure_ (i := 34) (N := some 155) (v := undef) (a' := ?_) (ba 56 34359738367) rfl rfl (any_of HT_.out (by kernel_rfl)) (fun _ _ _ h => h) (Or.inr ⟨by rfl,rfl⟩) ?_ ?_
                                     rotate_left
                                     · simp only [Act.put,NRM]
                                       rfl
                                     refine pure_ (i := 35) (N := some 156) (v := undef) (a' := ?_) (ba 56 68719476735) rfl rfl (any_of HT_.out (by kernel_rfl)) (fun _ _ _ h => h) (Or.inr ⟨by rfl,rfl⟩) ?_ ?_
                                     rotate_left
                                     · simp only [Act.put,NRM]
                                       rfl
                                     refine pure_ (i := 36) (N := some 157) (v := undef) (a' := ?_) (ba 56 137438953471) rfl rfl (any_of HT_.out (by kernel_rfl)) (fun _ _ _ h => h) (Or.inr ⟨by rfl,rfl⟩) ?_ ?_
                                     rotate_left
                                     · simp only [Act.put,NRM]
                                       rfl
                                     refine pure_ (i := 37) (N := some 158) (v := undef) (a' := ?_) (ba 56 274877906943) rfl rfl (any_of HT_.out (by kernel_rfl)) (fun _ _ _ h => h) (Or.inr ⟨by rfl,rfl⟩) ?_ ?_
                                     rotate_left
                                     · simp only [Act.put,NRM]
                                       rfl
                                     refine pure_ (i := 38) (N := some 159) (v := ?_) (a' := ?_) (ba 56 549755813887) rfl rfl (any_of HT_.out (by kernel_rfl)) (fun _ _ _ h => h) (Or.inl ⟨by rfl,?_⟩) ?_ ?_
                                     rotate_left
                                     · intro w'
                                       go_simp
                                       with_reducible rfl
                                     rotate_left
                                     · simp only [Act.put,NRM]
                                       rfl
                                     refine pure_ (i := 39) (N := some 160) (v := ?_) (a' := ?_) (ba 56 1099511627775) rfl rfl (any_of HT_.out (by kernel_rfl)) (fun _ _ _ h => h) (Or.inl ⟨by rfl,?_⟩) ?_ ?_
                                     rotate_left
                                     · intro w'
                                       go_simp
                                       with_reducible rfl
                                     rotate_left
                                     · simp only [Act.put,NRM]
                                       rfl
                                     refine pure_ (i := 40) (N := some 161) (v := ?_) (a' := ?_) (ba 56 2199023255551) rfl rfl (any_of HT_.out (by kernel_rfl)) (fun _ _ _ h => h) (Or.inl ⟨by rfl,?_⟩) ?_ ?_
                                     rotate_left
                                     · intro w'
                                       go_simp
                                       with_reducible rfl
                                     rotate_left
                                     · simp only [Act.put,NRM]
                                       rfl
                                     refine pure_ (i := 41) (N := some 162) (v := ?_) (a' := ?_) (ba 56 4398046511103) rfl rfl (any_of HT_.out (by kernel_rfl)) (fun _ _ _ h => h) (Or.inl ⟨by rfl,?_⟩) ?_ ?_
                                     rotate_left
                                     · intro w'
                                       go_simp
                                       with_reducible rfl
                                     rotate_left
                                     · simp only [Act.put,NRM]
                                       rfl
                                     refine pure_ (i := 42) (N := some 163) (v := ?_) (a' := ?_) (ba 56 8796093022207) rfl rfl (any_of HT_.out (by kernel_rfl)) (fun _ _ _ h => h) (Or.inl ⟨by rfl,?_⟩) ?_ ?_
                                     rotate_left
                                     · intro w'
                                       go_simp
                                       with_reducible rfl
                                     rotate_left
                                     · simp only [Act.put,NRM]
                                       rfl
                                     refine pure_ (i := 43) (N := some 164) (v := undef) (a' := ?_) (ba 56 17592186044415) rfl rfl (any_of HT_.out (by kernel_rfl)) (fun _ _ _ h => h) (Or.inr ⟨by rfl,rfl⟩) ?_ ?_
                                     rotate_left
                                     · simp only [Act.put,NRM]
                                       rfl
                                     refine pure_ (i := 44) (N := some 165) (v := undef) (a' := ?_) (ba 56 35184372088831) rfl rfl (any_of HT_.out (by kernel_rfl)) (fun _ _ _ h => h) (Or.inr ⟨by rfl,rfl⟩) ?_ ?_
                                     rotate_left
                                     · simp only [Act.put,NRM]
                                       rfl
                                     refine pure_ (i := 45) (N := some 166) (v := undef) (a' := ?_) (ba 56 70368744177663) rfl rfl (any_of HT_.out (by kernel_rfl)) (fun _ _ _ h => h) (Or.inr ⟨by rfl,rfl⟩) ?_ ?_
                                     rotate_left
                                     · simp only [Act.put,NRM]
                                       rfl
                                     refine pure_ (i := 46) (N := some 167) (v := undef) (a' := ?_) (ba 56 140737488355327) rfl rfl (any_of HT_.out (by kernel_rfl)) (fun _ _ _ h => h) (Or.inr ⟨by rfl,rfl⟩) ?_ ?_
                                     rotate_left
                                     · simp only [Act.put,NRM]
                                       rfl
                                     refine pure_ (i := 47) (N := some 168) (v := ?_) (a' := ?_) (ba 56 281474976710655) rfl rfl (any_of HT_.out (by kernel_rfl)) (fun _ _ _ h => h) (Or.inl ⟨by rfl,?_⟩) ?_ ?_
                                     rotate_left
                                     · intro w'
                                       go_simp
                                       with_reducible rfl
                                     rotate_left
                                     · simp only [Act.put,NRM]
                                       rfl
                                     refine pure_ (i := 48) (N := some 169) (v := ?_) (a' := ?_) (ba 56 562949953421311) rfl rfl (any_of HT_.out (by kernel_rfl)) (fun _ _ _ h => h) (Or.inl ⟨by rfl,?_⟩) ?_ ?_
                                     rotate_left
                                     · intro w'
                                       go_simp
                                       with_reducible rfl
                                     rotate_left
                                     · simp only [Act.put,NRM]
                                       rfl
                                     refine pure_ (i := 49) (N := some 170) (v := undef) (a' := ?_) (ba 56 1125899906842623) rfl rfl (any_of HT_.out (by kernel_rfl)) (fun _ _ _ h => h) (Or.inr ⟨by rfl,rfl⟩) ?_ ?_
                                     rotate_left
                                     · simp only [Act.put,NRM]
                                       rfl
                                     refine pure_ (i := 50) (N := some 171) (v := undef) (a' := ?_) (ba 56 2251799813685247) rfl rfl (any_of HT_.out (by kernel_rfl)) (fun _ _ _ h => h) (Or.inr ⟨by rfl,rfl⟩) ?_ ?_
                                     rotate_left
                                     · simp only [Act.put,NRM]
                                       rfl
                                     refine pure_ (i := 51) (N := some 172) (v := undef) (a' := ?_) (ba 56 4503599627370495) rfl rfl (any_of HT_.out (by kernel_rfl)) (fun _ _ _ h => h) (Or.inr ⟨by rfl,rfl⟩) ?_ ?_
                                     rotate_left
                                     · simp only [Act.put,NRM]
                                       rfl
                                     refine pure_ (i := 52) (N := some 173) (v := undef) (a' := ?_) (ba 56 9007199254740991) rfl rfl (any_of HT_.out (by kernel_rfl)) (fun _ _ _ h => h) (Or.inr ⟨by rfl,rfl⟩) ?_ ?_
                                     rotate_left
                                     · simp only [Act.put,NRM]
                                       rfl
                                     refine pure_ (i := 53) (N := some 174) (v := undef) (a' := ?_) (ba 56 18014398509481983) rfl rfl (any_of HT_.out (by kernel_rfl)) (fun _ _ _ h => h) (Or.inr ⟨by rfl,rfl⟩) ?_ ?_
                                     rotate_left
                                     · simp only [Act.put,NRM]
                                       rfl
                                     refine pure_ (i := 54) (N := some 175) (v := ?_) (a' := ?_) (ba 56 36028797018963967) rfl rfl (any_of HT_.out (by kernel_rfl)) (fun _ _ _ h => h) (Or.inl ⟨by rfl,?_⟩) ?_ ?_
                                     rotate_left
                                     · intro w'
                                       go_simp
                                       with_reducible rfl
                                     rotate_left
                                     · simp only [Act.put,NRM]
                                       rfl
                                     refine pure_ (i := 55) (N := some 176) (v := ?_) (a' := ?_) (ba 56 72057594037927935) rfl rfl (any_of HT_.out (by kernel_rfl)) (fun _ _ _ h => h) (Or.inl ⟨by rfl,?_⟩) ?_ ?_
                                     rotate_left
                                     · intro w'
                                       go_simp
                                       with_reducible rfl
                                     rotate_left
                                     · simp only [Act.put,NRM]
                                       rfl
                                     refine done_ (done_of HT_.out (by kernel_rfl)) ?_
                                     have p810 : 0 ≤ (x17_4 : Int) := of_decide_eq_true (by assumption)
                                     have q810 : x17_4 < (t780.length : Int) := of_decide_eq_true (by assumption)
                                     obtain ⟨ad810,e810,hx810_0⟩ := Kd.at_int (Kd.R_reads' HO_8.out).2.2 x17_4 p810 q810
                                     obtain rfl : ad802 = ad810 := (by injection e810)
                                     replace p810 := eq_true p810
                                     replace q810 := eq_true q810
                                     try go_wp2
                                     (first | go_roundg k4 | (rw [show Value.bool false = Value.bool (decide (a1_1 ≤ ((rd_T64 l0_2 a1_0).f1))) from by rw [c96b0]];go_roundg k4) | (rw (occs := .pos [1]) [show Value.bool false = Value.bool (decide (a1_1 ≤ ((rd_T64 l0_2 a1_0).f1))) from by rw [c96b0]];go_roundg k4) | (rw (occs := .pos [2]) [show Value.bool false = Value.bool (decide (a1_1 ≤ ((rd_T64 l0_2 a1_0).f1))) from by rw [c96b0]];go_roundg k4) | (rw (occs := .pos [3]) [show Value.bool false = Value.bool (decide (a1_1 ≤ ((rd_T64 l0_2 a1_0).f1))) from by rw [c96b0]];go_roundg k4) | (rw (occs := .pos [1,2]) [show Value.bool false = Value.bool (decide (a1_1 ≤ ((rd_T64 l0_2 a1_0).f1))) from by rw [c96b0]];go_roundg k4) | (rw (occs := .pos [2,3]) [show Value.bool false = Value.bool (decide (a1_1 ≤ ((rd_T64 l0_2 a1_0).f1))) from by rw [c96b0]];go_roundg k4) | (rw (occs := .pos [1,3]) [show Value.bool false = Value.bool (decide (a1_1 ≤ ((rd_T64 l0_2 a1_0).f1))) from by rw [c96b0]];go_roundg k4) | (rw (occs := .pos [4]) [show Value.bool false = Value.bool (decide (a1_1 ≤ ((rd_T64 l0_2 a1_0).f1))) from by rw [c96b0]];go_roundg k4) | (rw (occs := .pos [5]) [show Value.bool false = Value.bool (decide (a1_1 ≤ ((rd_T64 l0_2 a1_0).f1))) from by rw [c96b0]];go_roundg k4))
                                     case measure => have := HJ3.out;have := HJ45.out;have := HJ80.out;have := HK4.out;omega
                                     case rel => exact ⟨(wrap64 (x16_4 + (rd t780 x17_4))),(wrap64 (x17_4 + 1)),(by first | rfl | (simp;done) | (simp [*];done)),(by first | rfl | (simp;done) | (simp [*];done)),H',⟨by have := HJ3.out;have := HJ45.out;have := HJ80.out;have := HK4.out;omega⟩,⟨by (with_reducible repeat (first | apply Kd.R_alloc | apply Kd.R_drewN | apply Kd.R_drew));exact HO_8.out⟩,⟨by (with_reducible repeat (first | apply Kd.R_alloc | apply Kd.R_drewN | apply Kd.R_drew));exact HO_11.out⟩,⟨BK771.out⟩,⟨BK772.out⟩,⟨BK779.out⟩,⟨HB.out⟩⟩
                                   as_aux_lemma =>
                                    rw [if_pos c96] at H
                                    have c96b0 : (decide (a1_1 ≤ ((rd_T64 l0_2 a1_0).f1))) = true := c96
                                    clear c96
                                    by_cases c97 : x17_4 = a1_0
                                    case neg =>
                                     as_aux_lemma =>
                                      rw [if_neg c97] at H
                                      have c97b0 : (x17_4 == a1_0) = false := beq_eq_false_iff_ne.mpr c97
                                      have c97b1 : (x17_4 != a1_0) = true := bne_iff_ne.mpr c97
                                      by_cases c102 : (rd t780 x17_4) > 0
                                      · rw [if_pos c102] at H
                                        exact absurd H (by simp)
                                      · as_aux_lemma =>
                                         rw [if_neg c102] at H
                                         have c102b0 : decide (0 < (rd t780 x17_4)) = false := decide_eq_false c102
                                         clear c102
                                         replace H' := am H
                                         try go_wp2
                                         replace HO_8 := am (Kd.R_drew HO_8.out)
                                         replace HO_11 := am (Kd.R_drew HO_11.out)
                                         replace BK771 := am (blk_drew BK771.out)
                                         replace BK772 := am (blk_drew BK772.out)
                                         replace BK779 := am (blk_drew BK779.out)
                                         replace HB := am (below_drew1 HB.out)
                                         obtain ⟨Ao104,co104,eo104⟩ := Kd.R_slice HO_8.out
                                         (first | subst eo104 | (injection eo104 with f1_ f2_ f3_;have f4_ := f1_.symm;have f5_ := f3_.symm;clear f1_ f2_ f3_;subst f4_;subst f5_))
                                         have p802 : 0 ≤ (x17_4 : Int) := of_decide_eq_true (by assumption)
                                         have q802 : x17_4 < (t780.length : Int) := of_decide_eq_true (by assumption)
                                         obtain ⟨ad802,e802,hx802_0⟩ := Kd.at_int (Kd.R_reads' HO_8.out).2.2 x17_4 p802 q802
                                         cases e802
                                         replace p802 := eq_true p802
                                         replace q802 := eq_true q802
                                         have p803 : 0 ≤ (x17_4 : Int) := of_decide_eq_true (by assumption)
                                         have q803 : x17_4 < (t780.length : Int) := of_decide_eq_true (by assumption)
                                         obtain ⟨ad803,e803,hx803_0⟩ := Kd.at_int (Kd.R_reads' HO_8.out).2.2 x17_4 p803 q803
                                         obtain rfl : ad802 = ad803 := (by injection e803)
                                         replace p803 := eq_true p803
                                         replace q803 := eq_true q803
                                         obtain ⟨Ao105,co105,eo105⟩ := Kd.R_slice HO_11.out
                                         (first | subst eo105 | (injection eo105 with f1_ f2_ f3_;have f4_ := f1_.symm;have f5_ := f3_.symm;clear f1_ f2_ f3_;subst f4_;subst f5_))
                                         have p804 : 0 ≤ (x17_4 : Int) := of_decide_eq_true (by assumption)
                                         have q804 : x17_4 < (t797.length : Int) := of_decide_eq_true (by assumption)
                                         obtain ⟨ad804,e804,hx804_0⟩ := Kd.at_int (Kd.R_reads' HO_11.out).2.2 x17_4 p804 q804
                                         cases e804
                                         replace p804 := eq_true p804
                                         replace q804 := eq_true q804
                                         have p805 : 0 ≤ (x17_4 : Int) := of_decide_eq_true (by assumption)
                                         have q805 : x17_4 < (t780.length : Int) := of_decide_eq_true (by assumption)
                                         obtain ⟨ad805,e805,hx805_0⟩ := Kd.at_int (Kd.R_reads' HO_8.out).2.2 x17_4 p805 q805
                                         obtain rfl : ad802 = ad805 := (by injection e805)
                                         replace p805 := eq_true p805
                                         replace q805 := eq_true q805
                                         have p808 : 0 ≤ (x17_4 : Int) := of_decide_eq_true (by assumption)
                                         have q808 : x17_4 < (t780.length : Int) := of_decide_eq_true (by assumption)
                                         obtain ⟨ad808,e808,hx808_0⟩ := Kd.at_int (Kd.R_reads' HO_8.out).2.2 x17_4 p808 q808
                                         obtain rfl : ad802 = ad808 := (by injection e808)
                                         replace p808 := eq_true p808
                                         replace q808 := eq_true q808
                                         refine start_ (n := 56) (S := fun w' => w'.cell? ⟨gb772,0,none⟩ = some (.int .i64 a1_0) ∧ w'.cell? ⟨gb772,1,none⟩ = some (.int .i64 a1_1) ∧ w'.cell? (ad802.add (x17_4).toNat) = some (.int .i64 (rd t780 x17_4)) ∧ w'.cell? (ad802.add (x17_4).toNat) = some (.int .i64 (rd t780 x17_4)) ∧ w'.cell? (ad804.add (x17_4).toNat) = some (.int .i64 (rd t797 x17_4)) ∧ w'.cell? (ad802.add (x17_4).toNat) = some (.int .i64 (rd t780 x17_4)) ∧ w'.cell? (ad802.add (x17_4).toNat) = some (.int .i64 (rd t780 x17_4))) (ds := []) (ba 56 0) (by kernel_rfl) rfl rfl ⟨(blk_cell BK772.out 0).trans rfl,(blk_cell BK772.out 1).trans rfl,hx802_0,hx803_0,hx804_0,hx805_0,hx808_0⟩ (fun hHeld => ?_);refine with_tabW l4_CastleLow.tab16 l4_CastleLow.bits16 (fun HT_ HW_ => ?_)
                                         generalize wr.drew = w103 at HO_8 HO_11 BK771 BK772 BK779 HB hx802_0 hx803_0 hx804_0 hx805_0 hx808_0 hHeld ⊢
                                         refine pure_ (i := 0) (N := some 121) (v := ?_) (a' := ?_) (ba 56 1) rfl rfl (any_of HT_.out (by kernel_rfl)) (fun _ _ _ h => h) (Or.inl ⟨by rfl,?_⟩) ?_ ?_
                                         rotate_left
                                         · intro w'
                                           go_simp
                                           with_reducible rfl
                                         rotate_left
                                         · simp only [Act.put,NRM]
                                           rfl
                                         refine pure_ (i := 1) (N := some 122) (v := ?_) (a' := ?_) (ba 56 3) rfl rfl (any_of HT_.out (by kernel_rfl)) (fun _ _ _ h => h) (Or.inl ⟨by rfl,?_⟩) ?_ ?_
                                         rotate_left
                                         · intro w'
                                           go_simp
                                           with_reducible rfl
                                         rotate_left
                                         · simp only [Act.put,NRM]
                                           rfl
                                         refine pure_ (i := 2) (N := some 123) (v := ?_) (a' := ?_) (ba 56 7) rfl rfl (any_of HT_.out (by kernel_rfl)) (fun _ _ _ h => h) (Or.inl ⟨by rfl,?_⟩) ?_ ?_
                                         rotate_left
                                         · intro w'
                                           go_simp
                                           with_reducible rfl
                                         rotate_left
                                         · simp only [Act.put,NRM]
                                           rfl
                                         refine take_ (i := 3) (N := some 124) (v := ?_) (a' := ?_) (ba 56 15) rfl rfl (take_ofW HT_.out HW_.out (by kernel_rfl)) (fun _ _ _ h => h) (Or.inl ⟨by rfl,?_⟩) hHeld ?_ ?_
                                         rotate_left
                                         · rintro w' ⟨s0,s1,s2,s3,s4,s5,s6⟩
                                           go_simp
                                           with_reducible rfl
                                         rotate_left
                                         · simp only [Act.put,NRM]
                                           rfl
                                         refine pure_ (i := 4) (N := some 125) (v := ?_) (a' := ?_) (ba 56 31) rfl rfl (any_of HT_.out (by kernel_rfl)) (fun _ _ _ h => h) (Or.inl ⟨by rfl,?_⟩) ?_ ?_
                                         rotate_left
                                         · intro w'
                                           go_simp
                                           with_reducible rfl
                                         rotate_left
                                         · simp only [Act.put,NRM]
                                           rfl
                                         refine pure_ (i := 5) (N := some 126) (v := ?_) (a' := ?_) (ba 56 63) rfl rfl (any_of HT_.out (by kernel_rfl)) (fun _ _ _ h => h) (Or.inl ⟨by rfl,?_⟩) ?_ ?_
                                         rotate_left
                                         · intro w'
                                           go_simp
                                           with_reducible rfl
                                         rotate_left
                                         · simp only [Act.put,NRM]
                                           rfl
                                         refine pure_ (i := 6) (N := some 127) (v := ?_) (a' := ?_) (ba 56 127) rfl rfl (any_of HT_.out (by kernel_rfl)) (fun _ _ _ h => h) (Or.inl ⟨by rfl,?_⟩) ?_ ?_
                                         rotate_left
                                         · intro w'
                                           go_simp
                                           with_reducible rfl
                                         rotate_left
                                         · simp only [Act.put,NRM]
                                           rfl
                                         refine pure_ (i := 7) (N := some 128) (v := ?_) (a' := ?_) (ba 56 255) rfl rfl (any_of HT_.out (by kernel_rfl)) (fun _ _ _ h => h) (Or.inl ⟨by rfl,?_⟩) ?_ ?_
                                         rotate_left
                                         · intro w'
                                           go_simp
                                           with_reducible rfl
                                         rotate_left
                                         · simp only [Act.put,NRM]
                                           rfl
                                         refine pure_ (i := 8) (N := some 129) (v := ?_) (a' := ?_) (ba 56 511) rfl rfl (any_of HT_.out (by kernel_rfl)) (fun _ _ _ h => h) (Or.inl ⟨by rfl,?_⟩) ?_ ?_
                                         rotate_left
                                         · intro w'
                                           go_simp
                                           with_reducible rfl
                                         rotate_left
                                         · simp only [Act.put,NRM]
                                           rfl
                                         refine take_ (i := 9) (N := some 130) (v := ?_) (a' := ?_) (ba 56 1023) rfl rfl (take_ofW HT_.out HW_.out (by kernel_rfl)) (fun _ _ _ h => h) (Or.inl ⟨by rfl,?_⟩) hHeld ?_ ?_
                                         rotate_left
                                         · rintro w' ⟨s0,s1,s2,s3,s4,s5,s6⟩
                                           go_simp
                                           with_reducible rfl
                                         rotate_left
                                         · simp only [Act.put,NRM]
                                           rfl
                                         refine pure_ (i := 10) (N := some 131) (v := ?_) (a' := ?_) (ba 56 2047) rfl rfl (any_of HT_.out (by kernel_rfl)) (fun _ _ _ h => h) (Or.inl ⟨by rfl,?_⟩) ?_ ?_
                                         rotate_left
                                         · intro w'
                                           go_simp
                                           with_reducible rfl
                                         rotate_left
                                         · simp only [Act.put,NRM]
                                           rfl
                                         refine pure_ (i := 11) (N := some 132) (v := ?_) (a' := ?_) (ba 56 4095) rfl rfl (any_of HT_.out (by kernel_rfl)) (fun _ _ _ h => h) (Or.inl ⟨by rfl,?_⟩) ?_ ?_
                                         rotate_left
                                         · intro w'
                                           go_simp
                                           with_reducible rfl
                                         rotate_left
                                         · simp only [Act.put,NRM]
                                           rfl
                                         refine pure_ (i := 12) (N := some 133) (v := ?_) (a' := ?_) (ba 56 8191) rfl rfl (any_of HT_.out (by kernel_rfl)) (fun _ _ _ h => h) (Or.inl ⟨by rfl,?_⟩) ?_ ?_
                                         rotate_left
                                         · intro w'
                                           go_simp
                                           with_reducible rfl
                                         rotate_left
                                         · simp only [Act.put,NRM]
                                           rfl
                                         refine pure_ (i := 13) (N := some 134) (v := ?_) (a' := ?_) (ba 56 16383) rfl rfl (any_of HT_.out (by kernel_rfl)) (fun _ _ _ h => h) (Or.inl ⟨by rfl,?_⟩) ?_ ?_
                                         rotate_left
                                         · intro w'
                                           go_simp
                                           with_reducible rfl
                                         rotate_left
                                         · simp only [Act.put,NRM]
                                           rfl
                                         refine pure_ (i := 14) (N := some 135) (v := ?_) (a' := ?_) (ba 56 32767) rfl rfl (any_of HT_.out (by kernel_rfl)) (fun _ _ _ h => h) (Or.inl ⟨by rfl,?_⟩) ?_ ?_
                                         rotate_left
                                         · intro w'
                                           go_simp
                                           with_reducible rfl
                                         rotate_left
                                         · simp only [Act.put,NRM]
                                           rfl
                                         refine pure_ (i := 15) (N := some 136) (v := ?_) (a' := ?_) (ba 56 65535) rfl rfl (any_of HT_.out (by kernel_rfl)) (fun _ _ _ h => h) (Or.inl ⟨by rfl,?_⟩) ?_ ?_
                                         rotate_left
                                         · intro w'
                                           go_simp
                                           with_reducible rfl
                                         rotate_left
                                         · simp only [Act.put,NRM]
                                           rfl
                                         refine pure_ (i := 17) (N := some 138) (v := ?_) (a' := ?_) (ba 56 196607) rfl rfl (any_of HT_.out (by kernel_rfl)) (fun _ _ _ h => h) (Or.inl ⟨by rfl,?_⟩) ?_ ?_
                                         rotate_left
                                         · intro w'
                                           go_simp
                                           with_reducible rfl
                                         rotate_left
                                         · simp only [Act.put,NRM]
                                           rfl
                                         refine pure_ (i := 18) (N := some 139) (v := ?_) (a' := ?_) (ba 56 458751) rfl rfl (any_of HT_.out (by kernel_rfl)) (fun _ _ _ h => h) (Or.inl ⟨by rfl,?_⟩) ?_ ?_
                                         rotate_left
                                         · intro w'
                                           go_simp
                                           with_reducible rfl
                                         rotate_left
                                         · simp only [Act.put,NRM]
                                           rfl
                                         refine pure_ (i := 19) (N := some 140) (v := ?_) (a' := ?_) (ba 56 983039) rfl rfl (any_of HT_.out (by kernel_rfl)) (fun _ _ _ h => h) (Or.inl ⟨by rfl,?_⟩) ?_ ?_
                                         rotate_left
                                         · intro w'
                                           go_simp
                                           with_reducible rfl
                                         rotate_left
                                         · simp only [Act.put,NRM]
                                           rfl
                                         refine take_ (i := 16) (N := some 137) (v := ?_) (a' := ?_) (ba 56 1048575) rfl rfl (take_ofW HT_.out HW_.out (by kernel_rfl)) (fun _ _ _ h => h) (Or.inl ⟨by rfl,?_⟩) hHeld ?_ ?_
                                         rotate_left
                                         · rintro w' ⟨s0,s1,s2,s3,s4,s5,s6⟩
                                           go_simp
                                           with_reducible rfl
                                         rotate_left
                                         · simp only [Act.put,NRM]
                                           rfl
                                         refine take_ (i := 20) (N := some 141) (v := ?_) (a' := ?_) (ba 56 2097151) rfl rfl (take_ofW HT_.out HW_.out (by kernel_rfl)) (fun _ _ _ h => h) (Or.inl ⟨by rfl,?_⟩) hHeld ?_ ?_
                                         rotate_left
                                         · rintro w' ⟨s0,s1,s2,s3,s4,s5,s6⟩
                                           go_simp
                                           with_reducible rfl
                                         rotate_left
                                         · simp only [Act.put,NRM]
                                           rfl
                                         refine pure_ (i := 21) (N := some 142) (v := ?_) (a' := ?_) (ba 56 4194303) rfl rfl (any_of HT_.out (by kernel_rfl)) (fun _ _ _ h => h) (Or.inl ⟨by rfl,?_⟩) ?_ ?_
                                         rotate_left
                                         · intro w'
                                           go_simp
                                           with_reducible rfl
                                         rotate_left
                                         · simp only [Act.put,NRM]
                                           rfl
                                         refine pure_ (i := 22) (N := some 143) (v := ?_) (a' := ?_) (ba 56 8388607) rfl rfl (any_of HT_.out (by kernel_rfl)) (fun _ _ _ h => h) (Or.inl ⟨by rfl,?_⟩) ?_ ?_
                                         rotate_left
                                         · intro w'
                                           go_simp
                                           with_reducible rfl
                                         rotate_left
                                         · simp only [Act.put,NRM]
                                           rfl
                                         refine pure_ (i := 23) (N := some 144) (v := ?_) (a' := ?_) (ba 56 16777215) rfl rfl (any_of HT_.out (by kernel_rfl)) (fun _ _ _ h => h) (Or.inl ⟨by rfl,?_⟩) ?_ ?_
                                         rotate_left
                                         · intro w'
                                           go_simp
                                           with_reducible rfl
                                         rotate_left
                                         · simp only [Act.put,NRM]
                                           rfl
                                         refine pure_ (i := 24) (N := some 145) (v := ?_) (a' := ?_) (ba 56 33554431) rfl rfl (any_of HT_.out (by kernel_rfl)) (fun _ _ _ h => h) (Or.inl ⟨by rfl,?_⟩) ?_ ?_
                                         rotate_left
                                         · intro w'
                                           go_simp
                                           with_reducible rfl
                                         rotate_left
                                         · simp only [Act.put,NRM]
                                           rfl
                                         refine pure_ (i := 25) (N := some 146) (v := ?_) (a' := ?_) (ba 56 67108863) rfl rfl (any_of HT_.out (by kernel_rfl)) (fun _ _ _ h => h) (Or.inl ⟨by rfl,?_⟩) ?_ ?_
                                         rotate_left
                                         · intro w'
                                           go_simp
                                           with_reducible rfl
                                         rotate_left
                                         · simp only [Act.put,NRM]
                                           rfl
                                         refine pure_ (i := 26) (N := some 147) (v := ?_) (a' := ?_) (ba 56 134217727) rfl rfl (any_of HT_.out (by kernel_rfl)) (fun _ _ _ h => h) (Or.inl ⟨by rfl,?_⟩) ?_ ?_
                                         rotate_left
                                         · intro w'
                                           go_simp
                                           with_reducible rfl
                                         rotate_left
                                         · simp only [Act.put,NRM]
                                           rfl
                                         refine pure_ (i := 27) (N := some 148) (v := ?_) (a' := ?_) (ba 56 268435455) rfl rfl (any_of HT_.out (by kernel_rfl)) (fun _ _ _ h => h) (Or.inl ⟨by rfl,?_⟩) ?_ ?_
                                         rotate_left
                                         · intro w'
                                           go_simp
                                           with_reducible rfl
                                         rotate_left
                                         · simp only [Act.put,NRM]
                                           rfl
                                         refine pure_ (i := 28) (N := some 149) (v := ?_) (a' := ?_) (ba 56 536870911) rfl rfl (any_of HT_.out (by kernel_rfl)) (fun _ _ _ h => h) (Or.inl ⟨by rfl,?_⟩) ?_ ?_
                                         rotate_left
                                         · intro w'
                                           go_simp
                                           with_reducible rfl
                                         rotate_left
                                         · simp only [Act.put,NRM]
                                           rfl
                                         refine take_ (i := 29) (N := some 150) (v := ?_) (a' := ?_) (ba 56 1073741823) rfl rfl (take_ofW HT_.out HW_.out (by kernel_rfl)) (fun _ _ _ h => h) (Or.inl ⟨by rfl,?_⟩) hHeld ?_ ?_
                                         rotate_left
                                         · rintro w' ⟨s0,s1,s2,s3,s4,s5,s6⟩
                                           go_simp
                                           with_reducible rfl
                                         rotate_left
                                         · simp only [Act.put,NRM]
                                           rfl
                                         refine pure_ (i := 30) (N := some 151) (v := ?_) (a' := ?_) (ba 56 2147483647) rfl rfl (any_of HT_.out (by kernel_rfl)) (fun _ _ _ h => h) (Or.inl ⟨by rfl,?_⟩) ?_ ?_
                                         rotate_left
                                         · intro w'
                                           go_simp
                                           with_reducible rfl
                                         rotate_left
                                         · simp only [Act.put,NRM]
                                           rfl
                                         refine pure_ (i := 31) (N := some 152) (v := ?_) (a' := ?_) (ba 56 4294967295) rfl rfl (any_of HT_.out (by kernel_rfl)) (fun _ _ _ h => h) (Or.inl ⟨by rfl,?_⟩) ?_ ?_
                                         rotate_left
                                         · intro w'
                                           go_simp
                                           with_reducible rfl
                                         rotate_left
                                         · simp only [Act.put,NRM]
                                           rfl
                                         refine pure_ (i := 32) (N := some 153) (v := ?_) (a' := ?_) (ba 56 8589934591) rfl rfl (any_of HT_.out (by kernel_rfl)) (fun _ _ _ h => h) (Or.inl ⟨by rfl,?_⟩) ?_ ?_
                                         rotate_left
                                         · intro w'
                                           go_simp
                                           with_reducible rfl
                                         rotate_left
                                         · simp only [Act.put,NRM]
                                           rfl
                                         refine pure_ (i := 33) (N := some 154) (v := undef) (a' := ?_) (ba 56 17179869183) rfl rfl (any_of HT_.out (by kernel_rfl)) (fun _ _ _ h => h) (Or.inr ⟨by rfl,rfl⟩) ?_ ?_
                                         rotate_left
                                         · simp only [Act.put,NRM]
                                           rfl
                                         refine pure_ (i := 34) (N := some 155) (v := undef) (a' := ?_) (ba 56 34359738367) rfl rfl (any_of HT_.out (by kernel_rfl)) (fun _ _ _ h => h) (Or.inr ⟨by rfl,rfl⟩) ?_ ?_
                                         rotate_left
                                         · simp only [Act.put,NRM]
                                           rfl
                                         refine pure_ (i := 35) (N := some 156) (v := undef) (a' := ?_) (ba 56 68719476735) rfl rfl (any_of HT_.out (by kernel_rfl)) (fun _ _ _ h => h) (Or.inr ⟨by rfl,rfl⟩) ?_ ?_
                                         rotate_left
                                         · simp only [Act.put,NRM]
                                           rfl
                                         refine pure_ (i := 36) (N := some 157) (v := undef) (a' := ?_) (ba 56 137438953471) rfl rfl (any_of HT_.out (by kernel_rfl)) (fun _ _ _ h => h) (Or.inr ⟨by rfl,rfl⟩) ?_ ?_
                                         rotate_left
                                         · simp only [Act.put,NRM]
                                           rfl
                                         refine pure_ (i := 37) (N := some 158) (v := undef) (a' := ?_) (ba 56 274877906943) rfl rfl (any_of HT_.out (by kernel_rfl)) (fun _ _ _ h => h) (Or.inr ⟨by rfl,rfl⟩) ?_ ?_
                                         rotate_left
                                         · simp only [Act.put,NRM]
                                           rfl
                                         refine pure_ (i := 38) (N := some 159) (v := ?_) (a' := ?_) (ba 56 549755813887) rfl rfl (any_of HT_.out (by kernel_rfl)) (fun _ _ _ h => h) (Or.inl ⟨by rfl,?_⟩) ?_ ?_
                                         rotate_left
                                         · intro w'
                                           go_simp
                                           with_reducible rfl
                                         rotate_left
                                         · simp only [Act.put,NRM]
                                           rfl
                                         refine pure_ (i := 39) (N := some 160) (v := ?_) (a' := ?_) (ba 56 1099511627775) rfl rfl (any_of HT_.out (by kernel_rfl)) (fun _ _ _ h => h) (Or.inl ⟨by rfl,?_⟩) ?_ ?_
                                         rotate_left
                                         · intro w'
                                           go_simp
                                           with_reducible rfl
                                         rotate_left
                                         · simp only [Act.put,NRM]
                                           rfl
                                         refine pure_ (i := 40) (N := some 161) (v := ?_) (a' := ?_) (ba 56 2199023255551) rfl rfl (any_of HT_.out (by kernel_rfl)) (fun _ _ _ h => h) (Or.inl ⟨by rfl,?_⟩) ?_ ?_
                                         rotate_left
                                         · intro w'
                                           go_simp
                                           with_reducible rfl
                                         rotate_left
                                         · simp only [Act.put,NRM]
                                           rfl
                                         refine pure_ (i := 41) (N := some 162) (v := ?_) (a' := ?_) (ba 56 4398046511103) rfl rfl (any_of HT_.out (by kernel_rfl)) (fun _ _ _ h => h) (Or.inl ⟨by rfl,?_⟩) ?_ ?_
                                         rotate_left
                                         · intro w'
                                           go_simp
                                           with_reducible rfl
                                         rotate_left
                                         · simp only [Act.put,NRM]
                                           rfl
                                         refine pure_ (i := 42) (N := some 163) (v := ?_) (a' := ?_) (ba 56 8796093022207) rfl rfl (any_of HT_.out (by kernel_rfl)) (fun _ _ _ h => h) (Or.inl ⟨by rfl,?_⟩) ?_ ?_
                                         rotate_left
                                         · intro w'
                                           go_simp
                                           with_reducible rfl
                                         rotate_left
                                         · simp only [Act.put,NRM]
                                           rfl
                                         refine pure_ (i := 43) (N := some 164) (v := ?_) (a' := ?_) (ba 56 17592186044415) rfl rfl (any_of HT_.out (by kernel_rfl)) (fun _ _ _ h => h) (Or.inl ⟨by rfl,?_⟩) ?_ ?_
                                         rotate_left
                                         · intro w'
                                           go_simp
                                           with_reducible rfl
                                         rotate_left
                                         · simp only [Act.put,NRM]
                                           rfl
                                         refine pure_ (i := 44) (N := some 165) (v := ?_) (a' := ?_) (ba 56 35184372088831) rfl rfl (any_of HT_.out (by kernel_rfl)) (fun _ _ _ h => h) (Or.inl ⟨by rfl,?_⟩) ?_ ?_
                                         rotate_left
                                         · intro w'
                                           go_simp
                                           with_reducible rfl
                                         rotate_left
                                         · simp only [Act.put,NRM]
                                           rfl
                                         refine take_ (i := 45) (N := some 166) (v := ?_) (a' := ?_) (ba 56 70368744177663) rfl rfl (take_ofW HT_.out HW_.out (by kernel_rfl)) (fun _ _ _ h => h) (Or.inl ⟨by rfl,?_⟩) hHeld ?_ ?_
                                         rotate_left
                                         · rintro w' ⟨s0,s1,s2,s3,s4,s5,s6⟩
                                           go_simp
                                           with_reducible rfl
                                         rotate_left
                                         · simp only [Act.put,NRM]
                                           rfl
                                         refine pure_ (i := 46) (N := some 167) (v := ?_) (a' := ?_) (ba 56 140737488355327) rfl rfl (any_of HT_.out (by kernel_rfl)) (fun _ _ _ h => h) (Or.inl ⟨by rfl,?_⟩) ?_ ?_
                                         rotate_left
                                         · intro w'
                                           go_simp
                                           with_reducible rfl
                                         rotate_left
                                         · simp only [Act.put,NRM]
                                           rfl
                                         refine pure_ (i := 47) (N := some 168) (v := ?_) (a' := ?_) (ba 56 281474976710655) rfl rfl (any_of HT_.out (by kernel_rfl)) (fun _ _ _ h => h) (Or.inl ⟨by rfl,?_⟩) ?_ ?_
                                         rotate_left
                                         · intro w'
                                           go_simp
                                           with_reducible rfl
                                         rotate_left
                                         · simp only [Act.put,NRM]
                                           rfl
                                         refine pure_ (i := 48) (N := some 169) (v := ?_) (a' := ?_) (ba 56 562949953421311) rfl rfl (any_of HT_.out (by kernel_rfl)) (fun _ _ _ h => h) (Or.inl ⟨by rfl,?_⟩) ?_ ?_
                                         rotate_left
                                         · intro w'
                                           go_simp
                                           with_reducible rfl
                                         rotate_left
                                         · simp only [Act.put,NRM]
                                           rfl
                                         refine pure_ (i := 49) (N := some 170) (v := ?_) (a' := ?_) (ba 56 1125899906842623) rfl rfl (any_of HT_.out (by kernel_rfl)) (fun _ _ _ h => h) (Or.inl ⟨by rfl,?_⟩) ?_ ?_
                                         rotate_left
                                         · intro w'
                                           go_simp
                                           with_reducible rfl
                                         rotate_left
                                         · simp only [Act.put,NRM]
                                           rfl
                                         refine pure_ (i := 50) (N := some 171) (v := ?_) (a' := ?_) (ba 56 2251799813685247) rfl rfl (any_of HT_.out (by kernel_rfl)) (fun _ _ _ h => h) (Or.inl ⟨by rfl,?_⟩) ?_ ?_
                                         rotate_left
                                         · intro w'
                                           go_simp
                                           with_reducible rfl
                                         rotate_left
                                         · simp only [Act.put,NRM]
                                           rfl
                                         refine pure_ (i := 51) (N := some 172) (v := ?_) (a' := ?_) (ba 56 4503599627370495) rfl rfl (any_of HT_.out (by kernel_rfl)) (fun _ _ _ h => h) (Or.inl ⟨by rfl,?_⟩) ?_ ?_
                                         rotate_left
                                         · intro w'
                                           go_simp
                                           with_reducible rfl
                                         rotate_left
                                         · simp only [Act.put,NRM]
                                           rfl
                                         refine take_ (i := 52) (N := some 173) (v := ?_) (a' := ?_) (ba 56 9007199254740991) rfl rfl (take_ofW HT_.out HW_.out (by kernel_rfl)) (fun _ _ _ h => h) (Or.inl ⟨by rfl,?_⟩) hHeld ?_ ?_
                                         rotate_left
                                         · rintro w' ⟨s0,s1,s2,s3,s4,s5,s6⟩
                                           go_simp
                                           with_reducible rfl
                                         rotate_left
                                         · simp only [Act.put,NRM]
                                           rfl
                                         refine pure_ (i := 53) (N := some 174) (v := ?_) (a' := ?_) (ba 56 18014398509481983) rfl rfl (any_of HT_.out (by kernel_rfl)) (fun _ _ _ h => h) (Or.inl ⟨by rfl,?_⟩) ?_ ?_
                                         rotate_left
                                         · intro w'
                                           go_simp
                                           with_reducible rfl
                                         rotate_left
                                         · simp only [Act.put,NRM]
                                           rfl
                                         refine pure_ (i := 54) (N := some 175) (v := ?_) (a' := ?_) (ba 56 36028797018963967) rfl rfl (any_of HT_.out (by kernel_rfl)) (fun _ _ _ h => h) (Or.inl ⟨by rfl,?_⟩) ?_ ?_
                                         rotate_left
                                         · intro w'
                                           go_simp
                                           with_reducible rfl
                                         rotate_left
                                         · simp only [Act.put,NRM]
                                           rfl
                                         refine pure_ (i := 55) (N := some 176) (v := ?_) (a' := ?_) (ba 56 72057594037927935) rfl rfl (any_of HT_.out (by kernel_rfl)) (fun _ _ _ h => h) (Or.inl ⟨by rfl,?_⟩) ?_ ?_
                                         rotate_left
                                         · intro w'
                                           go_simp
                                           with_reducible rfl
                                         rotate_left
                                         · simp only [Act.put,NRM]
                                           rfl
                                         refine done_ (done_of HT_.out (by kernel_rfl)) ?_
                                         have p809 : 0 ≤ (x17_4 : Int) := of_decide_eq_true (by assumption)
                                         have q809 : x17_4 < (t780.length : Int) := of_decide_eq_true (by assumption)
                                         obtain ⟨ad809,e809,hx809_0⟩ := Kd.at_int (Kd.R_reads' HO_8.out).2.2 x17_4 p809 q809
                                         obtain rfl : ad802 = ad809 := (by injection e809)
                                         replace p809 := eq_true p809
                                         replace q809 := eq_true q809
                                         try go_wp2
                                         (first | go_roundg k4 | (rw [show Value.bool true = Value.bool (decide (a1_1 ≤ ((rd_T64 l0_2 a1_0).f1))) from by rw [c96b0]];go_roundg k4) | (rw (occs := .pos [1]) [show Value.bool true = Value.bool (decide (a1_1 ≤ ((rd_T64 l0_2 a1_0).f1))) from by rw [c96b0]];go_roundg k4) | (rw (occs := .pos [2]) [show Value.bool true = Value.bool (decide (a1_1 ≤ ((rd_T64 l0_2 a1_0).f1))) from by rw [c96b0]];go_roundg k4) | (rw (occs := .pos [3]) [show Value.bool true = Value.bool (decide (a1_1 ≤ ((rd_T64 l0_2 a1_0).f1))) from by rw [c96b0]];go_roundg k4) | (rw (occs := .pos [1,2]) [show Value.bool true = Value.bool (decide (a1_1 ≤ ((rd_T64 l0_2 a1_0).f1))) from by rw [c96b0]];go_roundg k4) | (rw (occs := .pos [2,3]) [show Value.bool true = Value.bool (decide (a1_1 ≤ ((rd_T64 l0_2 a1_0).f1))) from by rw [c96b0]];go_roundg k4) | (rw (occs := .pos [1,3]) [show Value.bool true = Value.bool (decide (a1_1 ≤ ((rd_T64 l0_2 a1_0).f1))) from by rw [c96b0]];go_roundg k4) | (rw (occs := .pos [4]) [show Value.bool true = Value.bool (decide (a1_1 ≤ ((rd_T64 l0_2 a1_0).f1))) from by rw [c96b0]];go_roundg k4) | (rw (occs := .pos [5]) [show Value.bool true = Value.bool (decide (a1_1 ≤ ((rd_T64 l0_2 a1_0).f1))) from by rw [c96b0]];go_roundg k4))
                                         case measure => have := HJ3.out;have := HJ45.out;have := HJ80.out;have := HK4.out;omega
                                         case rel => exact ⟨(wrap64 (x16_4 + (rd t780 x17_4))),(wrap64 (x17_4 + 1)),(by first | rfl | (simp;done) | (simp [*];done)),(by first | rfl | (simp;done) | (simp [*];done)),H',⟨by have := HJ3.out;have := HJ45.out;have := HJ80.out;have := HK4.out;omega⟩,⟨by (with_reducible repeat (first | apply Kd.R_alloc | apply Kd.R_drewN | apply Kd.R_drew));exact HO_8.out⟩,⟨by (with_reducible repeat (first | apply Kd.R_alloc | apply Kd.R_drewN | apply Kd.R_drew));exact HO_11.out⟩,⟨BK771.out⟩,⟨BK772.out⟩,⟨BK779.out⟩,⟨HB.out⟩⟩
                                    as_aux_lemma =>
                                     rw [if_pos c97] at H
                                     have c97b0 : (x17_4 == a1_0) = true := beq_iff_eq.mpr c97
                                     have c97b1 : (x17_4 != a1_0) = false := bne_eq_false_iff_eq.mpr c97
                                     clear c97
                                     by_cases c98 : (rd t780 x17_4) < 0
                                     · rw [if_pos c98] at H
                                       have c98b0 : decide ((rd t780 x17_4) < 0) = true := decide_eq_true c98
                                       clear c98
                                       exact absurd H (by simp)
                                     · as_aux_lemma =>
                                        rw [if_neg c98] at H
                                        have c98b0 : decide ((rd t780 x17_4) < 0) = false := decide_eq_false c98
                                        clear c98
                                        replace H' := am H
                                        try go_wp2
                                        replace HO_8 := am (Kd.R_drew HO_8.out)
                                        replace HO_11 := am (Kd.R_drew HO_11.out)
                                        replace BK771 := am (blk_drew BK771.out)
                                        replace BK772 := am (blk_drew BK772.out)
                                        replace BK779 := am (blk_drew BK779.out)
                                        replace HB := am (below_drew1 HB.out)
                                        obtain ⟨Ao100,co100,eo100⟩ := Kd.R_slice HO_8.out
                                        (first | subst eo100 | (injection eo100 with f1_ f2_ f3_;have f4_ := f1_.symm;have f5_ := f3_.symm;clear f1_ f2_ f3_;subst f4_;subst f5_))
                                        have p802 : 0 ≤ (x17_4 : Int) := of_decide_eq_true (by assumption)
                                        have q802 : x17_4 < (t780.length : Int) := of_decide_eq_true (by assumption)
                                        obtain ⟨ad802,e802,hx802_0⟩ := Kd.at_int (Kd.R_reads' HO_8.out).2.2 x17_4 p802 q802
                                        cases e802
                                        replace p802 := eq_true p802
                                        replace q802 := eq_true q802
                                        have p803 : 0 ≤ (x17_4 : Int) := of_decide_eq_true (by assumption)
                                        have q803 : x17_4 < (t780.length : Int) := of_decide_eq_true (by assumption)
                                        obtain ⟨ad803,e803,hx803_0⟩ := Kd.at_int (Kd.R_reads' HO_8.out).2.2 x17_4 p803 q803
                                        obtain rfl : ad802 = ad803 := (by injection e803)
                                        replace p803 := eq_true p803
                                        replace q803 := eq_true q803
                                        obtain ⟨Ao101,co101,eo101⟩ := Kd.R_slice HO_11.out
                                        (first | subst eo101 | (injection eo101 with f1_ f2_ f3_;have f4_ := f1_.symm;have f5_ := f3_.symm;clear f1_ f2_ f3_;subst f4_;subst f5_))
                                        have p804 : 0 ≤ (x17_4 : Int) := of_decide_eq_true (by assumption)
                                        have q804 : x17_4 < (t797.length : Int) := of_decide_eq_true (by assumption)
                                        obtain ⟨ad804,e804,hx804_0⟩ := Kd.at_int (Kd.R_reads' HO_11.out).2.2 x17_4 p804 q804
                                        cases e804
                                        replace p804 := eq_true p804
                                        replace q804 := eq_true q804
                                        have p805 : 0 ≤ (x17_4 : Int) := of_decide_eq_true (by assumption)
                                        have q805 : x17_4 < (t780.length : Int) := of_decide_eq_true (by assumption)
                                        obtain ⟨ad805,e805,hx805_0⟩ := Kd.at_int (Kd.R_reads' HO_8.out).2.2 x17_4 p805 q805
                                        obtain rfl : ad802 = ad805 := (by injection e805)
                                        replace p805 := eq_true p805
                                        replace q805 := eq_true q805
                                        have p806 : 0 ≤ (x17_4 : Int) := of_decide_eq_true (by assumption)
                                        have q806 : x17_4 < (t780.length : Int) := of_decide_eq_true (by assumption)
                                        obtain ⟨ad806,e806,hx806_0⟩ := Kd.at_int (Kd.R_reads' HO_8.out).2.2 x17_4 p806 q806
                                        obtain rfl : ad802 = ad806 := (by injection e806)
                                        replace p806 := eq_true p806
                                        replace q806 := eq_true q806
                                        refine start_ (n := 56) (S := fun w' => w'.cell? ⟨gb772,0,none⟩ = some (.int .i64 a1_0) ∧ w'.cell? ⟨gb772,1,none⟩ = some (.int .i64 a1_1) ∧ w'.cell? (ad802.add (x17_4).toNat) = some (.int .i64 (rd t780 x17_4)) ∧ w'.cell? (ad802.add (x17_4).toNat) = some (.int .i64 (rd t780 x17_4)) ∧ w'.cell? (ad804.add (x17_4).toNat) = some (.int .i64 (rd t797 x17_4)) ∧ w'.cell? (ad802.add (x17_4).toNat) = some (.int .i64 (rd t780 x17_4)) ∧ w'.cell? (ad802.add (x17_4).toNat) = some (.int .i64 (rd t780 x17_4))) (ds := []) (ba 56 0) (by kernel_rfl) rfl rfl ⟨(blk_cell BK772.out 0).trans rfl,(blk_cell BK772.out 1).trans rfl,hx802_0,hx803_0,hx804_0,hx805_0,hx806_0⟩ (fun hHeld => ?_);refine with_tabW l4_CastleLow.tab16 l4_CastleLow.bits16 (fun HT_ HW_ => ?_)
                                        generalize wr.drew = w99 at HO_8 HO_11 BK771 BK772 BK779 HB hx802_0 hx803_0 hx804_0 hx805_0 hx806_0 hHeld ⊢
                                        refine pure_ (i := 0) (N := some 121) (v := ?_) (a' := ?_) (ba 56 1) rfl rfl (any_of HT_.out (by kernel_rfl)) (fun _ _ _ h => h) (Or.inl ⟨by rfl,?_⟩) ?_ ?_
                                        rotate_left
                                        · intro w'
                                          go_simp
                                          with_reducible rfl
                                        rotate_left
                                        · simp only [Act.put,NRM]
                                          rfl
                                        refine pure_ (i := 1) (N := some 122) (v := ?_) (a' := ?_) (ba 56 3) rfl rfl (any_of HT_.out (by kernel_rfl)) (fun _ _ _ h => h) (Or.inl ⟨by rfl,?_⟩) ?_ ?_
                                        rotate_left
                                        · intro w'
                                          go_simp
                                          with_reducible rfl
                                        rotate_left
                                        · simp only [Act.put,NRM]
                                          rfl
                                        refine pure_ (i := 2) (N := some 123) (v := ?_) (a' := ?_) (ba 56 7) rfl rfl (any_of HT_.out (by kernel_rfl)) (fun _ _ _ h => h) (Or.inl ⟨by rfl,?_⟩) ?_ ?_
                                        rotate_left
                                        · intro w'
                                          go_simp
                                          with_reducible rfl
                                        rotate_left
                                        · simp only [Act.put,NRM]
                                          rfl
                                        refine take_ (i := 3) (N := some 124) (v := ?_) (a' := ?_) (ba 56 15) rfl rfl (take_ofW HT_.out HW_.out (by kernel_rfl)) (fun _ _ _ h => h) (Or.inl ⟨by rfl,?_⟩) hHeld ?_ ?_
                                        rotate_left
                                        · rintro w' ⟨s0,s1,s2,s3,s4,s5,s6⟩
                                          go_simp
                                          with_reducible rfl
                                        rotate_left
                                        · simp only [Act.put,NRM]
                                          rfl
                                        refine pure_ (i := 4) (N := some 125) (v := ?_) (a' := ?_) (ba 56 31) rfl rfl (any_of HT_.out (by kernel_rfl)) (fun _ _ _ h => h) (Or.inl ⟨by rfl,?_⟩) ?_ ?_
                                        rotate_left
                                        · intro w'
                                          go_simp
                                          with_reducible rfl
                                        rotate_left
                                        · simp only [Act.put,NRM]
                                          rfl
                                        refine pure_ (i := 5) (N := some 126) (v := ?_) (a' := ?_) (ba 56 63) rfl rfl (any_of HT_.out (by kernel_rfl)) (fun _ _ _ h => h) (Or.inl ⟨by rfl,?_⟩) ?_ ?_
                                        rotate_left
                                        · intro w'
                                          go_simp
                                          with_reducible rfl
                                        rotate_left
                                        · simp only [Act.put,NRM]
                                          rfl
                                        refine pure_ (i := 6) (N := some 127) (v := ?_) (a' := ?_) (ba 56 127) rfl rfl (any_of HT_.out (by kernel_rfl)) (fun _ _ _ h => h) (Or.inl ⟨by rfl,?_⟩) ?_ ?_
                                        rotate_left
                                        · intro w'
                                          go_simp
                                          with_reducible rfl
                                        rotate_left
                                        · simp only [Act.put,NRM]
                                          rfl
                                        refine pure_ (i := 7) (N := some 128) (v := ?_) (a' := ?_) (ba 56 255) rfl rfl (any_of HT_.out (by kernel_rfl)) (fun _ _ _ h => h) (Or.inl ⟨by rfl,?_⟩) ?_ ?_
                                        rotate_left
                                        · intro w'
                                          go_simp
                                          with_reducible rfl
                                        rotate_left
                                        · simp only [Act.put,NRM]
                                          rfl
                                        refine pure_ (i := 8) (N := some 129) (v := ?_) (a' := ?_) (ba 56 511) rfl rfl (any_of HT_.out (by kernel_rfl)) (fun _ _ _ h => h) (Or.inl ⟨by rfl,?_⟩) ?_ ?_
                                        rotate_left
                                        · intro w'
                                          go_simp
                                          with_reducible rfl
                                        rotate_left
                                        · simp only [Act.put,NRM]
                                          rfl
                                        refine take_ (i := 9) (N := some 130) (v := ?_) (a' := ?_) (ba 56 1023) rfl rfl (take_ofW HT_.out HW_.out (by kernel_rfl)) (fun _ _ _ h => h) (Or.inl ⟨by rfl,?_⟩) hHeld ?_ ?_
                                        rotate_left
                                        · rintro w' ⟨s0,s1,s2,s3,s4,s5,s6⟩
                                          go_simp
                                          with_reducible rfl
                                        rotate_left
                                        · simp only [Act.put,NRM]
                                          rfl
                                        refine pure_ (i := 10) (N := some 131) (v := ?_) (a' := ?_) (ba 56 2047) rfl rfl (any_of HT_.out (by kernel_rfl)) (fun _ _ _ h => h) (Or.inl ⟨by rfl,?_⟩) ?_ ?_
                                        rotate_left
                                        · intro w'
                                          go_simp
                                          with_reducible rfl
                                        rotate_left
                                        · simp only [Act.put,NRM]
                                          rfl
                                        refine pure_ (i := 11) (N := some 132) (v := ?_) (a' := ?_) (ba 56 4095) rfl rfl (any_of HT_.out (by kernel_rfl)) (fun _ _ _ h => h) (Or.inl ⟨by rfl,?_⟩) ?_ ?_
                                        rotate_left
                                        · intro w'
                                          go_simp
                                          with_reducible rfl
                                        rotate_left
                                        · simp only [Act.put,NRM]
                                          rfl
                                        refine pure_ (i := 12) (N := some 133) (v := ?_) (a' := ?_) (ba 56 8191) rfl rfl (any_of HT_.out (by kernel_rfl)) (fun _ _ _ h => h) (Or.inl ⟨by rfl,?_⟩) ?_ ?_
                                        rotate_left
                                        · intro w'
                                          go_simp
                                          with_reducible rfl
                                        rotate_left
                                        · simp only [Act.put,NRM]
                                          rfl
                                        refine pure_ (i := 13) (N := some 134) (v := ?_) (a' := ?_) (ba 56 16383) rfl rfl (any_of HT_.out (by kernel_rfl)) (fun _ _ _ h => h) (Or.inl ⟨by rfl,?_⟩) ?_ ?_
                                        rotate_left
                                        · intro w'
                                          go_simp
                                          with_reducible rfl
                                        rotate_left
                                        · simp only [Act.put,NRM]
                                          rfl
                                        refine pure_ (i := 14) (N := some 135) (v := ?_) (a' := ?_) (ba 56 32767) rfl rfl (any_of HT_.out (by kernel_rfl)) (fun _ _ _ h => h) (Or.inl ⟨by rfl,?_⟩) ?_ ?_
                                        rotate_left
                                        · intro w'
                                          go_simp
                                          with_reducible rfl
                                        rotate_left
                                        · simp only [Act.put,NRM]
                                          rfl
                                        refine pure_ (i := 15) (N := some 136) (v := ?_) (a' := ?_) (ba 56 65535) rfl rfl (any_of HT_.out (by kernel_rfl)) (fun _ _ _ h => h) (Or.inl ⟨by rfl,?_⟩) ?_ ?_
                                        rotate_left
                                        · intro w'
                                          go_simp
                                          with_reducible rfl
                                        rotate_left
                                        · simp only [Act.put,NRM]
                                          rfl
                                        refine pure_ (i := 17) (N := some 138) (v := ?_) (a' := ?_) (ba 56 196607) rfl rfl (any_of HT_.out (by kernel_rfl)) (fun _ _ _ h => h) (Or.inl ⟨by rfl,?_⟩) ?_ ?_
                                        rotate_left
                                        · intro w'
                                          go_simp
                                          with_reducible rfl
                                        rotate_left
                                        · simp only [Act.put,NRM]
                                          rfl
                                        refine pure_ (i := 18) (N := some 139) (v := ?_) (a' := ?_) (ba 56 458751) rfl rfl (any_of HT_.out (by kernel_rfl)) (fun _ _ _ h => h) (Or.inl ⟨by rfl,?_⟩) ?_ ?_
                                        rotate_left
                                        · intro w'
                                          go_simp
                                          with_reducible rfl
                                        rotate_left
                                        · simp only [Act.put,NRM]
                                          rfl
                                        refine pure_ (i := 19) (N := some 140) (v := ?_) (a' := ?_) (ba 56 983039) rfl rfl (any_of HT_.out (by kernel_rfl)) (fun _ _ _ h => h) (Or.inl ⟨by rfl,?_⟩) ?_ ?_
                                        rotate_left
                                        · intro w'
                                          go_simp
                                          with_reducible rfl
                                        rotate_left
                                        · simp only [Act.put,NRM]
                                          rfl
                                        refine take_ (i := 16) (N := some 137) (v := ?_) (a' := ?_) (ba 56 1048575) rfl rfl (take_ofW HT_.out HW_.out (by kernel_rfl)) (fun _ _ _ h => h) (Or.inl ⟨by rfl,?_⟩) hHeld ?_ ?_
                                        rotate_left
                                        · rintro w' ⟨s0,s1,s2,s3,s4,s5,s6⟩
                                          go_simp
                                          with_reducible rfl
                                        rotate_left
                                        · simp only [Act.put,NRM]
                                          rfl
                                        refine take_ (i := 20) (N := some 141) (v := ?_) (a' := ?_) (ba 56 2097151) rfl rfl (take_ofW HT_.out HW_.out (by kernel_rfl)) (fun _ _ _ h => h) (Or.inl ⟨by rfl,?_⟩) hHeld ?_ ?_
                                        rotate_left
                                        · rintro w' ⟨s0,s1,s2,s3,s4,s5,s6⟩
                                          go_simp
                                          with_reducible rfl
                                        rotate_left
                                        · simp only [Act.put,NRM]
                                          rfl
                                        refine pure_ (i := 21) (N := some 142) (v := ?_) (a' := ?_) (ba 56 4194303) rfl rfl (any_of HT_.out (by kernel_rfl)) (fun _ _ _ h => h) (Or.inl ⟨by rfl,?_⟩) ?_ ?_
                                        rotate_left
                                        · intro w'
                                          go_simp
                                          with_reducible rfl
                                        rotate_left
                                        · simp only [Act.put,NRM]
                                          rfl
                                        refine pure_ (i := 22) (N := some 143) (v := ?_) (a' := ?_) (ba 56 8388607) rfl rfl (any_of HT_.out (by kernel_rfl)) (fun _ _ _ h => h) (Or.inl ⟨by rfl,?_⟩) ?_ ?_
                                        rotate_left
                                        · intro w'
                                          go_simp
                                          with_reducible rfl
                                        rotate_left
                                        · simp only [Act.put,NRM]
                                          rfl
                                        refine pure_ (i := 23) (N := some 144) (v := ?_) (a' := ?_) (ba 56 16777215) rfl rfl (any_of HT_.out (by kernel_rfl)) (fun _ _ _ h => h) (Or.inl ⟨by rfl,?_⟩) ?_ ?_
                                        rotate_left
                                        · intro w'
                                          go_simp
                                          with_reducible rfl
                                        rotate_left
                                        · simp only [Act.put,NRM]
                                          rfl
                                        refine pure_ (i := 24) (N := some 145) (v := ?_) (a' := ?_) (ba 56 33554431) rfl rfl (any_of HT_.out (by kernel_rfl)) (fun _ _ _ h => h) (Or.inl ⟨by rfl,?_⟩) ?_ ?_
                                        rotate_left
                                        · intro w'
                                          go_simp
                                          with_reducible rfl
                                        rotate_left
                                        · simp only [Act.put,NRM]
                                          rfl
                                        refine pure_ (i := 25) (N := some 146) (v := ?_) (a' := ?_) (ba 56 67108863) rfl rfl (any_of HT_.out (by kernel_rfl)) (fun _ _ _ h => h) (Or.inl ⟨by rfl,?_⟩) ?_ ?_
                                        rotate_left
                                        · intro w'
                                          go_simp
                                          with_reducible rfl
                                        rotate_left
                                        · simp only [Act.put,NRM]
                                          rfl
                                        refine pure_ (i := 26) (N := some 147) (v := ?_) (a' := ?_) (ba 56 134217727) rfl rfl (any_of HT_.out (by kernel_rfl)) (fun _ _ _ h => h) (Or.inl ⟨by rfl,?_⟩) ?_ ?_
                                        rotate_left
                                        · intro w'
                                          go_simp
                                          with_reducible rfl
                                        rotate_left
                                        · simp only [Act.put,NRM]
                                          rfl
                                        refine pure_ (i := 27) (N := some 148) (v := ?_) (a' := ?_) (ba 56 268435455) rfl rfl (any_of HT_.out (by kernel_rfl)) (fun _ _ _ h => h) (Or.inl ⟨by rfl,?_⟩) ?_ ?_
                                        rotate_left
                                        · intro w'
                                          go_simp
                                          with_reducible rfl
                                        rotate_left
                                        · simp only [Act.put,NRM]
                                          rfl
                                        refine pure_ (i := 28) (N := some 149) (v := ?_) (a' := ?_) (ba 56 536870911) rfl rfl (any_of HT_.out (by kernel_rfl)) (fun _ _ _ h => h) (Or.inl ⟨by rfl,?_⟩) ?_ ?_
                                        rotate_left
                                        · intro w'
                                          go_simp
                                          with_reducible rfl
                                        rotate_left
                                        · simp only [Act.put,NRM]
                                          rfl
                                        refine take_ (i := 29) (N := some 150) (v := ?_) (a' := ?_) (ba 56 1073741823) rfl rfl (take_ofW HT_.out HW_.out (by kernel_rfl)) (fun _ _ _ h => h) (Or.inl ⟨by rfl,?_⟩) hHeld ?_ ?_
                                        rotate_left
                                        · rintro w' ⟨s0,s1,s2,s3,s4,s5,s6⟩
                                          go_simp
                                          with_reducible rfl
                                        rotate_left
                                        · simp only [Act.put,NRM]
                                          rfl
                                        refine pure_ (i := 30) (N := some 151) (v := ?_) (a' := ?_) (ba 56 2147483647) rfl rfl (any_of HT_.out (by kernel_rfl)) (fun _ _ _ h => h) (Or.inl ⟨by rfl,?_⟩) ?_ ?_
                                        rotate_left
                                        · intro w'
                                          go_simp
                                          with_reducible rfl
                                        rotate_left
                                        · simp only [Act.put,NRM]
                                          rfl
                                        refine pure_ (i := 31) (N := some 152) (v := ?_) (a' := ?_) (ba 56 4294967295) rfl rfl (any_of HT_.out (by kernel_rfl)) (fun _ _ _ h => h) (Or.inl ⟨by rfl,?_⟩) ?_ ?_
                                        rotate_left
                                        · intro w'
                                          go_simp
                                          with_reducible rfl
                                        rotate_left
                                        · simp only [Act.put,NRM]
                                          rfl
                                        refine pure_ (i := 32) (N := some 153) (v := ?_) (a' := ?_) (ba 56 8589934591) rfl rfl (any_of HT_.out (by kernel_rfl)) (fun _ _ _ h => h) (Or.inl ⟨by rfl,?_⟩) ?_ ?_
                                        rotate_left
                                        · intro w'
                                          go_simp
                                          with_reducible rfl
                                        rotate_left
                                        · simp only [Act.put,NRM]
                                          rfl
                                        refine pure_ (i := 33) (N := some 154) (v := ?_) (a' := ?_) (ba 56 17179869183) rfl rfl (any_of HT_.out (by kernel_rfl)) (fun _ _ _ h => h) (Or.inl ⟨by rfl,?_⟩) ?_ ?_
                                        rotate_left
                                        · intro w'
                                          go_simp
                                          with_reducible rfl
                                        rotate_left
                                        · simp only [Act.put,NRM]
                                          rfl
                                        refine pure_ (i := 34) (N := some 155) (v := ?_) (a' := ?_) (ba 56 34359738367) rfl rfl (any_of HT_.out (by kernel_rfl)) (fun _ _ _ h => h) (Or.inl ⟨by rfl,?_⟩) ?_ ?_
                                        rotate_left
                                        · intro w'
                                          go_simp
                                          with_reducible rfl
                                        rotate_left
                                        · simp only [Act.put,NRM]
                                          rfl
                                        refine pure_ (i := 35) (N := some 156) (v := ?_) (a' := ?_) (ba 56 68719476735) rfl rfl (any_of HT_.out (by kernel_rfl)) (fun _ _ _ h => h) (Or.inl ⟨by rfl,?_⟩) ?_ ?_
                                        rotate_left
                                        · intro w'
                                          go_simp
                                          with_reducible rfl
                                        rotate_left
                                        · simp only [Act.put,NRM]
                                          rfl
                                        refine take_ (i := 36) (N := some 157) (v := ?_) (a' := ?_) (ba 56 137438953471) rfl rfl (take_ofW HT_.out HW_.out (by kernel_rfl)) (fun _ _ _ h => h) (Or.inl ⟨by rfl,?_⟩) hHeld ?_ ?_
                                        rotate_left
                                        · rintro w' ⟨s0,s1,s2,s3,s4,s5,s6⟩
                                          go_simp
                                          with_reducible rfl
                                        rotate_left
                                        · simp only [Act.put,NRM]
                                          rfl
                                        refine pure_ (i := 37) (N := some 158) (v := ?_) (a' := ?_) (ba 56 274877906943) rfl rfl (any_of HT_.out (by kernel_rfl)) (fun _ _ _ h => h) (Or.inl ⟨by rfl,?_⟩) ?_ ?_
                                        rotate_left
                                        · intro w'
                                          go_simp
                                          with_reducible rfl
                                        rotate_left
                                        · simp only [Act.put,NRM]
                                          rfl
                                        refine pure_ (i := 38) (N := some 159) (v := ?_) (a' := ?_) (ba 56 549755813887) rfl rfl (any_of HT_.out (by kernel_rfl)) (fun _ _ _ h => h) (Or.inl ⟨by rfl,?_⟩) ?_ ?_
                                        rotate_left
                                        · intro w'
                                          go_simp
                                          with_reducible rfl
                                        rotate_left
                                        · simp only [Act.put,NRM]
                                          rfl
                                        refine pure_ (i := 39) (N := some 160) (v := ?_) (a' := ?_) (ba 56 1099511627775) rfl rfl (any_of HT_.out (by kernel_rfl)) (fun _ _ _ h => h) (Or.inl ⟨by rfl,?_⟩) ?_ ?_
                                        rotate_left
                                        · intro w'
                                          go_simp
                                          with_reducible rfl
                                        rotate_left
                                        · simp only [Act.put,NRM]
                                          rfl
                                        refine pure_ (i := 40) (N := some 161) (v := ?_) (a' := ?_) (ba 56 2199023255551) rfl rfl (any_of HT_.out (by kernel_rfl)) (fun _ _ _ h => h) (Or.inl ⟨by rfl,?_⟩) ?_ ?_
                                        rotate_left
                                        · intro w'
                                          go_simp
                                          with_reducible rfl
                                        rotate_left
                                        · simp only [Act.put,NRM]
                                          rfl
                                        refine pure_ (i := 41) (N := some 162) (v := ?_) (a' := ?_) (ba 56 4398046511103) rfl rfl (any_of HT_.out (by kernel_rfl)) (fun _ _ _ h => h) (Or.inl ⟨by rfl,?_⟩) ?_ ?_
                                        rotate_left
                                        · intro w'
                                          go_simp
                                          with_reducible rfl
                                        rotate_left
                                        · simp only [Act.put,NRM]
                                          rfl
                                        refine pure_ (i := 42) (N := some 163) (v := ?_) (a' := ?_) (ba 56 8796093022207) rfl rfl (any_of HT_.out (by kernel_rfl)) (fun _ _ _ h => h) (Or.inl ⟨by rfl,?_⟩) ?_ ?_
                                        rotate_left
                                        · intro w'
                                          go_simp
                                          with_reducible rfl
                                        rotate_left
                                        · simp only [Act.put,NRM]
                                          rfl
                                        refine pure_ (i := 43) (N := some 164) (v := ?_) (a' := ?_) (ba 56 17592186044415) rfl rfl (any_of HT_.out (by kernel_rfl)) (fun _ _ _ h => h) (Or.inl ⟨by rfl,?_⟩) ?_ ?_
                                        rotate_left
                                        · intro w'
                                          go_simp
                                          with_reducible rfl
                                        rotate_left
                                        · simp only [Act.put,NRM]
                                          rfl
                                        refine pure_ (i := 44) (N := some 165) (v := ?_) (a' := ?_) (ba 56 35184372088831) rfl rfl (any_of HT_.out (by kernel_rfl)) (fun _ _ _ h => h) (Or.inl ⟨by rfl,?_⟩) ?_ ?_
                                        rotate_left
                                        · intro w'
                                          go_simp
                                          with_reducible rfl
                                        rotate_left
                                        · simp only [Act.put,NRM]
                                          rfl
                                        refine take_ (i := 45) (N := some 166) (v := ?_) (a' := ?_) (ba 56 70368744177663) rfl rfl (take_ofW HT_.out HW_.out (by kernel_rfl)) (fun _ _ _ h => h) (Or.inl ⟨by rfl,?_⟩) hHeld ?_ ?_
                                        rotate_left
                                        · rintro w' ⟨s0,s1,s2,s3,s4,s5,s6⟩
                                          go_simp
                                          with_reducible rfl
                                        rotate_left
                                        · simp only [Act.put,NRM]
                                          rfl
                                        refine pure_ (i := 46) (N := some 167) (v := ?_) (a' := ?_) (ba 56 140737488355327) rfl rfl (any_of HT_.out (by kernel_rfl)) (fun _ _ _ h => h) (Or.inl ⟨by rfl,?_⟩) ?_ ?_
                                        rotate_left
                                        · intro w'
                                          go_simp
                                          with_reducible rfl
                                        rotate_left
                                        · simp only [Act.put,NRM]
                                          rfl
                                        refine pure_ (i := 47) (N := some 168) (v := ?_) (a' := ?_) (ba 56 281474976710655) rfl rfl (any_of HT_.out (by kernel_rfl)) (fun _ _ _ h => h) (Or.inl ⟨by rfl,?_⟩) ?_ ?_
                                        rotate_left
                                        · intro w'
                                          go_simp
                                          with_reducible rfl
                                        rotate_left
                                        · simp only [Act.put,NRM]
                                          rfl
                                        refine pure_ (i := 48) (N := some 169) (v := ?_) (a' := ?_) (ba 56 562949953421311) rfl rfl (any_of HT_.out (by kernel_rfl)) (fun _ _ _ h => h) (Or.inl ⟨by rfl,?_⟩) ?_ ?_
                                        rotate_left
                                        · intro w'
                                          go_simp
                                          with_reducible rfl
                                        rotate_left
                                        · simp only [Act.put,NRM]
                                          rfl
                                        refine pure_ (i := 49) (N := some 170) (v := undef) (a' := ?_) (ba 56 1125899906842623) rfl rfl (any_of HT_.out (by kernel_rfl)) (fun _ _ _ h => h) (Or.inr ⟨by rfl,rfl⟩) ?_ ?_
                                        rotate_left
                                        · simp only [Act.put,NRM]
                                          rfl
                                        refine pure_ (i := 50) (N := some 171) (v := undef) (a' := ?_) (ba 56 2251799813685247) rfl rfl (any_of HT_.out (by kernel_rfl)) (fun _ _ _ h => h) (Or.inr ⟨by rfl,rfl⟩) ?_ ?_
                                        rotate_left
                                        · simp only [Act.put,NRM]
                                          rfl
                                        refine pure_ (i := 51) (N := some 172) (v := undef) (a' := ?_) (ba 56 4503599627370495) rfl rfl (any_of HT_.out (by kernel_rfl)) (fun _ _ _ h => h) (Or.inr ⟨by rfl,rfl⟩) ?_ ?_
                                        rotate_left
                                        · simp only [Act.put,NRM]
                                          rfl
                                        refine pure_ (i := 52) (N := some 173) (v := undef) (a' := ?_) (ba 56 9007199254740991) rfl rfl (any_of HT_.out (by kernel_rfl)) (fun _ _ _ h => h) (Or.inr ⟨by rfl,rfl⟩) ?_ ?_
                                        rotate_left
                                        · simp only [Act.put,NRM]
                                          rfl
                                        refine pure_ (i := 53) (N := some 174) (v := undef) (a' := ?_) (ba 56 18014398509481983) rfl rfl (any_of HT_.out (by kernel_rfl)) (fun _ _ _ h => h) (Or.inr ⟨by rfl,rfl⟩) ?_ ?_
                                        rotate_left
                                        · simp only [Act.put,NRM]
                                          rfl
                                        refine pure_ (i := 54) (N := some 175) (v := ?_) (a' := ?_) (ba 56 36028797018963967) rfl rfl (any_of HT_.out (by kernel_rfl)) (fun _ _ _ h => h) (Or.inl ⟨by rfl,?_⟩) ?_ ?_
                                        rotate_left
                                        · intro w'
                                          go_simp
                                          with_reducible rfl
                                        rotate_left
                                        · simp only [Act.put,NRM]
                                          rfl
                                        refine pure_ (i := 55) (N := some 176) (v := ?_) (a' := ?_) (ba 56 72057594037927935) rfl rfl (any_of HT_.out (by kernel_rfl)) (fun _ _ _ h => h) (Or.inl ⟨by rfl,?_⟩) ?_ ?_
                                        rotate_left
                                        · intro w'
                                          go_simp
                                          with_reducible rfl
                                        rotate_left
                                        · simp only [Act.put,NRM]
                                          rfl
                                        refine done_ (done_of HT_.out (by kernel_rfl)) ?_
                                        have p807 : 0 ≤ (x17_4 : Int) := of_decide_eq_true (by assumption)
                                        have q807 : x17_4 < (t780.length : Int) := of_decide_eq_true (by assumption)
                                        obtain ⟨ad807,e807,hx807_0⟩ := Kd.at_int (Kd.R_reads' HO_8.out).2.2 x17_4 p807 q807
                                        obtain rfl : ad802 = ad807 := (by injection e807)
                                        replace p807 := eq_true p807
                                        replace q807 := eq_true q807
                                        try go_wp2
                                        (first | go_roundg k4 | (rw [show Value.bool true = Value.bool (decide (a1_1 ≤ ((rd_T64 l0_2 a1_0).f1))) from by rw [c96b0]];go_roundg k4) | (rw (occs := .pos [1]) [show Value.bool true = Value.bool (decide (a1_1 ≤ ((rd_T64 l0_2 a1_0).f1))) from by rw [c96b0]];go_roundg k4) | (rw (occs := .pos [2]) [show Value.bool true = Value.bool (decide (a1_1 ≤ ((rd_T64 l0_2 a1_0).f1))) from by rw [c96b0]];go_roundg k4) | (rw (occs := .pos [3]) [show Value.bool true = Value.bool (decide (a1_1 ≤ ((rd_T64 l0_2 a1_0).f1))) from by rw [c96b0]];go_roundg k4) | (rw (occs := .pos [1,2]) [show Value.bool true = Value.bool (decide (a1_1 ≤ ((rd_T64 l0_2 a1_0).f1))) from by rw [c96b0]];go_roundg k4) | (rw (occs := .pos [2,3]) [show Value.bool true = Value.bool (decide (a1_1 ≤ ((rd_T64 l0_2 a1_0).f1))) from by rw [c96b0]];go_roundg k4) | (rw (occs := .pos [1,3]) [show Value.bool true = Value.bool (decide (a1_1 ≤ ((rd_T64 l0_2 a1_0).f1))) from by rw [c96b0]];go_roundg k4) | (rw (occs := .pos [4]) [show Value.bool true = Value.bool (decide (a1_1 ≤ ((rd_T64 l0_2 a1_0).f1))) from by rw [c96b0]];go_roundg k4) | (rw (occs := .pos [5]) [show Value.bool true = Value.bool (decide (a1_1 ≤ ((rd_T64 l0_2 a1_0).f1))) from by rw [c96b0]];go_roundg k4))
                                        case measure => have := HJ3.out;have := HJ45.out;have := HJ80.out;have := HK4.out;omega
                                        case rel => exact ⟨(wrap64 (x16_4 + (rd t780 x17_4))),(wrap64 (x17_4 + 1)),(by first | rfl | (simp;done) | (simp [*];done)),(by first | rfl | (simp;done) | (simp [*];done)),H',⟨by have := HJ3.out;have := HJ45.out;have := HJ80.out;have := HK4.out;omega⟩,⟨by (with_reducible repeat (first | apply Kd.R_alloc | apply Kd.R_drewN | apply Kd.R_drew));exact HO_8.out⟩,⟨by (with_reducible repeat (first | apply Kd.R_alloc | apply Kd.R_drewN | apply Kd.R_drew));exact HO_11.out⟩,⟨BK771.out⟩,⟨BK772.out⟩,⟨BK779.out⟩,⟨HB.out⟩⟩
end
end Go.Proofs.YticlelgmmonloaaGreatDoor.C

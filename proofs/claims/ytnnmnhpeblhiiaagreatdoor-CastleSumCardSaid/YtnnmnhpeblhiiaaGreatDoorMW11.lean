/- A part of the proof: the walks of the functions that it reaches. TIGHT. -/
import Derived.Test.YtnnmnhpeblhiiaaGreatDoorMW10
set_option linter.unusedVariables false
set_option linter.unusedSimpArgs false
namespace Go.Proofs.YtnnmnhpeblhiiaaGreatDoor.C
open Go.RowKit Go.Proofs.YtnnmnhpeblhiiaaGreatDoorW.PrintWords Go.Proofs.YtnnmnhpeblhiiaaGreatDoorW.PrintLast Go.Proofs.YtnnmnhpeblhiiaaGreatDoorW.PrintMore
set_option linter.unusedVariables false
set_option linter.unusedSimpArgs false
set_option maxHeartbeats 16000000
set_option maxRecDepth 100000
section
attribute [local go_sem] max2_int min2_int max_two min_two
mutual
def l4_CastleSum.j0 : Nat→Int→Bool→List (S27)→List (S66)→Option (Bool)
 | 0,_,_,_,_=>none
 | k + 1,x1,x26,x680000,x680001=>if x26 = true then ((l4_known.f).bind fun t683=>(some t683)) else ((ca_Flow.f k x680000 x680001 x1).bind fun bt684=>(if bt684.2.2 = 0 then (if (bt684.1.length : Int) = (x680000.length : Int) then (l4_CastleSum.j1 k x1 bt684.1 bt684.2.1 ((bt684.2.1.length : Int) != (x680000.length : Int)) x680000 x680001) else (l4_CastleSum.j1 k x1 bt684.1 bt684.2.1 true x680000 x680001)) else (l4_CastleSum.j1 k x1 bt684.1 bt684.2.1 true x680000 x680001)))
def l4_CastleSum.j1 : Nat→Int→List (List Int)→List Int→Bool→List (S27)→List (S66)→Option (Bool)
 | 0,_,_,_,_,_,_=>none
 | k + 1,x1,x5,x6,x52,x680000,x680001=>if x52 = true then (none) else (l4_CastleSum.l0 k x1 x5 x6 0 0 x680000 x680001)
def l4_CastleSum.l0 : Nat→Int→List (List Int)→List Int→Int→Int→List (S27)→List (S66)→Option (Bool)
 | 0,_,_,_,_,_,_,_=>none
 | k + 1,x1,x5,x6,x8,x9,x680000,x680001=>if x9 < (x5.length : Int) then (if 0≤x9 then ((l4_sum.f k (rd_L3 x5 x9)).bind fun t693=>(if x9 < (x680000.length : Int) then (if ((rd_L3 x5 x9).length : Int) = (((rd_T27 x680000 x9).f1).length : Int) then (if t693 < 0 then (l4_CastleSum.j3 k x1 x5 x6 x8 x9 t693 true x680000 x680001) else (if x9 < (x6.length : Int) then ((q4_Cups.f (rd x6 x9)).bind fun t697=>(l4_CastleSum.j3 k x1 x5 x6 x8 x9 t693 (!t697) x680000 x680001)) else (none))) else (l4_CastleSum.j3 k x1 x5 x6 x8 x9 t693 true x680000 x680001)) else (none))) else (none)) else (if x8 = x1 then ((l4_known.f).bind fun t691=>(some t691)) else (none))
def l4_CastleSum.j3 : Nat→Int→List (List Int)→List Int→Int→Int→Int→Bool→List (S27)→List (S66)→Option (Bool)
 | 0,_,_,_,_,_,_,_,_,_=>none
 | k + 1,x1,x5,x6,x8,x9,x10,x88,x680000,x680001=>if x88 = true then (none) else (if x9 > 0 then (if 0≤(wrap64 (x9 - 1)) then (if (wrap64 (x9 - 1)) < (x680001.length : Int) then (if 0≤((rd_T66 x680001 (wrap64 (x9 - 1))).f0) then (if ((rd_T66 x680001 (wrap64 (x9 - 1))).f0) < (x6.length : Int) then (if ((rd_T66 x680001 (wrap64 (x9 - 1))).f1) ≥ 0 then (if ((rd_T66 x680001 (wrap64 (x9 - 1))).f0) < (x5.length : Int) then (if 0≤((rd_T66 x680001 (wrap64 (x9 - 1))).f1) then (if ((rd_T66 x680001 (wrap64 (x9 - 1))).f1) < ((rd_L3 x5 ((rd_T66 x680001 (wrap64 (x9 - 1))).f0)).length : Int) then (l4_CastleSum.j4 k x1 x5 x6 x8 x9 x10 (rd (rd_L3 x5 ((rd_T66 x680001 (wrap64 (x9 - 1))).f0)) ((rd_T66 x680001 (wrap64 (x9 - 1))).f1)) x680000 x680001) else (none)) else (none)) else (none)) else (l4_CastleSum.j4 k x1 x5 x6 x8 x9 x10 (rd x6 ((rd_T66 x680001 (wrap64 (x9 - 1))).f0)) x680000 x680001)) else (none)) else (none)) else (none)) else (none)) else (l4_CastleSum.j4 k x1 x5 x6 x8 x9 x10 x1 x680000 x680001))
def l4_CastleSum.j4 : Nat→Int→List (List Int)→List Int→Int→Int→Int→Int→List (S27)→List (S66)→Option (Bool)
 | 0,_,_,_,_,_,_,_,_,_=>none
 | k + 1,x1,x5,x6,x8,x9,x10,x11,x680000,x680001=>if 0≤x9 then (if x9 < (x6.length : Int) then (if (wrap64 (x10 + (rd x6 x9))) = x11 then (l4_CastleSum.l1 k x1 x5 x6 x8 x9 0 x680000 x680001) else (none)) else (none)) else (none)
def l4_CastleSum.l1 : Nat→Int→List (List Int)→List Int→Int→Int→Int→List (S27)→List (S66)→Option (Bool)
 | 0,_,_,_,_,_,_,_,_=>none
 | k + 1,x1,x5,x6,x8,x9,x13,x680000,x680001=>if 0≤x9 then (if x9 < (x5.length : Int) then (if x13 < ((rd_L3 x5 x9).length : Int) then ((q4_Fed.f k x680000 x680001 x9 x13).bind fun t705=>(if t705 = true then (l4_CastleSum.l1 k x1 x5 x6 x8 x9 (wrap64 (x13 + 1)) x680000 x680001) else (if 0≤x13 then (l4_CastleSum.l1 k x1 x5 x6 (wrap64 (x8 + (rd (rd_L3 x5 x9) x13))) x9 (wrap64 (x13 + 1)) x680000 x680001) else (none)))) else ((q4_Fed.f k x680000 x680001 x9 (-1)).bind fun t708=>(if t708 = true then (l4_CastleSum.l0 k x1 x5 x6 x8 (wrap64 (x9 + 1)) x680000 x680001) else (if x9 < (x6.length : Int) then (l4_CastleSum.l0 k x1 x5 x6 (wrap64 (x8 + (rd x6 x9))) (wrap64 (x9 + 1)) x680000 x680001) else (none))))) else (none)) else (none)
end
def l4_CastleSum.f (k : Nat) (l0_0 : List (S27)) (l0_1 : List (S66)) (a1 : Int) : Option (Bool):=(l4_brief.f k l0_0 l0_1).bind fun t680=>(if t680 = true then ((q4_Chain.f k l0_0 l0_1).bind fun t681=>(if t681 = true then ((q4_Cups.f a1).bind fun t682=>(l4_CastleSum.j0 k a1 (!t682) l0_0 l0_1)) else (l4_CastleSum.j0 k a1 true l0_0 l0_1))) else (l4_CastleSum.j0 k a1 true l0_0 l0_1))
theorem l4_CastleSum.j1_dead {k_ : Nat} {y0_} {y1_} {y2_} {y4_} {y5_} {r_ : Bool} : l4_CastleSum.j1 k_ y0_ y1_ y2_ true y4_ y5_ ≠ some r_:=by cases k_<;>simp [l4_CastleSum.j1]
theorem l4_CastleSum.j3_dead {k_ : Nat} {y0_} {y1_} {y2_} {y3_} {y4_} {y5_} {y7_} {y8_} {r_ : Bool} : l4_CastleSum.j3 k_ y0_ y1_ y2_ y3_ y4_ y5_ true y7_ y8_ ≠ some r_:=by cases k_<;>simp [l4_CastleSum.j3]
theorem l4_CastleSum.calls (k : Nat) (A0_0 : Option Addr) (c0_0 : Nat) (l0_0 : List (S27)) (A0_1 : Option Addr) (c0_1 : Nat) (l0_1 : List (S66)) (a1 : Int) (r : Bool) (w : World) (hr0_0 : Kd.C k27 w A0_0 l0_0.length l0_0) (hc0_0 : l0_0.length≤c0_0) (hr0_1 : Kd.C k66 w A0_1 l0_1.length l0_1) (hc0_1 : l0_1.length≤c0_1) (h : l4_CastleSum.f k l0_0 l0_1 a1 = some r) :
 Calls Tryz.prog 5 #[.agg #[.slice A0_0 l0_0.length c0_0,.slice A0_1 l0_1.length c0_1],.int .i64 a1] w fun e w'=>e = .returned (.bool r)∧Below w.heap.size w w':=by
 have hu59:=Tryz.underlying59
 have hu66:=Tryz.underlying66
 have HR0_0:=am hr0_0
 have HC0_0:=am hc0_0
 clear hr0_0 hc0_0
 have HR0_1:=am hr0_1
 have HC0_1:=am hc0_1
 clear hr0_1 hc0_1
 have HB:=am (Below.refl w.heap.size w)
 have H : ((l4_brief.f k l0_0 l0_1).bind fun t680=>(if t680 = true then ((q4_Chain.f k l0_0 l0_1).bind fun t681=>(if t681 = true then ((q4_Cups.f a1).bind fun t682=>(l4_CastleSum.j0 k a1 (!t682) l0_0 l0_1)) else (l4_CastleSum.j0 k a1 true l0_0 l0_1))) else (l4_CastleSum.j0 k a1 true l0_0 l0_1))) = some r:=h
 clear h
 have HC3:=am H
 clear H
 go_enter Tryz.func5,Tryz.ntmps5
 go_upto_region 1 with (first | ((refine gate_dst (N:=2) rfl ?_);(try (refine gate_guard (by rfl) ?_;dsimp only));refine box_event rfl (N:=2) rfl (cs:=#[.slice A0_0 l0_0.length c0_0,.slice A0_1 l0_1.length c0_1]) (t:=59) ?hr ?_;(case hr=>go_simp;try rfl);intro gb679 hg w4 hbox hb;have BK679:=am (hbox);have GW679:=am (ge_new (HB.out) hg);have GE679:=am (ge_new (HB.out) hg);replace HB:=am (below_step (HB.out) hb);clear hb hbox hg))
 repeat (go_quiet (first | ((refine gate_dst (N:=2) rfl ?_);(try (refine gate_guard (by rfl) ?_;dsimp only));refine box_event rfl (N:=2) rfl (cs:=#[.slice A0_0 l0_0.length c0_0,.slice A0_1 l0_1.length c0_1]) (t:=59) ?hr ?_;(case hr=>go_simp;try rfl);intro gb679 hg w4 hbox hb;have BK679:=am (hbox);have GW679:=am (ge_new (by repeat (first | (with_reducible first | exact HB.out | apply below_alloc | apply pw_below_drewN) | exact HB.out)) hg);have GE679:=am (ge_new (by repeat (first | (with_reducible first | exact HB.out | apply below_alloc | apply pw_below_drewN) | exact HB.out)) hg);replace HB:=am (below_step (by repeat (first | (with_reducible first | exact HB.out | apply below_alloc | apply pw_below_drewN) | exact HB.out)) hb);clear hb hbox hg));go_upto_region 1 with (first | ((refine gate_dst (N:=2) rfl ?_);(try (refine gate_guard (by rfl) ?_;dsimp only));refine box_event rfl (N:=2) rfl (cs:=#[.slice A0_0 l0_0.length c0_0,.slice A0_1 l0_1.length c0_1]) (t:=59) ?hr ?_;(case hr=>go_simp;try rfl);intro gb679 hg w4 hbox hb;have BK679:=am (hbox);have GW679:=am (ge_new (by repeat (first | (with_reducible first | exact HB.out | apply below_alloc | apply pw_below_drewN) | exact HB.out)) hg);have GE679:=am (ge_new (by repeat (first | (with_reducible first | exact HB.out | apply below_alloc | apply pw_below_drewN) | exact HB.out)) hg);replace HB:=am (below_step (by repeat (first | (with_reducible first | exact HB.out | apply below_alloc | apply pw_below_drewN) | exact HB.out)) hb);clear hb hbox hg)))
 (try simp only [Act.put,List.setIfInBounds_toArray,List.set_cons_zero,List.set_cons_succ])
 go_cut [26] (fun v26 wc=>∃ (kq : Nat) (x26_2 : Bool),v26 = .bool x26_2∧Aside0 (l4_CastleSum.j0 kq a1 x26_2 l0_0 l0_1 = some r)∧Aside0 (kq≤k)∧Aside0 (wc.heap[gb679]? = some (.cells #[(.slice A0_0 l0_0.length c0_0),(.slice A0_1 l0_1.length c0_1)] 59 (0,0)))∧Aside0 (Below w.heap.size w wc))
 case first =>
  as_aux_lemma =>
   have H:=HC3.out
   clear HC3
   replace H:=obm H
   obtain ⟨t680,A50,H⟩:=H
   replace H : (if t680 = true then ((q4_Chain.f k l0_0 l0_1).bind fun t681=>(if t681 = true then ((q4_Cups.f a1).bind fun t682=>(l4_CastleSum.j0 k a1 (!t682) l0_0 l0_1)) else (l4_CastleSum.j0 k a1 true l0_0 l0_1))) else (l4_CastleSum.j0 k a1 true l0_0 l0_1)) = some r:=H
   have A5:=am A50
   clear A50
   by_cases c6 : t680 = true
   case neg =>
    replace c6:=Bool.eq_false_iff.mpr c6
    subst c6
    replace H : (l4_CastleSum.j0 k a1 true l0_0 l0_1) = some r:=by rw [if_neg (show ¬ (false = true) by decide)] at H;exact H
    replace H':=am H
    obtain ⟨hcz18_0,hcz18_1⟩:=cO2 BK679.out
    go_wp2_with (first | (go_at_call 30;(with_reducible refine (l4_brief.calls k _ _ l0_0 _ _ l0_1 false _ ?side1 ?side2 ?side3 ?side4 A5.out).mono ?_);(case side1=>exact kC HR0_0.out HB.out);(case side2=>exact HC0_0.out);(case side3=>exact kC HR0_1.out HB.out);(case side4=>exact HC0_1.out);rintro e w19 ⟨rfl,hb⟩;replace BK679:=(kmv hb BK679);replace HB:=am (below_step (HB.out) hb);(try clear hb);(try clear hb2);(try clear hk);(try clear hi)))
    repeat (go_quiet (first | (go_at_call 30;(with_reducible refine (l4_brief.calls k _ _ l0_0 _ _ l0_1 false _ ?side1 ?side2 ?side3 ?side4 A5.out).mono ?_);(case side1=>repeat (first | exact (kC HR0_0.out HB.out) | (with_reducible refine Kd.C_alloc ?_ _) | (with_reducible refine Kd.C_drewN ?_ _) | (with_reducible refine Kd.C_drew ?_)));(case side2=>exact HC0_0.out);(case side3=>repeat (first | exact (kC HR0_1.out HB.out) | (with_reducible refine Kd.C_alloc ?_ _) | (with_reducible refine Kd.C_drewN ?_ _) | (with_reducible refine Kd.C_drew ?_)));(case side4=>exact HC0_1.out);rintro e w19 ⟨rfl,hb⟩;replace BK679:=(kmv hb BK679);replace HB:=am (below_step (by repeat (first | (with_reducible first | exact HB.out | refine below_set ?_ GE679.out | apply below_alloc | apply pw_below_drewN) | exact HB.out)) hb);(try clear hb);(try clear hb2);(try clear hk);(try clear hi)));try go_wp2_with (first | (go_at_call 30;(with_reducible refine (l4_brief.calls k _ _ l0_0 _ _ l0_1 false _ ?side1 ?side2 ?side3 ?side4 A5.out).mono ?_);(case side1=>repeat (first | exact (kC HR0_0.out HB.out) | (with_reducible refine Kd.C_alloc ?_ _) | (with_reducible refine Kd.C_drewN ?_ _) | (with_reducible refine Kd.C_drew ?_)));(case side2=>exact HC0_0.out);(case side3=>repeat (first | exact (kC HR0_1.out HB.out) | (with_reducible refine Kd.C_alloc ?_ _) | (with_reducible refine Kd.C_drewN ?_ _) | (with_reducible refine Kd.C_drew ?_)));(case side4=>exact HC0_1.out);rintro e w19 ⟨rfl,hb⟩;replace BK679:=(kmv hb BK679);replace HB:=am (below_step (by repeat (first | (with_reducible first | exact HB.out | refine below_set ?_ GE679.out | apply below_alloc | apply pw_below_drewN) | exact HB.out)) hb);(try clear hb);(try clear hb2);(try clear hk);(try clear hi))))
    go_meet
    case rel=>exact ⟨_,(true),(by first | rfl | (simp;done) | (simp [*];done)),H',⟨by first | omega | exact Nat.le_refl _⟩,⟨BK679.out⟩,⟨HB.out⟩⟩
   as_aux_lemma =>
    subst c6
    replace H : ((q4_Chain.f k l0_0 l0_1).bind fun t681=>(if t681 = true then ((q4_Cups.f a1).bind fun t682=>(l4_CastleSum.j0 k a1 (!t682) l0_0 l0_1)) else (l4_CastleSum.j0 k a1 true l0_0 l0_1))) = some r:=by rw [if_pos rfl] at H;exact H
    replace H:=obm H
    obtain ⟨t681,A70,H⟩:=H
    replace H : (if t681 = true then ((q4_Cups.f a1).bind fun t682=>(l4_CastleSum.j0 k a1 (!t682) l0_0 l0_1)) else (l4_CastleSum.j0 k a1 true l0_0 l0_1)) = some r:=H
    have A7:=am A70
    clear A70
    by_cases c8 : t681 = true
    case neg =>
     replace c8:=Bool.eq_false_iff.mpr c8
     subst c8
     replace H : (l4_CastleSum.j0 k a1 true l0_0 l0_1) = some r:=by rw [if_neg (show ¬ (false = true) by decide)] at H;exact H
     replace H':=am H
     obtain ⟨hcz14_0,hcz14_1⟩:=cO2 BK679.out
     go_wp2_with (first | (go_at_call 30;(with_reducible refine (l4_brief.calls k _ _ l0_0 _ _ l0_1 true _ ?side1 ?side2 ?side3 ?side4 A5.out).mono ?_);(case side1=>exact kC HR0_0.out HB.out);(case side2=>exact HC0_0.out);(case side3=>exact kC HR0_1.out HB.out);(case side4=>exact HC0_1.out);rintro e w15 ⟨rfl,hb⟩;replace BK679:=(kmv hb BK679);replace HB:=am (below_step (HB.out) hb);(try clear hb);(try clear hb2);(try clear hk);(try clear hi);obtain ⟨hcz16_0,hcz16_1⟩:=cO2 BK679.out) | (go_at_call 31;(with_reducible refine (q4_Chain.calls k _ _ l0_0 _ _ l0_1 false _ ?side1 ?side2 ?side3 ?side4 A7.out).mono ?_);(case side1=>exact kC HR0_0.out HB.out);(case side2=>exact HC0_0.out);(case side3=>exact kC HR0_1.out HB.out);(case side4=>exact HC0_1.out);rintro e w17 ⟨rfl,hb⟩;replace BK679:=(kmv hb BK679);replace HB:=am (below_step (HB.out) hb);(try clear hb);(try clear hb2);(try clear hk);(try clear hi)))
     repeat (go_quiet (first | (go_at_call 30;(with_reducible refine (l4_brief.calls k _ _ l0_0 _ _ l0_1 true _ ?side1 ?side2 ?side3 ?side4 A5.out).mono ?_);(case side1=>repeat (first | exact (kC HR0_0.out HB.out) | (with_reducible refine Kd.C_alloc ?_ _) | (with_reducible refine Kd.C_drewN ?_ _) | (with_reducible refine Kd.C_drew ?_)));(case side2=>exact HC0_0.out);(case side3=>repeat (first | exact (kC HR0_1.out HB.out) | (with_reducible refine Kd.C_alloc ?_ _) | (with_reducible refine Kd.C_drewN ?_ _) | (with_reducible refine Kd.C_drew ?_)));(case side4=>exact HC0_1.out);rintro e w15 ⟨rfl,hb⟩;replace BK679:=(kmv hb BK679);replace HB:=am (below_step (by repeat (first | (with_reducible first | exact HB.out | refine below_set ?_ GE679.out | apply below_alloc | apply pw_below_drewN) | exact HB.out)) hb);(try clear hb);(try clear hb2);(try clear hk);(try clear hi);obtain ⟨hcz16_0,hcz16_1⟩:=cO2 BK679.out) | (go_at_call 31;(with_reducible refine (q4_Chain.calls k _ _ l0_0 _ _ l0_1 false _ ?side1 ?side2 ?side3 ?side4 A7.out).mono ?_);(case side1=>repeat (first | exact (kC HR0_0.out HB.out) | (with_reducible refine Kd.C_alloc ?_ _) | (with_reducible refine Kd.C_drewN ?_ _) | (with_reducible refine Kd.C_drew ?_)));(case side2=>exact HC0_0.out);(case side3=>repeat (first | exact (kC HR0_1.out HB.out) | (with_reducible refine Kd.C_alloc ?_ _) | (with_reducible refine Kd.C_drewN ?_ _) | (with_reducible refine Kd.C_drew ?_)));(case side4=>exact HC0_1.out);rintro e w17 ⟨rfl,hb⟩;replace BK679:=(kmv hb BK679);replace HB:=am (below_step (by repeat (first | (with_reducible first | exact HB.out | refine below_set ?_ GE679.out | apply below_alloc | apply pw_below_drewN) | exact HB.out)) hb);(try clear hb);(try clear hb2);(try clear hk);(try clear hi)));try go_wp2_with (first | (go_at_call 30;(with_reducible refine (l4_brief.calls k _ _ l0_0 _ _ l0_1 true _ ?side1 ?side2 ?side3 ?side4 A5.out).mono ?_);(case side1=>repeat (first | exact (kC HR0_0.out HB.out) | (with_reducible refine Kd.C_alloc ?_ _) | (with_reducible refine Kd.C_drewN ?_ _) | (with_reducible refine Kd.C_drew ?_)));(case side2=>exact HC0_0.out);(case side3=>repeat (first | exact (kC HR0_1.out HB.out) | (with_reducible refine Kd.C_alloc ?_ _) | (with_reducible refine Kd.C_drewN ?_ _) | (with_reducible refine Kd.C_drew ?_)));(case side4=>exact HC0_1.out);rintro e w15 ⟨rfl,hb⟩;replace BK679:=(kmv hb BK679);replace HB:=am (below_step (by repeat (first | (with_reducible first | exact HB.out | refine below_set ?_ GE679.out | apply below_alloc | apply pw_below_drewN) | exact HB.out)) hb);(try clear hb);(try clear hb2);(try clear hk);(try clear hi);obtain ⟨hcz16_0,hcz16_1⟩:=cO2 BK679.out) | (go_at_call 31;(with_reducible refine (q4_Chain.calls k _ _ l0_0 _ _ l0_1 false _ ?side1 ?side2 ?side3 ?side4 A7.out).mono ?_);(case side1=>repeat (first | exact (kC HR0_0.out HB.out) | (with_reducible refine Kd.C_alloc ?_ _) | (with_reducible refine Kd.C_drewN ?_ _) | (with_reducible refine Kd.C_drew ?_)));(case side2=>exact HC0_0.out);(case side3=>repeat (first | exact (kC HR0_1.out HB.out) | (with_reducible refine Kd.C_alloc ?_ _) | (with_reducible refine Kd.C_drewN ?_ _) | (with_reducible refine Kd.C_drew ?_)));(case side4=>exact HC0_1.out);rintro e w17 ⟨rfl,hb⟩;replace BK679:=(kmv hb BK679);replace HB:=am (below_step (by repeat (first | (with_reducible first | exact HB.out | refine below_set ?_ GE679.out | apply below_alloc | apply pw_below_drewN) | exact HB.out)) hb);(try clear hb);(try clear hb2);(try clear hk);(try clear hi))))
     go_meet
     case rel=>exact ⟨_,(true),(by first | rfl | (simp;done) | (simp [*];done)),H',⟨by first | omega | exact Nat.le_refl _⟩,⟨BK679.out⟩,⟨HB.out⟩⟩
    subst c8
    replace H : ((q4_Cups.f a1).bind fun t682=>(l4_CastleSum.j0 k a1 (!t682) l0_0 l0_1)) = some r:=by rw [if_pos rfl] at H;exact H
    replace H:=obm H
    obtain ⟨t682,A90,H⟩:=H
    replace H : (l4_CastleSum.j0 k a1 (!t682) l0_0 l0_1) = some r:=H
    have A9:=am A90
    clear A90
    replace H':=am H
    obtain ⟨hcz10_0,hcz10_1⟩:=cO2 BK679.out
    go_wp2_with (first | (go_at_call 30;(with_reducible refine (l4_brief.calls k _ _ l0_0 _ _ l0_1 true _ ?side1 ?side2 ?side3 ?side4 A5.out).mono ?_);(case side1=>exact kC HR0_0.out HB.out);(case side2=>exact HC0_0.out);(case side3=>exact kC HR0_1.out HB.out);(case side4=>exact HC0_1.out);rintro e w11 ⟨rfl,hb⟩;replace BK679:=(kmv hb BK679);replace HB:=am (below_step (HB.out) hb);(try clear hb);(try clear hb2);(try clear hk);(try clear hi);obtain ⟨hcz12_0,hcz12_1⟩:=cO2 BK679.out) | (go_at_call 31;(with_reducible refine (q4_Chain.calls k _ _ l0_0 _ _ l0_1 true _ ?side1 ?side2 ?side3 ?side4 A7.out).mono ?_);(case side1=>exact kC HR0_0.out HB.out);(case side2=>exact HC0_0.out);(case side3=>exact kC HR0_1.out HB.out);(case side4=>exact HC0_1.out);rintro e w13 ⟨rfl,hb⟩;replace BK679:=(kmv hb BK679);replace HB:=am (below_step (HB.out) hb);(try clear hb);(try clear hb2);(try clear hk);(try clear hi)) | (go_at_call 17;(with_reducible refine (q4_Cups.calls a1 t682 _ A9.out).mono ?_);rintro e w' ⟨rfl,⟨nd,rfl⟩⟩;(try first | exact ⟨rfl,_,World.drewN_drewN _ _ _⟩ | exact ⟨rfl,_,Eq.trans (World.drewN_drewN _ _ _) (congrArg (World.drewN _) (Nat.add_assoc _ _ _))⟩)))
    repeat (go_quiet (first | (go_at_call 30;(with_reducible refine (l4_brief.calls k _ _ l0_0 _ _ l0_1 true _ ?side1 ?side2 ?side3 ?side4 A5.out).mono ?_);(case side1=>repeat (first | exact (kC HR0_0.out HB.out) | (with_reducible refine Kd.C_alloc ?_ _) | (with_reducible refine Kd.C_drewN ?_ _) | (with_reducible refine Kd.C_drew ?_)));(case side2=>exact HC0_0.out);(case side3=>repeat (first | exact (kC HR0_1.out HB.out) | (with_reducible refine Kd.C_alloc ?_ _) | (with_reducible refine Kd.C_drewN ?_ _) | (with_reducible refine Kd.C_drew ?_)));(case side4=>exact HC0_1.out);rintro e w11 ⟨rfl,hb⟩;replace BK679:=(kmv hb BK679);replace HB:=am (below_step (by repeat (first | (with_reducible first | exact HB.out | refine below_set ?_ GE679.out | apply below_alloc | apply pw_below_drewN) | exact HB.out)) hb);(try clear hb);(try clear hb2);(try clear hk);(try clear hi);obtain ⟨hcz12_0,hcz12_1⟩:=cO2 BK679.out) | (go_at_call 31;(with_reducible refine (q4_Chain.calls k _ _ l0_0 _ _ l0_1 true _ ?side1 ?side2 ?side3 ?side4 A7.out).mono ?_);(case side1=>repeat (first | exact (kC HR0_0.out HB.out) | (with_reducible refine Kd.C_alloc ?_ _) | (with_reducible refine Kd.C_drewN ?_ _) | (with_reducible refine Kd.C_drew ?_)));(case side2=>exact HC0_0.out);(case side3=>repeat (first | exact (kC HR0_1.out HB.out) | (with_reducible refine Kd.C_alloc ?_ _) | (with_reducible refine Kd.C_drewN ?_ _) | (with_reducible refine Kd.C_drew ?_)));(case side4=>exact HC0_1.out);rintro e w13 ⟨rfl,hb⟩;replace BK679:=(kmv hb BK679);replace HB:=am (below_step (by repeat (first | (with_reducible first | exact HB.out | refine below_set ?_ GE679.out | apply below_alloc | apply pw_below_drewN) | exact HB.out)) hb);(try clear hb);(try clear hb2);(try clear hk);(try clear hi)) | (go_at_call 17;(with_reducible refine (q4_Cups.calls a1 t682 _ A9.out).mono ?_);rintro e w' ⟨rfl,⟨nd,rfl⟩⟩;(try first | exact ⟨rfl,_,World.drewN_drewN _ _ _⟩ | exact ⟨rfl,_,Eq.trans (World.drewN_drewN _ _ _) (congrArg (World.drewN _) (Nat.add_assoc _ _ _))⟩)));try go_wp2_with (first | (go_at_call 30;(with_reducible refine (l4_brief.calls k _ _ l0_0 _ _ l0_1 true _ ?side1 ?side2 ?side3 ?side4 A5.out).mono ?_);(case side1=>repeat (first | exact (kC HR0_0.out HB.out) | (with_reducible refine Kd.C_alloc ?_ _) | (with_reducible refine Kd.C_drewN ?_ _) | (with_reducible refine Kd.C_drew ?_)));(case side2=>exact HC0_0.out);(case side3=>repeat (first | exact (kC HR0_1.out HB.out) | (with_reducible refine Kd.C_alloc ?_ _) | (with_reducible refine Kd.C_drewN ?_ _) | (with_reducible refine Kd.C_drew ?_)));(case side4=>exact HC0_1.out);rintro e w11 ⟨rfl,hb⟩;replace BK679:=(kmv hb BK679);replace HB:=am (below_step (by repeat (first | (with_reducible first | exact HB.out | refine below_set ?_ GE679.out | apply below_alloc | apply pw_below_drewN) | exact HB.out)) hb);(try clear hb);(try clear hb2);(try clear hk);(try clear hi);obtain ⟨hcz12_0,hcz12_1⟩:=cO2 BK679.out) | (go_at_call 31;(with_reducible refine (q4_Chain.calls k _ _ l0_0 _ _ l0_1 true _ ?side1 ?side2 ?side3 ?side4 A7.out).mono ?_);(case side1=>repeat (first | exact (kC HR0_0.out HB.out) | (with_reducible refine Kd.C_alloc ?_ _) | (with_reducible refine Kd.C_drewN ?_ _) | (with_reducible refine Kd.C_drew ?_)));(case side2=>exact HC0_0.out);(case side3=>repeat (first | exact (kC HR0_1.out HB.out) | (with_reducible refine Kd.C_alloc ?_ _) | (with_reducible refine Kd.C_drewN ?_ _) | (with_reducible refine Kd.C_drew ?_)));(case side4=>exact HC0_1.out);rintro e w13 ⟨rfl,hb⟩;replace BK679:=(kmv hb BK679);replace HB:=am (below_step (by repeat (first | (with_reducible first | exact HB.out | refine below_set ?_ GE679.out | apply below_alloc | apply pw_below_drewN) | exact HB.out)) hb);(try clear hb);(try clear hb2);(try clear hk);(try clear hi)) | (go_at_call 17;(with_reducible refine (q4_Cups.calls a1 t682 _ A9.out).mono ?_);rintro e w' ⟨rfl,⟨nd,rfl⟩⟩;(try first | exact ⟨rfl,_,World.drewN_drewN _ _ _⟩ | exact ⟨rfl,_,Eq.trans (World.drewN_drewN _ _ _) (congrArg (World.drewN _) (Nat.add_assoc _ _ _))⟩))))
    go_meet
    case rel=>exact ⟨_,(!t682),(by first | rfl | (simp;done) | (simp [*];done)),H',⟨by first | omega | exact Nat.le_refl _⟩,⟨BK679.out⟩,⟨pw_below_drewN HB.out _⟩⟩
 case rest =>
  as_aux_lemma =>
   clear HC3
   obtain ⟨kq,x26_2,rfl,HA,HJ2,BK679,HB⟩:=hcut
   cases kq with
   | zero=>exact absurd HA.out (by simp [l4_CastleSum.j0])
   | succ kj2 =>
    have H:=HA.out
    clear HA
    simp only [l4_CastleSum.j0] at H
    by_cases c20 : x26_2 = true
    ·subst c20
     replace H : ((l4_known.f).bind fun t683=>(some t683)) = some r:=by rw [if_pos rfl] at H;exact H
     replace H:=obm H
     obtain ⟨t683,A210,H⟩:=H
     replace H : (some t683) = some r:=H
     have A21:=am A210
     clear A210
     obtain rfl:=Option.some.inj H
     go_wp2_with (first | (go_at_call 19;(with_reducible refine (l4_known.calls  t683 _ A21.out).mono ?_);rintro e w22 ⟨rfl,hb⟩;replace BK679:=(kmv hb BK679);replace HB:=am (below_step (HB.out) hb);(try clear hb);(try clear hb2);(try clear hk);(try clear hi)))
     repeat (go_quiet (first | (go_at_call 19;(with_reducible refine (l4_known.calls  t683 _ A21.out).mono ?_);rintro e w22 ⟨rfl,hb⟩;replace BK679:=(kmv hb BK679);replace HB:=am (below_step (by repeat (first | (with_reducible first | exact HB.out | refine below_set ?_ GE679.out | apply below_alloc | apply pw_below_drewN) | exact HB.out)) hb);(try clear hb);(try clear hb2);(try clear hk);(try clear hi)));try go_wp2_with (first | (go_at_call 19;(with_reducible refine (l4_known.calls  t683 _ A21.out).mono ?_);rintro e w22 ⟨rfl,hb⟩;replace BK679:=(kmv hb BK679);replace HB:=am (below_step (by repeat (first | (with_reducible first | exact HB.out | refine below_set ?_ GE679.out | apply below_alloc | apply pw_below_drewN) | exact HB.out)) hb);(try clear hb);(try clear hb2);(try clear hk);(try clear hi))))
     go_ret
     exact ⟨by first | rfl | (simp [*]<;>rfl),HB.out⟩
    ·as_aux_lemma =>
      replace c20:=Bool.eq_false_iff.mpr c20
      subst c20
      replace H : ((ca_Flow.f kj2 l0_0 l0_1 a1).bind fun bt684=>(if bt684.2.2 = 0 then (if (bt684.1.length : Int) = (l0_0.length : Int) then (l4_CastleSum.j1 kj2 a1 bt684.1 bt684.2.1 ((bt684.2.1.length : Int) != (l0_0.length : Int)) l0_0 l0_1) else (l4_CastleSum.j1 kj2 a1 bt684.1 bt684.2.1 true l0_0 l0_1)) else (l4_CastleSum.j1 kj2 a1 bt684.1 bt684.2.1 true l0_0 l0_1))) = some r:=by rw [if_neg (show ¬ (false = true) by decide)] at H;exact H
      replace H:=obm H
      obtain ⟨⟨t684,t687,t690⟩,A230,H⟩:=H
      replace H : (if t690 = 0 then (if (t684.length : Int) = (l0_0.length : Int) then (l4_CastleSum.j1 kj2 a1 t684 t687 ((t687.length : Int) != (l0_0.length : Int)) l0_0 l0_1) else (l4_CastleSum.j1 kj2 a1 t684 t687 true l0_0 l0_1)) else (l4_CastleSum.j1 kj2 a1 t684 t687 true l0_0 l0_1)) = some r:=H
      have A23:=am A230
      clear A230
      have HC24:=am H
      clear H
      obtain ⟨hcz25_0,hcz25_1⟩:=cO2 BK679.out
      go_upto_region 4 with (first | (go_at_call 32;(with_reducible refine (ca_Flow.calls kj2 _ _ l0_0 _ _ l0_1 a1 t684 t687 t690 _ ?side1 ?side2 ?side3 ?side4 A23.out).mono ?_);(case side1=>exact kC HR0_0.out HB.out);(case side2=>exact HC0_0.out);(case side3=>exact kC HR0_1.out HB.out);(case side4=>exact HC0_1.out);rintro e w26 ⟨v685,v688,rfl,ho0,ho1,hb⟩;have HO686:=am (Kd.N_lower (Kd.N_mono (ok':=fun k_=>some k_ ≠ (v688 : Value).ownBlock∧k_ ≠ gb679) (N_swapB ho0) (fun k_ hk_=>⟨hk_.1,(Kd.freshB (g:=gb679) (o:=.cells #[.slice A0_0 l0_0.length c0_0,.slice A0_1 l0_1.length c0_1] 59 (0,0)) BK679.out k_ hk_.2.1)⟩)) (below_size (HB.out)));have HO689:=am (Kd.R_lower ho1 (below_size (HB.out)));replace BK679:=(kmv hb BK679);replace HB:=am (below_step (HB.out) hb);(try clear hb);(try clear hb2);(try clear hk);(try clear hi);(try clear ho0);(try clear ho1)))
      repeat (go_quiet (first | (go_at_call 32;(with_reducible refine (ca_Flow.calls kj2 _ _ l0_0 _ _ l0_1 a1 t684 t687 t690 _ ?side1 ?side2 ?side3 ?side4 A23.out).mono ?_);(case side1=>repeat (first | exact (kC HR0_0.out HB.out) | (with_reducible refine Kd.C_alloc ?_ _) | (with_reducible refine Kd.C_drewN ?_ _) | (with_reducible refine Kd.C_drew ?_)));(case side2=>exact HC0_0.out);(case side3=>repeat (first | exact (kC HR0_1.out HB.out) | (with_reducible refine Kd.C_alloc ?_ _) | (with_reducible refine Kd.C_drewN ?_ _) | (with_reducible refine Kd.C_drew ?_)));(case side4=>exact HC0_1.out);rintro e w26 ⟨v685,v688,rfl,ho0,ho1,hb⟩;have HO686:=am (Kd.N_lower (Kd.N_mono (ok':=fun k_=>some k_ ≠ (v688 : Value).ownBlock∧k_ ≠ gb679) (N_swapB ho0) (fun k_ hk_=>⟨hk_.1,(Kd.freshB (g:=gb679) (o:=.cells #[.slice A0_0 l0_0.length c0_0,.slice A0_1 l0_1.length c0_1] 59 (0,0)) BK679.out k_ hk_.2.1)⟩)) (below_size (by repeat (first | (with_reducible first | exact HB.out | refine below_set ?_ GE679.out | apply below_alloc | apply pw_below_drewN) | exact HB.out))));have HO689:=am (Kd.R_lower ho1 (below_size (by repeat (first | (with_reducible first | exact HB.out | refine below_set ?_ GE679.out | apply below_alloc | apply pw_below_drewN) | exact HB.out))));replace BK679:=(kmv hb BK679);replace HB:=am (below_step (by repeat (first | (with_reducible first | exact HB.out | refine below_set ?_ GE679.out | apply below_alloc | apply pw_below_drewN) | exact HB.out)) hb);(try clear hb);(try clear hb2);(try clear hk);(try clear hi);(try clear ho0);(try clear ho1)));go_upto_region 4 with (first | (go_at_call 32;(with_reducible refine (ca_Flow.calls kj2 _ _ l0_0 _ _ l0_1 a1 t684 t687 t690 _ ?side1 ?side2 ?side3 ?side4 A23.out).mono ?_);(case side1=>repeat (first | exact (kC HR0_0.out HB.out) | (with_reducible refine Kd.C_alloc ?_ _) | (with_reducible refine Kd.C_drewN ?_ _) | (with_reducible refine Kd.C_drew ?_)));(case side2=>exact HC0_0.out);(case side3=>repeat (first | exact (kC HR0_1.out HB.out) | (with_reducible refine Kd.C_alloc ?_ _) | (with_reducible refine Kd.C_drewN ?_ _) | (with_reducible refine Kd.C_drew ?_)));(case side4=>exact HC0_1.out);rintro e w26 ⟨v685,v688,rfl,ho0,ho1,hb⟩;have HO686:=am (Kd.N_lower (Kd.N_mono (ok':=fun k_=>some k_ ≠ (v688 : Value).ownBlock∧k_ ≠ gb679) (N_swapB ho0) (fun k_ hk_=>⟨hk_.1,(Kd.freshB (g:=gb679) (o:=.cells #[.slice A0_0 l0_0.length c0_0,.slice A0_1 l0_1.length c0_1] 59 (0,0)) BK679.out k_ hk_.2.1)⟩)) (below_size (by repeat (first | (with_reducible first | exact HB.out | refine below_set ?_ GE679.out | apply below_alloc | apply pw_below_drewN) | exact HB.out))));have HO689:=am (Kd.R_lower ho1 (below_size (by repeat (first | (with_reducible first | exact HB.out | refine below_set ?_ GE679.out | apply below_alloc | apply pw_below_drewN) | exact HB.out))));replace BK679:=(kmv hb BK679);replace HB:=am (below_step (by repeat (first | (with_reducible first | exact HB.out | refine below_set ?_ GE679.out | apply below_alloc | apply pw_below_drewN) | exact HB.out)) hb);(try clear hb);(try clear hb2);(try clear hk);(try clear hi);(try clear ho0);(try clear ho1))))
      (try simp only [Act.put,List.setIfInBounds_toArray,List.set_cons_zero,List.set_cons_succ])
      go_cut [52] (fun v52 wc=>∃ (kq : Nat) (x52_23 : Bool),v52 = .bool x52_23∧Aside0 (l4_CastleSum.j1 kq a1 t684 t687 x52_23 l0_0 l0_1 = some r)∧Aside0 (kq≤kj2)∧Aside0 (Kd.N (Kd.slice 3 (Kd.int .i64)) 28 wc w.heap.size (fun k_=>some k_ ≠ (v688 : Value).ownBlock∧k_ ≠ gb679) v685 t684)∧Aside0 (Kd.R (Kd.int .i64) 3 wc w.heap.size (fun _=>True) v688 t687)∧Aside0 (wc.heap[gb679]? = some (.cells #[(.slice A0_0 l0_0.length c0_0),(.slice A0_1 l0_1.length c0_1)] 59 (0,0)))∧Aside0 (Below w.heap.size w wc))
      case first =>
       as_aux_lemma =>
        have H:=HC24.out
        clear HC24
        by_cases c27 : t690 = 0
        case neg =>
         rw [if_neg c27] at H
         exact absurd H l4_CastleSum.j1_dead
        as_aux_lemma =>
         rw [if_pos c27] at H
         have c27b0 : (t690 == 0) = true:=beq_iff_eq.mpr c27
         have c27b1 : (t690 != 0) = false:=bne_eq_false_iff_eq.mpr c27
         clear c27
         (first | rw [c27b0] | (simp only [i64_w,i32_w];rw [c27b0]) | skip)
         by_cases c28 : (t684.length : Int) = (l0_0.length : Int)
         case neg =>
          rw [if_neg c28] at H
          exact absurd H l4_CastleSum.j1_dead
         rw [if_pos c28] at H
         have c28b0 : ((t684.length : Int) == (l0_0.length : Int)) = true:=beq_iff_eq.mpr c28
         have c28b1 : ((t684.length : Int) != (l0_0.length : Int)) = false:=bne_eq_false_iff_eq.mpr c28
         have c28b2 : (t684.length == l0_0.length) = true:=by first | simpa using c28 | (simp at c28 ⊢;omega)
         clear c28
         replace H':=am H
         obtain ⟨Ao29,co29,eo29⟩:=Kd.N_slice HO686.out
         subst eo29
         obtain ⟨hcz30_0,hcz30_1⟩:=cO2 BK679.out
         obtain ⟨Ao31,co31,eo31⟩:=Kd.R_slice HO689.out
         subst eo31
         go_wp2
         repeat (go_quiet (fail);try go_wp2)
         go_meet
         case rel=>exact ⟨_,(((t687.length : Int) != (l0_0.length : Int))),(by first | rfl | (simp;done) | (simp [*];done)),H',⟨by have:=HJ2.out;first | omega | exact Nat.le_refl _⟩,⟨by (with_reducible repeat (first | apply Kd.N_alloc | apply Kd.N_drewN | apply Kd.N_drew));exact HO686.out⟩,⟨by (with_reducible repeat (first | apply Kd.R_alloc | apply Kd.R_drewN | apply Kd.R_drew));exact HO689.out⟩,⟨BK679.out⟩,⟨HB.out⟩⟩
      case rest =>
       as_aux_lemma =>
        clear HC24
        obtain ⟨kq,x52_23,rfl,HA,HJ23,HO_5,HO_6,BK679,HB⟩:=hcut
        cases kq with
        | zero=>exact absurd HA.out (by simp [l4_CastleSum.j1])
        | succ kj23 =>
         have H:=HA.out
         clear HA
         simp only [l4_CastleSum.j1] at H
         by_cases c34 : x52_23 = true
         ·subst c34
          replace H : (none) = some r:=by rw [if_pos rfl] at H;exact H
          exact absurd H (by simp)
         ·as_aux_lemma =>
           replace c34:=Bool.eq_false_iff.mpr c34
           subst c34
           replace H : (l4_CastleSum.l0 kj23 a1 t684 t687 0 0 l0_0 l0_1) = some r:=by rw [if_neg (show ¬ (false = true) by decide)] at H;exact H
           replace H':=am H
           go_wp2
           repeat (go_quiet (fail);try go_wp2)
           go_loopg [8,9] kj23 (fun kq v8 v9 w'=>∃ (x8_3 : Int) (x9_3 : Int),v8 = .int .i64 x8_3∧v9 = .int .i64 x9_3∧Aside0 (l4_CastleSum.l0 kq a1 t684 t687 x8_3 x9_3 l0_0 l0_1 = some r)∧Aside0 (kq≤kj23)∧Aside0 (Kd.N (Kd.slice 3 (Kd.int .i64)) 28 w' w.heap.size (fun k_=>some k_ ≠ (v688 : Value).ownBlock∧k_ ≠ gb679) v685 t684)∧Aside0 (Kd.R (Kd.int .i64) 3 w' w.heap.size (fun _=>True) v688 t687)∧Aside0 (w'.heap[gb679]? = some (.cells #[(.slice A0_0 l0_0.length c0_0),(.slice A0_1 l0_1.length c0_1)] 59 (0,0)))∧Aside0 (Below w.heap.size w w'))
           case atStart=>exact ⟨(0),(0),(by first | rfl | (simp;done) | (simp [*];done)),(by first | rfl | (simp;done) | (simp [*];done)),H',⟨Nat.le_refl _⟩,⟨by (with_reducible repeat (first | apply Kd.N_alloc | apply Kd.N_drewN | apply Kd.N_drew));exact HO_5.out⟩,⟨by (with_reducible repeat (first | apply Kd.R_alloc | apply Kd.R_drewN | apply Kd.R_drew));exact HO_6.out⟩,⟨BK679.out⟩,⟨HB.out⟩⟩
           case round =>
            as_aux_lemma =>
             clear H'
             obtain ⟨x8_3,x9_3,rfl,rfl,HA,HK3,HO_5,HO_6,BK679,HB⟩:=hrel
             cases gk with
             | zero=>exact absurd HA.out (by simp [l4_CastleSum.l0])
             | succ k3 =>
              have H:=HA.out
              clear HA
              simp only [l4_CastleSum.l0] at H
              by_cases c35 : x9_3 < (t684.length : Int)
              case neg =>
               as_aux_lemma =>
                rw [if_neg c35] at H
                have c35b0 : decide (x9_3 < (t684.length : Int)) = false:=decide_eq_false c35
                clear c35
                by_cases c92 : x8_3 = a1
                case neg =>
                 rw [if_neg c92] at H
                 exact absurd H (by simp)
                rw [if_pos c92] at H
                have c92b0 : (x8_3 == a1) = true:=beq_iff_eq.mpr c92
                have c92b1 : (x8_3 != a1) = false:=bne_eq_false_iff_eq.mpr c92
                clear c92
                replace H:=obm H
                obtain ⟨t691,A930,H⟩:=H
                replace H : (some t691) = some r:=H
                have A93:=am A930
                clear A930
                obtain rfl:=Option.some.inj H
                obtain ⟨Ao94,co94,eo94⟩:=Kd.N_slice HO_5.out
                subst eo94
                go_wp2_with (first | (go_at_call 19;(with_reducible refine (l4_known.calls  t691 _ A93.out).mono ?_);rintro e w95 ⟨rfl,hb⟩;replace HO_5:=am (Kd.N_below HO_5.out hb);replace HO_6:=am (Kd.R_below HO_6.out hb);replace BK679:=(kmv hb BK679);replace HB:=am (below_step (HB.out) hb);(try clear hb);(try clear hb2);(try clear hk);(try clear hi)))
                repeat (go_quiet (first | (go_at_call 19;(with_reducible refine (l4_known.calls  t691 _ A93.out).mono ?_);rintro e w95 ⟨rfl,hb⟩;replace HO_5:=am (Kd.N_below HO_5.out hb);replace HO_6:=am (Kd.R_below HO_6.out hb);replace BK679:=(kmv hb BK679);replace HB:=am (below_step (by repeat (first | (with_reducible first | exact HB.out | refine below_set ?_ GE679.out | apply below_alloc | apply pw_below_drewN) | exact HB.out)) hb);(try clear hb);(try clear hb2);(try clear hk);(try clear hi)));try go_wp2_with (first | (go_at_call 19;(with_reducible refine (l4_known.calls  t691 _ A93.out).mono ?_);rintro e w95 ⟨rfl,hb⟩;replace HO_5:=am (Kd.N_below HO_5.out hb);replace HO_6:=am (Kd.R_below HO_6.out hb);replace BK679:=(kmv hb BK679);replace HB:=am (below_step (by repeat (first | (with_reducible first | exact HB.out | refine below_set ?_ GE679.out | apply below_alloc | apply pw_below_drewN) | exact HB.out)) hb);(try clear hb);(try clear hb2);(try clear hk);(try clear hi))))
                go_ret
                exact ⟨by first | rfl | (simp [*]<;>rfl),HB.out⟩
              as_aux_lemma =>
               rw [if_pos c35] at H
               have c35b0 : decide (x9_3 < (t684.length : Int)) = true:=decide_eq_true c35
               clear c35
               by_cases c36 : 0≤x9_3
               case neg =>
                rw [if_neg c36] at H
                exact absurd H (by simp)
               as_aux_lemma =>
                rw [if_pos c36] at H
                have c36b0 : decide (0≤x9_3) = true:=decide_eq_true c36
                clear c36
                replace H:=obm H
                obtain ⟨t693,A370,H⟩:=H
                replace H : (if x9_3 < (l0_0.length : Int) then (if ((rd_L3 t684 x9_3).length : Int) = (((rd_T27 l0_0 x9_3).f1).length : Int) then (if t693 < 0 then (l4_CastleSum.j3 k3 a1 t684 t687 x8_3 x9_3 t693 true l0_0 l0_1) else (if x9_3 < (t687.length : Int) then ((q4_Cups.f (rd t687 x9_3)).bind fun t697=>(l4_CastleSum.j3 k3 a1 t684 t687 x8_3 x9_3 t693 (!t697) l0_0 l0_1)) else (none))) else (l4_CastleSum.j3 k3 a1 t684 t687 x8_3 x9_3 t693 true l0_0 l0_1)) else (none)) = some r:=H
                have A37:=am A370
                clear A370
                have HC38:=am H
                clear H
                obtain ⟨Ao39,co39,eo39⟩:=Kd.N_slice HO_5.out
                subst eo39
                have p692 : 0≤(x9_3 : Int):=of_decide_eq_true (by assumption)
                have q692 : x9_3 < (t684.length : Int):=of_decide_eq_true (by assumption)
                obtain ⟨ad692,A692_0,c692_0,e692,hx692_0,hl692_0,hi692_0⟩:=at_L3 (Kd.N_reads' HO_5.out).2.2 x9_3 p692 q692
                cases e692
                obtain ⟨ce692,hce692,hMe692,hcc692⟩:=Kd.N_get HO_5.out [] x9_3 p692 (by first | exact q692 | exact of_decide_eq_true (by assumption) | (have e_:=(Kd.N_reads' HO_5.out).1;omega))
                obtain ⟨ua692_0,uc692_0,rfl,ul692_0,ge692_0⟩:=Kd.FK_slice_open hMe692
                have hv692_0:=hcc692 0 _ rfl
                rw [Nat.add_zero,show ((Kd.slice 3 (Kd.int .i64))).sz = 1 from rfl,Nat.mul_one] at hv692_0
                replace hv692_0:=Option.some.inj (hv692_0.symm.trans hx692_0)
                injection hv692_0 with hva_ hvn_ hvc_
                rw [hva_] at ge692_0
                rw [hvc_] at ul692_0
                have HL692_0:=am (show Kd.V (Kd.int .i64) 3 _ w.heap.size _ _ (rd_L3 t684 x9_3) from Kd.V_mk ul692_0 ge692_0)
                clear hva_ hvn_ hvc_ ge692_0 ul692_0
                clear hcc692 hce692
                have HR692_0:=am hi692_0
                have HC692_0:=am hl692_0
                clear hi692_0 hl692_0
                replace p692:=eq_true p692
                replace q692:=eq_true q692
                go_upto_region 11 with (first | (go_at_call 33;(with_reducible refine (l4_sum.calls k3 _ _ (rd_L3 t684 x9_3) t693 _ ?side1 ?side2 A37.out).mono ?_);(case side1=>repeat (first | exact (by repeat (first | (with_reducible exact HR692_0.out) | (with_reducible refine Kd.C_alloc ?_ _) | (with_reducible refine Kd.C_drewN ?_ _) | (with_reducible refine Kd.C_drew ?_) | exact HR692_0.out)) | (with_reducible refine Kd.C_alloc ?_ _) | (with_reducible refine Kd.C_drewN ?_ _) | (with_reducible refine Kd.C_drew ?_)));(case side2=>exact HC692_0.out);rintro e w' ⟨rfl,⟨nd,rfl⟩⟩;(try first | exact ⟨rfl,_,World.drewN_drewN _ _ _⟩ | exact ⟨rfl,_,Eq.trans (World.drewN_drewN _ _ _) (congrArg (World.drewN _) (Nat.add_assoc _ _ _))⟩)))
                repeat (go_quiet (first | (go_at_call 33;(with_reducible refine (l4_sum.calls k3 _ _ (rd_L3 t684 x9_3) t693 _ ?side1 ?side2 A37.out).mono ?_);(case side1=>repeat (first | exact (by repeat (first | (with_reducible exact HR692_0.out) | (with_reducible refine Kd.C_alloc ?_ _) | (with_reducible refine Kd.C_drewN ?_ _) | (with_reducible refine Kd.C_drew ?_) | exact HR692_0.out)) | (with_reducible refine Kd.C_alloc ?_ _) | (with_reducible refine Kd.C_drewN ?_ _) | (with_reducible refine Kd.C_drew ?_)));(case side2=>exact HC692_0.out);rintro e w' ⟨rfl,⟨nd,rfl⟩⟩;(try first | exact ⟨rfl,_,World.drewN_drewN _ _ _⟩ | exact ⟨rfl,_,Eq.trans (World.drewN_drewN _ _ _) (congrArg (World.drewN _) (Nat.add_assoc _ _ _))⟩)));go_upto_region 11 with (first | (go_at_call 33;(with_reducible refine (l4_sum.calls k3 _ _ (rd_L3 t684 x9_3) t693 _ ?side1 ?side2 A37.out).mono ?_);(case side1=>repeat (first | exact (by repeat (first | (with_reducible exact HR692_0.out) | (with_reducible refine Kd.C_alloc ?_ _) | (with_reducible refine Kd.C_drewN ?_ _) | (with_reducible refine Kd.C_drew ?_) | exact HR692_0.out)) | (with_reducible refine Kd.C_alloc ?_ _) | (with_reducible refine Kd.C_drewN ?_ _) | (with_reducible refine Kd.C_drew ?_)));(case side2=>exact HC692_0.out);rintro e w' ⟨rfl,⟨nd,rfl⟩⟩;(try first | exact ⟨rfl,_,World.drewN_drewN _ _ _⟩ | exact ⟨rfl,_,Eq.trans (World.drewN_drewN _ _ _) (congrArg (World.drewN _) (Nat.add_assoc _ _ _))⟩))))
                (try simp only [Act.put,List.setIfInBounds_toArray,List.set_cons_zero,List.set_cons_succ])
                go_cut [88] (fun v88 wc=>∃ (kq : Nat) (x88_37 : Bool),v88 = .bool x88_37∧Aside0 (l4_CastleSum.j3 kq a1 t684 t687 x8_3 x9_3 t693 x88_37 l0_0 l0_1 = some r)∧Aside0 (kq≤k3)∧Aside0 (Kd.N (Kd.slice 3 (Kd.int .i64)) 28 wc w.heap.size (fun k_=>some k_ ≠ (v688 : Value).ownBlock∧k_ ≠ gb679) (.slice (some ad692) t684.length co39) t684)∧Aside0 (Kd.R (Kd.int .i64) 3 wc w.heap.size (fun _=>True) v688 t687)∧Aside0 (wc.heap[gb679]? = some (.cells #[(.slice A0_0 l0_0.length c0_0),(.slice A0_1 l0_1.length c0_1)] 59 (0,0)))∧Aside0 (Kd.C (Kd.int .i64) wc A692_0 (rd_L3 t684 x9_3).length (rd_L3 t684 x9_3))∧Aside0 (Below w.heap.size w wc))
                case first =>
                 as_aux_lemma =>
                  have H:=HC38.out
                  clear HC38
                  by_cases c40 : x9_3 < (l0_0.length : Int)
                  case neg =>
                   rw [if_neg c40] at H
                   exact absurd H (by simp)
                  as_aux_lemma =>
                   rw [if_pos c40] at H
                   have c40b0 : decide (x9_3 < (l0_0.length : Int)) = true:=decide_eq_true c40
                   clear c40
                   (first | rw [c40b0] | (simp only [i64_w,i32_w];rw [c40b0]) | skip)
                   by_cases c41 : ((rd_L3 t684 x9_3).length : Int) = (((rd_T27 l0_0 x9_3).f1).length : Int)
                   case neg =>
                    rw [if_neg c41] at H
                    exact absurd H l4_CastleSum.j3_dead
                   as_aux_lemma =>
                    rw [if_pos c41] at H
                    have c41b0 : (((rd_L3 t684 x9_3).length : Int) == (((rd_T27 l0_0 x9_3).f1).length : Int)) = true:=beq_iff_eq.mpr c41
                    have c41b1 : (((rd_L3 t684 x9_3).length : Int) != (((rd_T27 l0_0 x9_3).f1).length : Int)) = false:=bne_eq_false_iff_eq.mpr c41
                    have c41b2 : ((rd_L3 t684 x9_3).length == ((rd_T27 l0_0 x9_3).f1).length) = true:=by first | simpa using c41 | (simp at c41 ⊢;omega)
                    clear c41
                    by_cases c42 : t693 < 0
                    ·rw [if_pos c42] at H
                     exact absurd H l4_CastleSum.j3_dead
                    ·as_aux_lemma =>
                      rw [if_neg c42] at H
                      have c42b0 : decide (t693 < 0) = false:=decide_eq_false c42
                      clear c42
                      by_cases c44 : x9_3 < (t687.length : Int)
                      case neg =>
                       rw [if_neg c44] at H
                       exact absurd H (by simp)
                      as_aux_lemma =>
                       rw [if_pos c44] at H
                       have c44b0 : decide (x9_3 < (t687.length : Int)) = true:=decide_eq_true c44
                       clear c44
                       replace H:=obm H
                       obtain ⟨t697,A450,H⟩:=H
                       replace H : (l4_CastleSum.j3 k3 a1 t684 t687 x8_3 x9_3 t693 (!t697) l0_0 l0_1) = some r:=H
                       have A45:=am A450
                       clear A450
                       replace H':=am H
                       have p694 : 0≤(x9_3 : Int):=of_decide_eq_true (by assumption)
                       have q694 : x9_3 < (t684.length : Int):=of_decide_eq_true (by assumption)
                       obtain ⟨ad694,A694_0,c694_0,e694,hx694_0,hl694_0,hi694_0⟩:=at_L3 (Kd.N_reads' HO_5.out).2.2 x9_3 p694 q694
                       obtain rfl : ad692 = ad694:=(by injection e694)
                       obtain ⟨ce694,hce694,hMe694,hcc694⟩:=Kd.N_get HO_5.out [] x9_3 p694 (by first | exact q694 | exact of_decide_eq_true (by assumption) | (have e_:=(Kd.N_reads' HO_5.out).1;omega))
                       obtain ⟨ua694_0,uc694_0,rfl,ul694_0,ge694_0⟩:=Kd.FK_slice_open hMe694
                       have hv694_0:=hcc694 0 _ rfl
                       rw [Nat.add_zero,show ((Kd.slice 3 (Kd.int .i64))).sz = 1 from rfl,Nat.mul_one] at hv694_0
                       replace hv694_0:=Option.some.inj (hv694_0.symm.trans hx694_0)
                       injection hv694_0 with hva_ hvn_ hvc_
                       rw [hva_] at ge694_0
                       rw [hvc_] at ul694_0
                       have HL694_0:=am (show Kd.V (Kd.int .i64) 3 _ w.heap.size _ _ (rd_L3 t684 x9_3) from Kd.V_mk ul694_0 ge694_0)
                       clear hva_ hvn_ hvc_ ge694_0 ul694_0
                       clear hcc694 hce694
                       have HR694_0:=am hi694_0
                       have HC694_0:=am hl694_0
                       clear hi694_0 hl694_0
                       replace p694:=eq_true p694
                       replace q694:=eq_true q694
                       obtain ⟨hcz46_0,hcz46_1⟩:=cO2 BK679.out
                       have p695 : 0≤(x9_3 : Int):=of_decide_eq_true (by assumption)
                       have q695 : x9_3 < (l0_0.length : Int):=of_decide_eq_true (by assumption)
                       obtain ⟨ad695,A695_0,c695_0,A695_2,c695_2,e695,hx695_0,hx695_1,hx695_2,hx695_3,hx695_4,hl695_0,hi695_0,hl695_2,hi695_2⟩:=at_T27 HR0_0.out x9_3 p695 q695
                       cases e695
                       replace hx695_0:=(HB.out.cell (wbl hx695_0)).trans hx695_0
                       replace hx695_1:=(HB.out.cell (wbl hx695_1)).trans hx695_1
                       replace hx695_2:=(HB.out.cell (wbl hx695_2)).trans hx695_2
                       replace hx695_3:=(HB.out.cell (wbl hx695_3)).trans hx695_3
                       replace hx695_4:=(HB.out.cell (wbl hx695_4)).trans hx695_4
                       have HR695_0:=am hi695_0
                       have HC695_0:=am hl695_0
                       clear hi695_0 hl695_0
                       have HR695_2:=am hi695_2
                       have HC695_2:=am hl695_2
                       clear hi695_2 hl695_2
                       replace p695:=eq_true p695
                       replace q695:=eq_true q695
                       obtain ⟨Ao47,co47,eo47⟩:=Kd.R_slice HO_6.out
                       subst eo47
                       have p696 : 0≤(x9_3 : Int):=of_decide_eq_true (by assumption)
                       have q696 : x9_3 < (t687.length : Int):=of_decide_eq_true (by assumption)
                       obtain ⟨ad696,e696,hx696_0⟩:=Kd.at_int (Kd.R_reads' HO_6.out).2.2 x9_3 p696 q696
                       cases e696
                       replace p696:=eq_true p696
                       replace q696:=eq_true q696
                       go_wp2_with (first | (go_at_call 17;(with_reducible refine (q4_Cups.calls (rd t687 x9_3) t697 _ A45.out).mono ?_);rintro e w' ⟨rfl,⟨nd,rfl⟩⟩;(try first | exact ⟨rfl,_,World.drewN_drewN _ _ _⟩ | exact ⟨rfl,_,Eq.trans (World.drewN_drewN _ _ _) (congrArg (World.drewN _) (Nat.add_assoc _ _ _))⟩)))
                       repeat (go_quiet (first | (go_at_call 17;(with_reducible refine (q4_Cups.calls (rd t687 x9_3) t697 _ A45.out).mono ?_);rintro e w' ⟨rfl,⟨nd,rfl⟩⟩;(try first | exact ⟨rfl,_,World.drewN_drewN _ _ _⟩ | exact ⟨rfl,_,Eq.trans (World.drewN_drewN _ _ _) (congrArg (World.drewN _) (Nat.add_assoc _ _ _))⟩)));try go_wp2_with (first | (go_at_call 17;(with_reducible refine (q4_Cups.calls (rd t687 x9_3) t697 _ A45.out).mono ?_);rintro e w' ⟨rfl,⟨nd,rfl⟩⟩;(try first | exact ⟨rfl,_,World.drewN_drewN _ _ _⟩ | exact ⟨rfl,_,Eq.trans (World.drewN_drewN _ _ _) (congrArg (World.drewN _) (Nat.add_assoc _ _ _))⟩))))
                       go_meet
                       case rel=>exact ⟨_,(!t697),(by first | rfl | (simp;done) | (simp [*];done)),H',⟨by have:=HJ2.out;have:=HJ23.out;have:=HK3.out;first | omega | exact Nat.le_refl _⟩,⟨by (with_reducible repeat (first | apply Kd.N_alloc | apply Kd.N_drewN | apply Kd.N_drew));exact HO_5.out⟩,⟨by (with_reducible repeat (first | apply Kd.R_alloc | apply Kd.R_drewN | apply Kd.R_drew));exact HO_6.out⟩,⟨BK679.out⟩,⟨by first | exact HX692_0.out _ _ | (repeat (first | (with_reducible exact HR692_0.out) | (with_reducible refine Kd.C_alloc ?_ _) | (with_reducible refine Kd.C_drewN ?_ _) | (with_reducible refine Kd.C_drew ?_) | exact HR692_0.out))⟩,⟨by repeat (first | (with_reducible first | exact HB.out | refine below_set ?_ GE679.out | apply below_alloc | apply pw_below_drewN) | exact HB.out)⟩⟩
                case rest =>
                 as_aux_lemma =>
                  clear HC38
                  obtain ⟨kq,x88_37,rfl,HA,HJ37,HO_5,HO_6,BK679,HR692_0,HB⟩:=hcut
                  cases kq with
                  | zero=>exact absurd HA.out (by simp [l4_CastleSum.j3])
                  | succ kj37 =>
                   have H:=HA.out
                   clear HA
                   simp only [l4_CastleSum.j3] at H
                   by_cases c49 : x88_37 = true
                   ·subst c49
                    replace H : (none) = some r:=by rw [if_pos rfl] at H;exact H
                    exact absurd H (by simp)
                   ·as_aux_lemma =>
                     replace c49:=Bool.eq_false_iff.mpr c49
                     subst c49
                     replace H : (if x9_3 > 0 then (if 0≤(wrap64 (x9_3 - 1)) then (if (wrap64 (x9_3 - 1)) < (l0_1.length : Int) then (if 0≤((rd_T66 l0_1 (wrap64 (x9_3 - 1))).f0) then (if ((rd_T66 l0_1 (wrap64 (x9_3 - 1))).f0) < (t687.length : Int) then (if ((rd_T66 l0_1 (wrap64 (x9_3 - 1))).f1) ≥ 0 then (if ((rd_T66 l0_1 (wrap64 (x9_3 - 1))).f0) < (t684.length : Int) then (if 0≤((rd_T66 l0_1 (wrap64 (x9_3 - 1))).f1) then (if ((rd_T66 l0_1 (wrap64 (x9_3 - 1))).f1) < ((rd_L3 t684 ((rd_T66 l0_1 (wrap64 (x9_3 - 1))).f0)).length : Int) then (l4_CastleSum.j4 kj37 a1 t684 t687 x8_3 x9_3 t693 (rd (rd_L3 t684 ((rd_T66 l0_1 (wrap64 (x9_3 - 1))).f0)) ((rd_T66 l0_1 (wrap64 (x9_3 - 1))).f1)) l0_0 l0_1) else (none)) else (none)) else (none)) else (l4_CastleSum.j4 kj37 a1 t684 t687 x8_3 x9_3 t693 (rd t687 ((rd_T66 l0_1 (wrap64 (x9_3 - 1))).f0)) l0_0 l0_1)) else (none)) else (none)) else (none)) else (none)) else (l4_CastleSum.j4 kj37 a1 t684 t687 x8_3 x9_3 t693 a1 l0_0 l0_1)) = some r:=by rw [if_neg (show ¬ (false = true) by decide)] at H;exact H
                     have HC50:=am H
                     clear H
                     go_upto_if 91 with (fail)
                     repeat (go_quiet (fail);go_upto_if 91 with (fail))
                     go_cut [11] (fun v11 wc=>∃ (kq : Nat) (x11_49 : Int),v11 = .int .i64 x11_49∧Aside0 (l4_CastleSum.j4 kq a1 t684 t687 x8_3 x9_3 t693 x11_49 l0_0 l0_1 = some r)∧Aside0 (kq≤kj37)∧Aside0 (Kd.N (Kd.slice 3 (Kd.int .i64)) 28 wc w.heap.size (fun k_=>some k_ ≠ (v688 : Value).ownBlock∧k_ ≠ gb679) (.slice (some ad692) t684.length co39) t684)∧Aside0 (Kd.R (Kd.int .i64) 3 wc w.heap.size (fun _=>True) v688 t687)∧Aside0 (wc.heap[gb679]? = some (.cells #[(.slice A0_0 l0_0.length c0_0),(.slice A0_1 l0_1.length c0_1)] 59 (0,0)))∧Aside0 (Kd.C (Kd.int .i64) wc A692_0 (rd_L3 t684 x9_3).length (rd_L3 t684 x9_3))∧Aside0 (Below w.heap.size w wc))
                     case first =>
                      as_aux_lemma =>
                       have H:=HC50.out
                       clear HC50
                       by_cases c51 : x9_3 > 0
                       case neg =>
                        rw [if_neg c51] at H
                        have c51b0 : decide (0 < x9_3) = false:=decide_eq_false c51
                        clear c51
                        (first | rw [c51b0] | (simp only [i64_w,i32_w];rw [c51b0]) | skip)
                        replace H':=am H
                        go_wp2
                        repeat (go_quiet (fail);try go_wp2)
                        go_meet
                        case rel=>exact ⟨_,(a1),(by first | rfl | (simp;done) | (simp [*];done)),H',⟨by have:=HJ2.out;have:=HJ23.out;have:=HK3.out;have:=HJ37.out;first | omega | exact Nat.le_refl _⟩,⟨by (with_reducible repeat (first | apply Kd.N_alloc | apply Kd.N_drewN | apply Kd.N_drew));exact HO_5.out⟩,⟨by (with_reducible repeat (first | apply Kd.R_alloc | apply Kd.R_drewN | apply Kd.R_drew));exact HO_6.out⟩,⟨BK679.out⟩,⟨by first | exact HX692_0.out _ _ | (repeat (first | (with_reducible exact HR692_0.out) | (with_reducible refine Kd.C_alloc ?_ _) | (with_reducible refine Kd.C_drewN ?_ _) | (with_reducible refine Kd.C_drew ?_) | exact HR692_0.out))⟩,⟨HB.out⟩⟩
                       as_aux_lemma =>
                        rw [if_pos c51] at H
                        have c51b0 : decide (0 < x9_3) = true:=decide_eq_true c51
                        clear c51
                        (first | rw [c51b0] | (simp only [i64_w,i32_w];rw [c51b0]) | skip)
                        obtain ⟨ji52,hji52⟩ : ∃ j_ : Int,(wrap64 (x9_3 - 1)) = j_:=⟨_,rfl⟩
                        replace H : (if 0≤(ji52) then (if (ji52) < (l0_1.length : Int) then (if 0≤((rd_T66 l0_1 (ji52)).f0) then (if ((rd_T66 l0_1 (ji52)).f0) < (t687.length : Int) then (if ((rd_T66 l0_1 (ji52)).f1) ≥ 0 then (if ((rd_T66 l0_1 (ji52)).f0) < (t684.length : Int) then (if 0≤((rd_T66 l0_1 (ji52)).f1) then (if ((rd_T66 l0_1 (ji52)).f1) < ((rd_L3 t684 ((rd_T66 l0_1 (ji52)).f0)).length : Int) then (l4_CastleSum.j4 kj37 a1 t684 t687 x8_3 x9_3 t693 (rd (rd_L3 t684 ((rd_T66 l0_1 (ji52)).f0)) ((rd_T66 l0_1 (ji52)).f1)) l0_0 l0_1) else (none)) else (none)) else (none)) else (l4_CastleSum.j4 kj37 a1 t684 t687 x8_3 x9_3 t693 (rd t687 ((rd_T66 l0_1 (ji52)).f0)) l0_0 l0_1)) else (none)) else (none)) else (none)) else (none)) = some r:=by first | (rw [hji52] at H;exact H) | (simp only [hji52] at H ⊢;exact H)
                        have hji52w : (IntKind.i64.wrap (x9_3 - 1)) = ji52:=(i64_w _).trans hji52
                        by_cases c53 : 0≤(ji52)
                        case neg =>
                         rw [if_neg c53] at H
                         exact absurd H (by simp)
                        as_aux_lemma =>
                         rw [if_pos c53] at H
                         have c53b0 : decide (0≤(ji52)) = true:=decide_eq_true c53
                         clear c53
                         by_cases c54 : (ji52) < (l0_1.length : Int)
                         case neg =>
                          rw [if_neg c54] at H
                          exact absurd H (by simp)
                         as_aux_lemma =>
                          rw [if_pos c54] at H
                          have c54b0 : decide ((ji52) < (l0_1.length : Int)) = true:=decide_eq_true c54
                          clear c54
                          by_cases c55 : 0≤((rd_T66 l0_1 (ji52)).f0)
                          case neg =>
                           rw [if_neg c55] at H
                           exact absurd H (by simp)
                          as_aux_lemma =>
                           rw [if_pos c55] at H
                           have c55b0 : decide (0≤((rd_T66 l0_1 (ji52)).f0)) = true:=decide_eq_true c55
                           clear c55
                           by_cases c56 : ((rd_T66 l0_1 (ji52)).f0) < (t687.length : Int)
                           case neg =>
                            rw [if_neg c56] at H
                            exact absurd H (by simp)
                           as_aux_lemma =>
                            rw [if_pos c56] at H
                            have c56b0 : decide (((rd_T66 l0_1 (ji52)).f0) < (t687.length : Int)) = true:=decide_eq_true c56
                            clear c56
                            by_cases c57 : ((rd_T66 l0_1 (ji52)).f1) ≥ 0
                            case neg =>
                             as_aux_lemma =>
                              rw [if_neg c57] at H
                              have c57b0 : decide (0≤((rd_T66 l0_1 (ji52)).f1)) = false:=decide_eq_false c57
                              clear c57
                              replace H':=am H
                              obtain ⟨hcz66_0,hcz66_1⟩:=cO2 BK679.out
                              have p698 : 0≤((ji52) : Int):=of_decide_eq_true (by assumption)
                              have q698 : (ji52) < (l0_1.length : Int):=of_decide_eq_true (by assumption)
                              obtain ⟨ad698,e698,hx698_0,hx698_1⟩:=at_T66 HR0_1.out (ji52) p698 q698
                              cases e698
                              replace hx698_0:=(HB.out.cell (wbl hx698_0)).trans hx698_0
                              replace hx698_1:=(HB.out.cell (wbl hx698_1)).trans hx698_1
                              replace p698:=eq_true p698
                              replace q698:=eq_true q698
                              go_wp2_with (first | ((refine gate_dst (N:=12) rfl ?_);(try (refine gate_guard (by rfl) ?_;dsimp only));refine box_event rfl (N:=12) rfl (cs:=#[.int .i64 0,.int .i64 0]) (t:=66) ?hr ?_;(case hr=>go_simp;try rfl);intro gb699 hg w67 hbox hb;have HX692_0:=am (fun (v0 v1 : Value)=>kC (by repeat (first | (with_reducible exact HR692_0.out) | (with_reducible refine Kd.C_alloc ?_ _) | (with_reducible refine Kd.C_drewN ?_ _) | (with_reducible refine Kd.C_drew ?_) | exact HR692_0.out)) (below_set (j:=1) (v:=v1) (below_set (j:=0) (v:=v0) hb (Nat.le_of_eq hg.symm)) (Nat.le_of_eq hg.symm)));have BK699:=am (hbox);have GW699:=am (ge_new (HB.out) hg);have GE699:=am (ge_new (HB.out) hg);have NB679_699:=am (ne_new BK679.out hg);have NB699_679:=am (ne_new2 BK679.out hg);replace HO_5:=am (Kd.N_below (Kd.N_elderB HO_5.out gb699 (Nat.le_of_eq hg.symm)) hb);replace HO_6:=am (Kd.R_below HO_6.out hb);replace BK679:=(kmv hb BK679);replace HR692_0:=am (kC (by repeat (first | (with_reducible exact HR692_0.out) | (with_reducible refine Kd.C_alloc ?_ _) | (with_reducible refine Kd.C_drewN ?_ _) | (with_reducible refine Kd.C_drew ?_) | exact HR692_0.out)) hb);replace HB:=am (below_step (HB.out) hb);clear hb hbox hg;have hnb68:=NB699_679.out;have hnc68:=NB679_699.out;obtain ⟨hcz69_0,hcz69_1⟩:=cO2 BK699.out;have hfz69_0:=blk_frozen BK699.out 0;have hfz69_1:=blk_frozen BK699.out 1;obtain ⟨Ao70,co70,eo70⟩:=Kd.R_slice HO_6.out;subst eo70;have p700 : 0≤(((rd_T66 l0_1 (ji52)).f0) : Int):=of_decide_eq_true (by assumption);have q700 : ((rd_T66 l0_1 (ji52)).f0) < (t687.length : Int):=of_decide_eq_true (by assumption);obtain ⟨ad700,e700,hx700_0⟩:=Kd.at_int (Kd.R_reads' HO_6.out).2.2 ((rd_T66 l0_1 (ji52)).f0) p700 q700;cases e700;have hn700_0 : ad700.block ≠ gb699:=Kd.own_blk (Kd.R_ne HO_6.out BK699.out (by decide));have hn700_1 : ad700.block ≠ gb699:=Kd.own_blk (Kd.R_ne HO_6.out BK699.out (by decide));replace hx700_0:=(cell_far (p:=⟨gb699,0,none⟩) (by first | (rw [add_block];exact hn700_0) | (show (Addr.add _ _).block ≠ _;rw [add_block];exact hn700_0) | exact hn700_0) (.int .i64 ((rd_T66 l0_1 (ji52)).f0))).trans hx700_0;replace hx700_0:=(cell_far (p:=⟨gb699,1,none⟩) (by first | (rw [add_block];exact hn700_1) | (show (Addr.add _ _).block ≠ _;rw [add_block];exact hn700_1) | exact hn700_1) (.int .i64 ((rd_T66 l0_1 (ji52)).f1))).trans hx700_0;(try have hy700_0:=fun (n_ : Nat)=>(show ((((w67.drewN n_).setCell ⟨gb699,0,none⟩ (.int .i64 ((rd_T66 l0_1 (ji52)).f0))).setCell ⟨gb699,1,none⟩ (.int .i64 ((rd_T66 l0_1 (ji52)).f1)))).cell? _ = some _ from hx700_0));clear hn700_0;clear hn700_1;replace p700:=eq_true p700;replace q700:=eq_true q700))
                              repeat (go_quiet (first | ((refine gate_dst (N:=12) rfl ?_);(try (refine gate_guard (by rfl) ?_;dsimp only));refine box_event rfl (N:=12) rfl (cs:=#[.int .i64 0,.int .i64 0]) (t:=66) ?hr ?_;(case hr=>go_simp;try rfl);intro gb699 hg w67 hbox hb;have HX692_0:=am (fun (v0 v1 : Value)=>kC (by repeat (first | (with_reducible exact HR692_0.out) | (with_reducible refine Kd.C_alloc ?_ _) | (with_reducible refine Kd.C_drewN ?_ _) | (with_reducible refine Kd.C_drew ?_) | exact HR692_0.out)) (below_set (j:=1) (v:=v1) (below_set (j:=0) (v:=v0) hb (Nat.le_of_eq hg.symm)) (Nat.le_of_eq hg.symm)));have BK699:=am (hbox);have GW699:=am (ge_new (by repeat (first | (with_reducible first | exact HB.out | refine below_set ?_ GE679.out | apply below_alloc | apply pw_below_drewN) | exact HB.out)) hg);have GE699:=am (ge_new (by repeat (first | (with_reducible first | exact HB.out | refine below_set ?_ GE679.out | apply below_alloc | apply pw_below_drewN) | exact HB.out)) hg);have NB679_699:=am (ne_new BK679.out hg);have NB699_679:=am (ne_new2 BK679.out hg);replace HO_5:=am (Kd.N_below (Kd.N_elderB HO_5.out gb699 (Nat.le_of_eq hg.symm)) hb);replace HO_6:=am (Kd.R_below HO_6.out hb);replace BK679:=(kmv hb BK679);replace HR692_0:=am (kC (by repeat (first | (with_reducible exact HR692_0.out) | (with_reducible refine Kd.C_alloc ?_ _) | (with_reducible refine Kd.C_drewN ?_ _) | (with_reducible refine Kd.C_drew ?_) | exact HR692_0.out)) hb);replace HB:=am (below_step (by repeat (first | (with_reducible first | exact HB.out | refine below_set ?_ GE679.out | apply below_alloc | apply pw_below_drewN) | exact HB.out)) hb);clear hb hbox hg;have hnb68:=NB699_679.out;have hnc68:=NB679_699.out;obtain ⟨hcz69_0,hcz69_1⟩:=cO2 BK699.out;have hfz69_0:=blk_frozen BK699.out 0;have hfz69_1:=blk_frozen BK699.out 1;obtain ⟨Ao70,co70,eo70⟩:=Kd.R_slice HO_6.out;subst eo70;have p700 : 0≤(((rd_T66 l0_1 (ji52)).f0) : Int):=of_decide_eq_true (by assumption);have q700 : ((rd_T66 l0_1 (ji52)).f0) < (t687.length : Int):=of_decide_eq_true (by assumption);obtain ⟨ad700,e700,hx700_0⟩:=Kd.at_int (Kd.R_reads' HO_6.out).2.2 ((rd_T66 l0_1 (ji52)).f0) p700 q700;cases e700;have hn700_0 : ad700.block ≠ gb699:=Kd.own_blk (Kd.R_ne HO_6.out BK699.out (by decide));have hn700_1 : ad700.block ≠ gb699:=Kd.own_blk (Kd.R_ne HO_6.out BK699.out (by decide));replace hx700_0:=(cell_far (p:=⟨gb699,0,none⟩) (by first | (rw [add_block];exact hn700_0) | (show (Addr.add _ _).block ≠ _;rw [add_block];exact hn700_0) | exact hn700_0) (.int .i64 ((rd_T66 l0_1 (ji52)).f0))).trans hx700_0;replace hx700_0:=(cell_far (p:=⟨gb699,1,none⟩) (by first | (rw [add_block];exact hn700_1) | (show (Addr.add _ _).block ≠ _;rw [add_block];exact hn700_1) | exact hn700_1) (.int .i64 ((rd_T66 l0_1 (ji52)).f1))).trans hx700_0;(try have hy700_0:=fun (n_ : Nat)=>(show ((((w67.drewN n_).setCell ⟨gb699,0,none⟩ (.int .i64 ((rd_T66 l0_1 (ji52)).f0))).setCell ⟨gb699,1,none⟩ (.int .i64 ((rd_T66 l0_1 (ji52)).f1)))).cell? _ = some _ from hx700_0));clear hn700_0;clear hn700_1;replace p700:=eq_true p700;replace q700:=eq_true q700));try go_wp2_with (first | ((refine gate_dst (N:=12) rfl ?_);(try (refine gate_guard (by rfl) ?_;dsimp only));refine box_event rfl (N:=12) rfl (cs:=#[.int .i64 0,.int .i64 0]) (t:=66) ?hr ?_;(case hr=>go_simp;try rfl);intro gb699 hg w67 hbox hb;have HX692_0:=am (fun (v0 v1 : Value)=>kC (by repeat (first | (with_reducible exact HR692_0.out) | (with_reducible refine Kd.C_alloc ?_ _) | (with_reducible refine Kd.C_drewN ?_ _) | (with_reducible refine Kd.C_drew ?_) | exact HR692_0.out)) (below_set (j:=1) (v:=v1) (below_set (j:=0) (v:=v0) hb (Nat.le_of_eq hg.symm)) (Nat.le_of_eq hg.symm)));have BK699:=am (hbox);have GW699:=am (ge_new (by repeat (first | (with_reducible first | exact HB.out | refine below_set ?_ GE679.out | apply below_alloc | apply pw_below_drewN) | exact HB.out)) hg);have GE699:=am (ge_new (by repeat (first | (with_reducible first | exact HB.out | refine below_set ?_ GE679.out | apply below_alloc | apply pw_below_drewN) | exact HB.out)) hg);have NB679_699:=am (ne_new BK679.out hg);have NB699_679:=am (ne_new2 BK679.out hg);replace HO_5:=am (Kd.N_below (Kd.N_elderB HO_5.out gb699 (Nat.le_of_eq hg.symm)) hb);replace HO_6:=am (Kd.R_below HO_6.out hb);replace BK679:=(kmv hb BK679);replace HR692_0:=am (kC (by repeat (first | (with_reducible exact HR692_0.out) | (with_reducible refine Kd.C_alloc ?_ _) | (with_reducible refine Kd.C_drewN ?_ _) | (with_reducible refine Kd.C_drew ?_) | exact HR692_0.out)) hb);replace HB:=am (below_step (by repeat (first | (with_reducible first | exact HB.out | refine below_set ?_ GE679.out | apply below_alloc | apply pw_below_drewN) | exact HB.out)) hb);clear hb hbox hg;have hnb68:=NB699_679.out;have hnc68:=NB679_699.out;obtain ⟨hcz69_0,hcz69_1⟩:=cO2 BK699.out;have hfz69_0:=blk_frozen BK699.out 0;have hfz69_1:=blk_frozen BK699.out 1;obtain ⟨Ao70,co70,eo70⟩:=Kd.R_slice HO_6.out;subst eo70;have p700 : 0≤(((rd_T66 l0_1 (ji52)).f0) : Int):=of_decide_eq_true (by assumption);have q700 : ((rd_T66 l0_1 (ji52)).f0) < (t687.length : Int):=of_decide_eq_true (by assumption);obtain ⟨ad700,e700,hx700_0⟩:=Kd.at_int (Kd.R_reads' HO_6.out).2.2 ((rd_T66 l0_1 (ji52)).f0) p700 q700;cases e700;have hn700_0 : ad700.block ≠ gb699:=Kd.own_blk (Kd.R_ne HO_6.out BK699.out (by decide));have hn700_1 : ad700.block ≠ gb699:=Kd.own_blk (Kd.R_ne HO_6.out BK699.out (by decide));replace hx700_0:=(cell_far (p:=⟨gb699,0,none⟩) (by first | (rw [add_block];exact hn700_0) | (show (Addr.add _ _).block ≠ _;rw [add_block];exact hn700_0) | exact hn700_0) (.int .i64 ((rd_T66 l0_1 (ji52)).f0))).trans hx700_0;replace hx700_0:=(cell_far (p:=⟨gb699,1,none⟩) (by first | (rw [add_block];exact hn700_1) | (show (Addr.add _ _).block ≠ _;rw [add_block];exact hn700_1) | exact hn700_1) (.int .i64 ((rd_T66 l0_1 (ji52)).f1))).trans hx700_0;(try have hy700_0:=fun (n_ : Nat)=>(show ((((w67.drewN n_).setCell ⟨gb699,0,none⟩ (.int .i64 ((rd_T66 l0_1 (ji52)).f0))).setCell ⟨gb699,1,none⟩ (.int .i64 ((rd_T66 l0_1 (ji52)).f1)))).cell? _ = some _ from hx700_0));clear hn700_0;clear hn700_1;replace p700:=eq_true p700;replace q700:=eq_true q700)))
                              go_meet
                              case rel=>exact ⟨_,(rd t687 ((rd_T66 l0_1 (ji52)).f0)),(by first | rfl | (simp;done) | (simp only [← hji52]<;>(first | rfl | simp)) | (simp [*];done)),H',⟨by have:=HJ2.out;have:=HJ23.out;have:=HK3.out;have:=HJ37.out;first | omega | exact Nat.le_refl _⟩,⟨by (with_reducible repeat (first | apply Kd.N_alloc | apply Kd.N_drewN | apply Kd.N_drew));exact Kd.N_mono (Kd.N_far (p:=⟨gb699,1,none⟩) (Kd.N_far (p:=⟨gb699,0,none⟩) (Kd.N_mono HO_5.out (fun k_ hk=>(⟨hk,hk.2⟩ : _∧k_ ≠ gb699))) (fun _ hk=>hk.2) (.int .i64 ((rd_T66 l0_1 (ji52)).f0))) (fun _ hk=>hk.2) (.int .i64 ((rd_T66 l0_1 (ji52)).f1))) (fun _ hk=>⟨hk.1.1.1,hk.1.1.2⟩)⟩,⟨by (with_reducible repeat (first | apply Kd.R_alloc | apply Kd.R_drewN | apply Kd.R_drew));exact Kd.R_mono (Kd.R_far (p:=⟨gb699,1,none⟩) (Kd.R_far (p:=⟨gb699,0,none⟩) (Kd.R_types HO_6.out BK699.out (by decide)) (fun _ hk=>hk.2) (.int .i64 ((rd_T66 l0_1 (ji52)).f0))) (fun _ hk=>hk.2) (.int .i64 ((rd_T66 l0_1 (ji52)).f1))) (fun _ hk=>trivial)⟩,⟨(blk_far (blk_far BK679.out NB679_699.out _) NB679_699.out _)⟩,⟨by first | exact HX692_0.out _ _ | (repeat (first | (with_reducible exact HR692_0.out) | (with_reducible refine Kd.C_alloc ?_ _) | (with_reducible refine Kd.C_drewN ?_ _) | (with_reducible refine Kd.C_drew ?_) | exact HR692_0.out))⟩,⟨by repeat (first | (with_reducible first | exact HB.out | refine below_set ?_ (Aside0.out (by assumption)) | apply below_alloc | apply pw_below_drewN) | exact HB.out)⟩⟩
                            as_aux_lemma =>
                             rw [if_pos c57] at H
                             have c57b0 : decide (0≤((rd_T66 l0_1 (ji52)).f1)) = true:=decide_eq_true c57
                             clear c57
                             by_cases c58 : ((rd_T66 l0_1 (ji52)).f0) < (t684.length : Int)
                             case neg =>
                              rw [if_neg c58] at H
                              exact absurd H (by simp)
                             as_aux_lemma =>
                              rw [if_pos c58] at H
                              have c58b0 : decide (((rd_T66 l0_1 (ji52)).f0) < (t684.length : Int)) = true:=decide_eq_true c58
                              clear c58
                              by_cases c59 : 0≤((rd_T66 l0_1 (ji52)).f1)
                              case neg =>
                               rw [if_neg c59] at H
                               exact absurd H (by simp)
                              as_aux_lemma =>
                               rw [if_pos c59] at H
                               have c59b0 : decide (0≤((rd_T66 l0_1 (ji52)).f1)) = true:=decide_eq_true c59
                               clear c59
                               by_cases c60 : ((rd_T66 l0_1 (ji52)).f1) < ((rd_L3 t684 ((rd_T66 l0_1 (ji52)).f0)).length : Int)
                               case neg =>
                                rw [if_neg c60] at H
                                exact absurd H (by simp)
                               as_aux_lemma =>
                                rw [if_pos c60] at H
                                have c60b0 : decide (((rd_T66 l0_1 (ji52)).f1) < ((rd_L3 t684 ((rd_T66 l0_1 (ji52)).f0)).length : Int)) = true:=decide_eq_true c60
                                clear c60
                                replace H':=am H
                                obtain ⟨hcz61_0,hcz61_1⟩:=cO2 BK679.out
                                have p698 : 0≤((ji52) : Int):=of_decide_eq_true (by assumption)
                                have q698 : (ji52) < (l0_1.length : Int):=of_decide_eq_true (by assumption)
                                obtain ⟨ad698,e698,hx698_0,hx698_1⟩:=at_T66 HR0_1.out (ji52) p698 q698
                                cases e698
                                replace hx698_0:=(HB.out.cell (wbl hx698_0)).trans hx698_0
                                replace hx698_1:=(HB.out.cell (wbl hx698_1)).trans hx698_1
                                replace p698:=eq_true p698
                                replace q698:=eq_true q698
                                go_wp2_with (first | ((refine gate_dst (N:=12) rfl ?_);(try (refine gate_guard (by rfl) ?_;dsimp only));refine box_event rfl (N:=12) rfl (cs:=#[.int .i64 0,.int .i64 0]) (t:=66) ?hr ?_;(case hr=>go_simp;try rfl);intro gb699 hg w62 hbox hb;have HX692_0:=am (fun (v0 v1 : Value)=>kC (by repeat (first | (with_reducible exact HR692_0.out) | (with_reducible refine Kd.C_alloc ?_ _) | (with_reducible refine Kd.C_drewN ?_ _) | (with_reducible refine Kd.C_drew ?_) | exact HR692_0.out)) (below_set (j:=1) (v:=v1) (below_set (j:=0) (v:=v0) hb (Nat.le_of_eq hg.symm)) (Nat.le_of_eq hg.symm)));have BK699:=am (hbox);have GW699:=am (ge_new (HB.out) hg);have GE699:=am (ge_new (HB.out) hg);have NB679_699:=am (ne_new BK679.out hg);have NB699_679:=am (ne_new2 BK679.out hg);replace HO_5:=am (Kd.N_below (Kd.N_elderB HO_5.out gb699 (Nat.le_of_eq hg.symm)) hb);replace HO_6:=am (Kd.R_below HO_6.out hb);replace BK679:=(kmv hb BK679);replace HR692_0:=am (kC (by repeat (first | (with_reducible exact HR692_0.out) | (with_reducible refine Kd.C_alloc ?_ _) | (with_reducible refine Kd.C_drewN ?_ _) | (with_reducible refine Kd.C_drew ?_) | exact HR692_0.out)) hb);replace HB:=am (below_step (HB.out) hb);clear hb hbox hg;have hnb63:=NB699_679.out;have hnc63:=NB679_699.out;obtain ⟨hcz64_0,hcz64_1⟩:=cO2 BK699.out;have hfz64_0:=blk_frozen BK699.out 0;have hfz64_1:=blk_frozen BK699.out 1;obtain ⟨Ao65,co65,eo65⟩:=Kd.R_slice HO_6.out;subst eo65;have p700 : 0≤(((rd_T66 l0_1 (ji52)).f0) : Int):=of_decide_eq_true (by assumption);have q700 : ((rd_T66 l0_1 (ji52)).f0) < (t687.length : Int):=of_decide_eq_true (by assumption);obtain ⟨ad700,e700,hx700_0⟩:=Kd.at_int (Kd.R_reads' HO_6.out).2.2 ((rd_T66 l0_1 (ji52)).f0) p700 q700;cases e700;have hn700_0 : ad700.block ≠ gb699:=Kd.own_blk (Kd.R_ne HO_6.out BK699.out (by decide));have hn700_1 : ad700.block ≠ gb699:=Kd.own_blk (Kd.R_ne HO_6.out BK699.out (by decide));replace hx700_0:=(cell_far (p:=⟨gb699,0,none⟩) (by first | (rw [add_block];exact hn700_0) | (show (Addr.add _ _).block ≠ _;rw [add_block];exact hn700_0) | exact hn700_0) (.int .i64 ((rd_T66 l0_1 (ji52)).f0))).trans hx700_0;replace hx700_0:=(cell_far (p:=⟨gb699,1,none⟩) (by first | (rw [add_block];exact hn700_1) | (show (Addr.add _ _).block ≠ _;rw [add_block];exact hn700_1) | exact hn700_1) (.int .i64 ((rd_T66 l0_1 (ji52)).f1))).trans hx700_0;(try have hy700_0:=fun (n_ : Nat)=>(show ((((w62.drewN n_).setCell ⟨gb699,0,none⟩ (.int .i64 ((rd_T66 l0_1 (ji52)).f0))).setCell ⟨gb699,1,none⟩ (.int .i64 ((rd_T66 l0_1 (ji52)).f1)))).cell? _ = some _ from hx700_0));clear hn700_0;clear hn700_1;replace p700:=eq_true p700;replace q700:=eq_true q700;have p701 : 0≤(((rd_T66 l0_1 (ji52)).f0) : Int):=of_decide_eq_true (by assumption);have q701 : ((rd_T66 l0_1 (ji52)).f0) < (t684.length : Int):=of_decide_eq_true (by assumption);obtain ⟨ad701,A701_0,c701_0,e701,hx701_0,hl701_0,hi701_0⟩:=at_L3 (Kd.N_reads' (Kd.N_far (p:=⟨gb699,1,none⟩) (Kd.N_far (p:=⟨gb699,0,none⟩) (Kd.N_mono HO_5.out (fun k_ hk=>(⟨hk,hk.2⟩ : _∧k_ ≠ gb699))) (fun _ hk=>hk.2) (.int .i64 ((rd_T66 l0_1 (ji52)).f0))) (fun _ hk=>hk.2) (.int .i64 ((rd_T66 l0_1 (ji52)).f1)))).2.2 ((rd_T66 l0_1 (ji52)).f0) p701 q701;obtain rfl : ad692 = ad701:=(by injection e701);have HR701_0:=am hi701_0;have HC701_0:=am hl701_0;clear hi701_0 hl701_0;(try have hy701_0:=fun (n_ : Nat)=>(show ((((w62.drewN n_).setCell ⟨gb699,0,none⟩ (.int .i64 ((rd_T66 l0_1 (ji52)).f0))).setCell ⟨gb699,1,none⟩ (.int .i64 ((rd_T66 l0_1 (ji52)).f1)))).cell? _ = some _ from hx701_0));replace p701:=eq_true p701;replace q701:=eq_true q701;have p702 : 0≤(((rd_T66 l0_1 (ji52)).f1) : Int):=of_decide_eq_true (by assumption);have q702 : ((rd_T66 l0_1 (ji52)).f1) < ((rd_L3 t684 ((rd_T66 l0_1 (ji52)).f0)).length : Int):=of_decide_eq_true (by assumption);obtain ⟨ad702,e702,hx702_0⟩:=Kd.at_int (by repeat (first | (with_reducible exact HR701_0.out) | (with_reducible refine Kd.C_alloc ?_ _) | (with_reducible refine Kd.C_drewN ?_ _) | (with_reducible refine Kd.C_drew ?_) | exact HR701_0.out)) ((rd_T66 l0_1 (ji52)).f1) p702 q702;cases e702;(try have hy702_0:=fun (n_ : Nat)=>(show ((((w62.drewN n_).setCell ⟨gb699,0,none⟩ (.int .i64 ((rd_T66 l0_1 (ji52)).f0))).setCell ⟨gb699,1,none⟩ (.int .i64 ((rd_T66 l0_1 (ji52)).f1)))).cell? _ = some _ from hx702_0));replace p702:=eq_true p702;replace q702:=eq_true q702))
                                repeat (go_quiet (first | ((refine gate_dst (N:=12) rfl ?_);(try (refine gate_guard (by rfl) ?_;dsimp only));refine box_event rfl (N:=12) rfl (cs:=#[.int .i64 0,.int .i64 0]) (t:=66) ?hr ?_;(case hr=>go_simp;try rfl);intro gb699 hg w62 hbox hb;have HX692_0:=am (fun (v0 v1 : Value)=>kC (by repeat (first | (with_reducible exact HR692_0.out) | (with_reducible refine Kd.C_alloc ?_ _) | (with_reducible refine Kd.C_drewN ?_ _) | (with_reducible refine Kd.C_drew ?_) | exact HR692_0.out)) (below_set (j:=1) (v:=v1) (below_set (j:=0) (v:=v0) hb (Nat.le_of_eq hg.symm)) (Nat.le_of_eq hg.symm)));have BK699:=am (hbox);have GW699:=am (ge_new (by repeat (first | (with_reducible first | exact HB.out | refine below_set ?_ GE679.out | apply below_alloc | apply pw_below_drewN) | exact HB.out)) hg);have GE699:=am (ge_new (by repeat (first | (with_reducible first | exact HB.out | refine below_set ?_ GE679.out | apply below_alloc | apply pw_below_drewN) | exact HB.out)) hg);have NB679_699:=am (ne_new BK679.out hg);have NB699_679:=am (ne_new2 BK679.out hg);replace HO_5:=am (Kd.N_below (Kd.N_elderB HO_5.out gb699 (Nat.le_of_eq hg.symm)) hb);replace HO_6:=am (Kd.R_below HO_6.out hb);replace BK679:=(kmv hb BK679);replace HR692_0:=am (kC (by repeat (first | (with_reducible exact HR692_0.out) | (with_reducible refine Kd.C_alloc ?_ _) | (with_reducible refine Kd.C_drewN ?_ _) | (with_reducible refine Kd.C_drew ?_) | exact HR692_0.out)) hb);replace HB:=am (below_step (by repeat (first | (with_reducible first | exact HB.out | refine below_set ?_ GE679.out | apply below_alloc | apply pw_below_drewN) | exact HB.out)) hb);clear hb hbox hg;have hnb63:=NB699_679.out;have hnc63:=NB679_699.out;obtain ⟨hcz64_0,hcz64_1⟩:=cO2 BK699.out;have hfz64_0:=blk_frozen BK699.out 0;have hfz64_1:=blk_frozen BK699.out 1;obtain ⟨Ao65,co65,eo65⟩:=Kd.R_slice HO_6.out;subst eo65;have p700 : 0≤(((rd_T66 l0_1 (ji52)).f0) : Int):=of_decide_eq_true (by assumption);have q700 : ((rd_T66 l0_1 (ji52)).f0) < (t687.length : Int):=of_decide_eq_true (by assumption);obtain ⟨ad700,e700,hx700_0⟩:=Kd.at_int (Kd.R_reads' HO_6.out).2.2 ((rd_T66 l0_1 (ji52)).f0) p700 q700;cases e700;have hn700_0 : ad700.block ≠ gb699:=Kd.own_blk (Kd.R_ne HO_6.out BK699.out (by decide));have hn700_1 : ad700.block ≠ gb699:=Kd.own_blk (Kd.R_ne HO_6.out BK699.out (by decide));replace hx700_0:=(cell_far (p:=⟨gb699,0,none⟩) (by first | (rw [add_block];exact hn700_0) | (show (Addr.add _ _).block ≠ _;rw [add_block];exact hn700_0) | exact hn700_0) (.int .i64 ((rd_T66 l0_1 (ji52)).f0))).trans hx700_0;replace hx700_0:=(cell_far (p:=⟨gb699,1,none⟩) (by first | (rw [add_block];exact hn700_1) | (show (Addr.add _ _).block ≠ _;rw [add_block];exact hn700_1) | exact hn700_1) (.int .i64 ((rd_T66 l0_1 (ji52)).f1))).trans hx700_0;(try have hy700_0:=fun (n_ : Nat)=>(show ((((w62.drewN n_).setCell ⟨gb699,0,none⟩ (.int .i64 ((rd_T66 l0_1 (ji52)).f0))).setCell ⟨gb699,1,none⟩ (.int .i64 ((rd_T66 l0_1 (ji52)).f1)))).cell? _ = some _ from hx700_0));clear hn700_0;clear hn700_1;replace p700:=eq_true p700;replace q700:=eq_true q700;have p701 : 0≤(((rd_T66 l0_1 (ji52)).f0) : Int):=of_decide_eq_true (by assumption);have q701 : ((rd_T66 l0_1 (ji52)).f0) < (t684.length : Int):=of_decide_eq_true (by assumption);obtain ⟨ad701,A701_0,c701_0,e701,hx701_0,hl701_0,hi701_0⟩:=at_L3 (Kd.N_reads' (Kd.N_far (p:=⟨gb699,1,none⟩) (Kd.N_far (p:=⟨gb699,0,none⟩) (Kd.N_mono HO_5.out (fun k_ hk=>(⟨hk,hk.2⟩ : _∧k_ ≠ gb699))) (fun _ hk=>hk.2) (.int .i64 ((rd_T66 l0_1 (ji52)).f0))) (fun _ hk=>hk.2) (.int .i64 ((rd_T66 l0_1 (ji52)).f1)))).2.2 ((rd_T66 l0_1 (ji52)).f0) p701 q701;obtain rfl : ad692 = ad701:=(by injection e701);have HR701_0:=am hi701_0;have HC701_0:=am hl701_0;clear hi701_0 hl701_0;(try have hy701_0:=fun (n_ : Nat)=>(show ((((w62.drewN n_).setCell ⟨gb699,0,none⟩ (.int .i64 ((rd_T66 l0_1 (ji52)).f0))).setCell ⟨gb699,1,none⟩ (.int .i64 ((rd_T66 l0_1 (ji52)).f1)))).cell? _ = some _ from hx701_0));replace p701:=eq_true p701;replace q701:=eq_true q701;have p702 : 0≤(((rd_T66 l0_1 (ji52)).f1) : Int):=of_decide_eq_true (by assumption);have q702 : ((rd_T66 l0_1 (ji52)).f1) < ((rd_L3 t684 ((rd_T66 l0_1 (ji52)).f0)).length : Int):=of_decide_eq_true (by assumption);obtain ⟨ad702,e702,hx702_0⟩:=Kd.at_int (by repeat (first | (with_reducible exact HR701_0.out) | (with_reducible refine Kd.C_alloc ?_ _) | (with_reducible refine Kd.C_drewN ?_ _) | (with_reducible refine Kd.C_drew ?_) | exact HR701_0.out)) ((rd_T66 l0_1 (ji52)).f1) p702 q702;cases e702;(try have hy702_0:=fun (n_ : Nat)=>(show ((((w62.drewN n_).setCell ⟨gb699,0,none⟩ (.int .i64 ((rd_T66 l0_1 (ji52)).f0))).setCell ⟨gb699,1,none⟩ (.int .i64 ((rd_T66 l0_1 (ji52)).f1)))).cell? _ = some _ from hx702_0));replace p702:=eq_true p702;replace q702:=eq_true q702));try go_wp2_with (first | ((refine gate_dst (N:=12) rfl ?_);(try (refine gate_guard (by rfl) ?_;dsimp only));refine box_event rfl (N:=12) rfl (cs:=#[.int .i64 0,.int .i64 0]) (t:=66) ?hr ?_;(case hr=>go_simp;try rfl);intro gb699 hg w62 hbox hb;have HX692_0:=am (fun (v0 v1 : Value)=>kC (by repeat (first | (with_reducible exact HR692_0.out) | (with_reducible refine Kd.C_alloc ?_ _) | (with_reducible refine Kd.C_drewN ?_ _) | (with_reducible refine Kd.C_drew ?_) | exact HR692_0.out)) (below_set (j:=1) (v:=v1) (below_set (j:=0) (v:=v0) hb (Nat.le_of_eq hg.symm)) (Nat.le_of_eq hg.symm)));have BK699:=am (hbox);have GW699:=am (ge_new (by repeat (first | (with_reducible first | exact HB.out | refine below_set ?_ GE679.out | apply below_alloc | apply pw_below_drewN) | exact HB.out)) hg);have GE699:=am (ge_new (by repeat (first | (with_reducible first | exact HB.out | refine below_set ?_ GE679.out | apply below_alloc | apply pw_below_drewN) | exact HB.out)) hg);have NB679_699:=am (ne_new BK679.out hg);have NB699_679:=am (ne_new2 BK679.out hg);replace HO_5:=am (Kd.N_below (Kd.N_elderB HO_5.out gb699 (Nat.le_of_eq hg.symm)) hb);replace HO_6:=am (Kd.R_below HO_6.out hb);replace BK679:=(kmv hb BK679);replace HR692_0:=am (kC (by repeat (first | (with_reducible exact HR692_0.out) | (with_reducible refine Kd.C_alloc ?_ _) | (with_reducible refine Kd.C_drewN ?_ _) | (with_reducible refine Kd.C_drew ?_) | exact HR692_0.out)) hb);replace HB:=am (below_step (by repeat (first | (with_reducible first | exact HB.out | refine below_set ?_ GE679.out | apply below_alloc | apply pw_below_drewN) | exact HB.out)) hb);clear hb hbox hg;have hnb63:=NB699_679.out;have hnc63:=NB679_699.out;obtain ⟨hcz64_0,hcz64_1⟩:=cO2 BK699.out;have hfz64_0:=blk_frozen BK699.out 0;have hfz64_1:=blk_frozen BK699.out 1;obtain ⟨Ao65,co65,eo65⟩:=Kd.R_slice HO_6.out;subst eo65;have p700 : 0≤(((rd_T66 l0_1 (ji52)).f0) : Int):=of_decide_eq_true (by assumption);have q700 : ((rd_T66 l0_1 (ji52)).f0) < (t687.length : Int):=of_decide_eq_true (by assumption);obtain ⟨ad700,e700,hx700_0⟩:=Kd.at_int (Kd.R_reads' HO_6.out).2.2 ((rd_T66 l0_1 (ji52)).f0) p700 q700;cases e700;have hn700_0 : ad700.block ≠ gb699:=Kd.own_blk (Kd.R_ne HO_6.out BK699.out (by decide));have hn700_1 : ad700.block ≠ gb699:=Kd.own_blk (Kd.R_ne HO_6.out BK699.out (by decide));replace hx700_0:=(cell_far (p:=⟨gb699,0,none⟩) (by first | (rw [add_block];exact hn700_0) | (show (Addr.add _ _).block ≠ _;rw [add_block];exact hn700_0) | exact hn700_0) (.int .i64 ((rd_T66 l0_1 (ji52)).f0))).trans hx700_0;replace hx700_0:=(cell_far (p:=⟨gb699,1,none⟩) (by first | (rw [add_block];exact hn700_1) | (show (Addr.add _ _).block ≠ _;rw [add_block];exact hn700_1) | exact hn700_1) (.int .i64 ((rd_T66 l0_1 (ji52)).f1))).trans hx700_0;(try have hy700_0:=fun (n_ : Nat)=>(show ((((w62.drewN n_).setCell ⟨gb699,0,none⟩ (.int .i64 ((rd_T66 l0_1 (ji52)).f0))).setCell ⟨gb699,1,none⟩ (.int .i64 ((rd_T66 l0_1 (ji52)).f1)))).cell? _ = some _ from hx700_0));clear hn700_0;clear hn700_1;replace p700:=eq_true p700;replace q700:=eq_true q700;have p701 : 0≤(((rd_T66 l0_1 (ji52)).f0) : Int):=of_decide_eq_true (by assumption);have q701 : ((rd_T66 l0_1 (ji52)).f0) < (t684.length : Int):=of_decide_eq_true (by assumption);obtain ⟨ad701,A701_0,c701_0,e701,hx701_0,hl701_0,hi701_0⟩:=at_L3 (Kd.N_reads' (Kd.N_far (p:=⟨gb699,1,none⟩) (Kd.N_far (p:=⟨gb699,0,none⟩) (Kd.N_mono HO_5.out (fun k_ hk=>(⟨hk,hk.2⟩ : _∧k_ ≠ gb699))) (fun _ hk=>hk.2) (.int .i64 ((rd_T66 l0_1 (ji52)).f0))) (fun _ hk=>hk.2) (.int .i64 ((rd_T66 l0_1 (ji52)).f1)))).2.2 ((rd_T66 l0_1 (ji52)).f0) p701 q701;obtain rfl : ad692 = ad701:=(by injection e701);have HR701_0:=am hi701_0;have HC701_0:=am hl701_0;clear hi701_0 hl701_0;(try have hy701_0:=fun (n_ : Nat)=>(show ((((w62.drewN n_).setCell ⟨gb699,0,none⟩ (.int .i64 ((rd_T66 l0_1 (ji52)).f0))).setCell ⟨gb699,1,none⟩ (.int .i64 ((rd_T66 l0_1 (ji52)).f1)))).cell? _ = some _ from hx701_0));replace p701:=eq_true p701;replace q701:=eq_true q701;have p702 : 0≤(((rd_T66 l0_1 (ji52)).f1) : Int):=of_decide_eq_true (by assumption);have q702 : ((rd_T66 l0_1 (ji52)).f1) < ((rd_L3 t684 ((rd_T66 l0_1 (ji52)).f0)).length : Int):=of_decide_eq_true (by assumption);obtain ⟨ad702,e702,hx702_0⟩:=Kd.at_int (by repeat (first | (with_reducible exact HR701_0.out) | (with_reducible refine Kd.C_alloc ?_ _) | (with_reducible refine Kd.C_drewN ?_ _) | (with_reducible refine Kd.C_drew ?_) | exact HR701_0.out)) ((rd_T66 l0_1 (ji52)).f1) p702 q702;cases e702;(try have hy702_0:=fun (n_ : Nat)=>(show ((((w62.drewN n_).setCell ⟨gb699,0,none⟩ (.int .i64 ((rd_T66 l0_1 (ji52)).f0))).setCell ⟨gb699,1,none⟩ (.int .i64 ((rd_T66 l0_1 (ji52)).f1)))).cell? _ = some _ from hx702_0));replace p702:=eq_true p702;replace q702:=eq_true q702)))
                                go_meet
                                case rel=>exact ⟨_,(rd (rd_L3 t684 ((rd_T66 l0_1 (ji52)).f0)) ((rd_T66 l0_1 (ji52)).f1)),(by first | rfl | (simp;done) | (simp only [← hji52]<;>(first | rfl | simp)) | (simp [*];done)),H',⟨by have:=HJ2.out;have:=HJ23.out;have:=HK3.out;have:=HJ37.out;first | omega | exact Nat.le_refl _⟩,⟨by (with_reducible repeat (first | apply Kd.N_alloc | apply Kd.N_drewN | apply Kd.N_drew));exact Kd.N_mono (Kd.N_far (p:=⟨gb699,1,none⟩) (Kd.N_far (p:=⟨gb699,0,none⟩) (Kd.N_mono HO_5.out (fun k_ hk=>(⟨hk,hk.2⟩ : _∧k_ ≠ gb699))) (fun _ hk=>hk.2) (.int .i64 ((rd_T66 l0_1 (ji52)).f0))) (fun _ hk=>hk.2) (.int .i64 ((rd_T66 l0_1 (ji52)).f1))) (fun _ hk=>⟨hk.1.1.1,hk.1.1.2⟩)⟩,⟨by (with_reducible repeat (first | apply Kd.R_alloc | apply Kd.R_drewN | apply Kd.R_drew));exact Kd.R_mono (Kd.R_far (p:=⟨gb699,1,none⟩) (Kd.R_far (p:=⟨gb699,0,none⟩) (Kd.R_types HO_6.out BK699.out (by decide)) (fun _ hk=>hk.2) (.int .i64 ((rd_T66 l0_1 (ji52)).f0))) (fun _ hk=>hk.2) (.int .i64 ((rd_T66 l0_1 (ji52)).f1))) (fun _ hk=>trivial)⟩,⟨(blk_far (blk_far BK679.out NB679_699.out _) NB679_699.out _)⟩,⟨by first | exact HX692_0.out _ _ | (repeat (first | (with_reducible exact HR692_0.out) | (with_reducible refine Kd.C_alloc ?_ _) | (with_reducible refine Kd.C_drewN ?_ _) | (with_reducible refine Kd.C_drew ?_) | exact HR692_0.out))⟩,⟨by repeat (first | (with_reducible first | exact HB.out | refine below_set ?_ (Aside0.out (by assumption)) | apply below_alloc | apply pw_below_drewN) | exact HB.out)⟩⟩
                     case rest =>
                      as_aux_lemma =>
                       clear HC50
                       obtain ⟨kq,x11_49,rfl,HA,HJ49,HO_5,HO_6,BK679,HR692_0,HB⟩:=hcut
                       cases kq with
                       | zero=>exact absurd HA.out (by simp [l4_CastleSum.j4])
                       | succ kj49 =>
                        have H:=HA.out
                        clear HA
                        simp only [l4_CastleSum.j4] at H
                        by_cases c71 : 0≤x9_3
                        case neg =>
                         rw [if_neg c71] at H
                         exact absurd H (by simp)
                        as_aux_lemma =>
                         rw [if_pos c71] at H
                         have c71b0 : decide (0≤x9_3) = true:=decide_eq_true c71
                         clear c71
                         by_cases c72 : x9_3 < (t687.length : Int)
                         case neg =>
                          rw [if_neg c72] at H
                          exact absurd H (by simp)
                         as_aux_lemma =>
                          rw [if_pos c72] at H
                          have c72b0 : decide (x9_3 < (t687.length : Int)) = true:=decide_eq_true c72
                          clear c72
                          by_cases c73 : (wrap64 (t693 + (rd t687 x9_3))) = x11_49
                          case neg =>
                           rw [if_neg c73] at H
                           exact absurd H (by simp)
                          as_aux_lemma =>
                           rw [if_pos c73] at H
                           have c73b0 : ((wrap64 (t693 + (rd t687 x9_3))) == x11_49) = true:=beq_iff_eq.mpr c73
                           have c73b1 : ((wrap64 (t693 + (rd t687 x9_3))) != x11_49) = false:=bne_eq_false_iff_eq.mpr c73
                           clear c73
                           replace H':=am H
                           obtain ⟨Ao74,co74,eo74⟩:=Kd.R_slice HO_6.out
                           subst eo74
                           have p703 : 0≤(x9_3 : Int):=of_decide_eq_true (by assumption)
                           have q703 : x9_3 < (t687.length : Int):=of_decide_eq_true (by assumption)
                           obtain ⟨ad703,e703,hx703_0⟩:=Kd.at_int (Kd.R_reads' HO_6.out).2.2 x9_3 p703 q703
                           cases e703
                           replace p703:=eq_true p703
                           replace q703:=eq_true q703
                           go_wp2
                           repeat (go_quiet (fail);try go_wp2)
                           go_loopg [8,13] kj49 (fun kq v8 v13 w'=>∃ (x8_6 : Int) (x13_6 : Int),v8 = .int .i64 x8_6∧v13 = .int .i64 x13_6∧Aside0 (l4_CastleSum.l1 kq a1 t684 t687 x8_6 x9_3 x13_6 l0_0 l0_1 = some r)∧Aside0 (kq≤kj49)∧Aside0 (Kd.N (Kd.slice 3 (Kd.int .i64)) 28 w' w.heap.size (fun k_=>some k_ ≠ ((.slice (some ad703) t687.length co74) : Value).ownBlock∧k_ ≠ gb679) (.slice (some ad692) t684.length co39) t684)∧Aside0 (Kd.R (Kd.int .i64) 3 w' w.heap.size (fun _=>True) (.slice (some ad703) t687.length co74) t687)∧Aside0 (w'.heap[gb679]? = some (.cells #[(.slice A0_0 l0_0.length c0_0),(.slice A0_1 l0_1.length c0_1)] 59 (0,0)))∧Aside0 (Kd.C (Kd.int .i64) w' A692_0 (rd_L3 t684 x9_3).length (rd_L3 t684 x9_3))∧Aside0 (Below w.heap.size w w'))
                           case atStart=>exact ⟨(x8_3),(0),(by first | rfl | (simp;done) | (simp [*];done)),(by first | rfl | (simp;done) | (simp [*];done)),H',⟨Nat.le_refl _⟩,⟨by (with_reducible repeat (first | apply Kd.N_alloc | apply Kd.N_drewN | apply Kd.N_drew));exact HO_5.out⟩,⟨by (with_reducible repeat (first | apply Kd.R_alloc | apply Kd.R_drewN | apply Kd.R_drew));exact HO_6.out⟩,⟨BK679.out⟩,⟨by repeat (first | (with_reducible exact HR692_0.out) | (with_reducible refine Kd.C_alloc ?_ _) | (with_reducible refine Kd.C_drewN ?_ _) | (with_reducible refine Kd.C_drew ?_) | exact HR692_0.out)⟩,⟨HB.out⟩⟩
                           case round =>
                            as_aux_lemma =>
                             clear H'
                             obtain ⟨x8_6,x13_6,rfl,rfl,HA,HK6,HO_5,HO_6,BK679,HR692_0,HB⟩:=hrel
                             cases gk with
                             | zero=>exact absurd HA.out (by simp [l4_CastleSum.l1])
                             | succ k6 =>
                              have H:=HA.out
                              clear HA
                              simp only [l4_CastleSum.l1] at H
                              by_cases c75 : 0≤x9_3
                              case neg =>
                               rw [if_neg c75] at H
                               exact absurd H (by simp)
                              as_aux_lemma =>
                               rw [if_pos c75] at H
                               have c75b0 : decide (0≤x9_3) = true:=decide_eq_true c75
                               clear c75
                               by_cases c76 : x9_3 < (t684.length : Int)
                               case neg =>
                                rw [if_neg c76] at H
                                exact absurd H (by simp)
                               as_aux_lemma =>
                                rw [if_pos c76] at H
                                have c76b0 : decide (x9_3 < (t684.length : Int)) = true:=decide_eq_true c76
                                clear c76
                                by_cases c77 : x13_6 < ((rd_L3 t684 x9_3).length : Int)
                                ·as_aux_lemma =>
                                  rw [if_pos c77] at H
                                  have c77b0 : decide (x13_6 < ((rd_L3 t684 x9_3).length : Int)) = true:=decide_eq_true c77
                                  clear c77
                                  replace H:=obm H
                                  obtain ⟨t705,A780,H⟩:=H
                                  replace H : (if t705 = true then (l4_CastleSum.l1 k6 a1 t684 t687 x8_6 x9_3 (wrap64 (x13_6 + 1)) l0_0 l0_1) else (if 0≤x13_6 then (l4_CastleSum.l1 k6 a1 t684 t687 (wrap64 (x8_6 + (rd (rd_L3 t684 x9_3) x13_6))) x9_3 (wrap64 (x13_6 + 1)) l0_0 l0_1) else (none))) = some r:=H
                                  have A78:=am A780
                                  clear A780
                                  by_cases c79 : t705 = true
                                  ·as_aux_lemma =>
                                    subst c79
                                    replace H : (l4_CastleSum.l1 k6 a1 t684 t687 x8_6 x9_3 (wrap64 (x13_6 + 1)) l0_0 l0_1) = some r:=by rw [if_pos rfl] at H;exact H
                                    replace H':=am H
                                    have p704 : 0≤(x9_3 : Int):=of_decide_eq_true (by assumption)
                                    have q704 : x9_3 < (t684.length : Int):=of_decide_eq_true (by assumption)
                                    obtain ⟨ad704,A704_0,c704_0,e704,hx704_0,hl704_0,hi704_0⟩:=at_L3 (Kd.N_reads' HO_5.out).2.2 x9_3 p704 q704
                                    obtain rfl : ad692 = ad704:=(by injection e704)
                                    obtain ⟨ce704,hce704,hMe704,hcc704⟩:=Kd.N_get HO_5.out [] x9_3 p704 (by first | exact q704 | exact of_decide_eq_true (by assumption) | (have e_:=(Kd.N_reads' HO_5.out).1;omega))
                                    obtain ⟨ua704_0,uc704_0,rfl,ul704_0,ge704_0⟩:=Kd.FK_slice_open hMe704
                                    have hv704_0:=hcc704 0 _ rfl
                                    rw [Nat.add_zero,show ((Kd.slice 3 (Kd.int .i64))).sz = 1 from rfl,Nat.mul_one] at hv704_0
                                    replace hv704_0:=Option.some.inj (hv704_0.symm.trans hx704_0)
                                    injection hv704_0 with hva_ hvn_ hvc_
                                    rw [hva_] at ge704_0
                                    rw [hvc_] at ul704_0
                                    have HL704_0:=am (show Kd.V (Kd.int .i64) 3 _ w.heap.size _ _ (rd_L3 t684 x9_3) from Kd.V_mk ul704_0 ge704_0)
                                    clear hva_ hvn_ hvc_ ge704_0 ul704_0
                                    clear hcc704 hce704
                                    have HR704_0:=am hi704_0
                                    have HC704_0:=am hl704_0
                                    clear hi704_0 hl704_0
                                    replace p704:=eq_true p704
                                    replace q704:=eq_true q704
                                    obtain ⟨hcz80_0,hcz80_1⟩:=cO2 BK679.out
                                    go_wp2_with (first | (go_at_call 34;(with_reducible refine (q4_Fed.calls k6 _ _ l0_0 _ _ l0_1 x9_3 x13_6 true _ ?side1 ?side2 ?side3 ?side4 A78.out).mono ?_);(case side1=>exact kC HR0_0.out HB.out);(case side2=>exact HC0_0.out);(case side3=>exact kC HR0_1.out HB.out);(case side4=>exact HC0_1.out);rintro e w81 ⟨rfl,hb⟩;replace HO_5:=am (Kd.N_below HO_5.out hb);replace HO_6:=am (Kd.R_below HO_6.out hb);replace HL704_0:=am (Kd.V_below HL704_0.out hb);replace BK679:=(kmv hb BK679);replace HR692_0:=am (kC (by repeat (first | (with_reducible exact HR692_0.out) | (with_reducible refine Kd.C_alloc ?_ _) | (with_reducible refine Kd.C_drewN ?_ _) | (with_reducible refine Kd.C_drew ?_) | exact HR692_0.out)) hb);replace HR704_0:=am (kC (by repeat (first | (with_reducible exact HR704_0.out) | (with_reducible refine Kd.C_alloc ?_ _) | (with_reducible refine Kd.C_drewN ?_ _) | (with_reducible refine Kd.C_drew ?_) | exact HR704_0.out)) hb);replace HB:=am (below_step (HB.out) hb);(try clear hb);(try clear hb2);(try clear hk);(try clear hi)))
                                    repeat (go_quiet (first | (go_at_call 34;(with_reducible refine (q4_Fed.calls k6 _ _ l0_0 _ _ l0_1 x9_3 x13_6 true _ ?side1 ?side2 ?side3 ?side4 A78.out).mono ?_);(case side1=>repeat (first | exact (kC HR0_0.out HB.out) | (with_reducible refine Kd.C_alloc ?_ _) | (with_reducible refine Kd.C_drewN ?_ _) | (with_reducible refine Kd.C_drew ?_)));(case side2=>exact HC0_0.out);(case side3=>repeat (first | exact (kC HR0_1.out HB.out) | (with_reducible refine Kd.C_alloc ?_ _) | (with_reducible refine Kd.C_drewN ?_ _) | (with_reducible refine Kd.C_drew ?_)));(case side4=>exact HC0_1.out);rintro e w81 ⟨rfl,hb⟩;replace HO_5:=am (Kd.N_below HO_5.out hb);replace HO_6:=am (Kd.R_below HO_6.out hb);replace HL704_0:=am (Kd.V_below HL704_0.out hb);replace BK679:=(kmv hb BK679);replace HR692_0:=am (kC (by repeat (first | (with_reducible exact HR692_0.out) | (with_reducible refine Kd.C_alloc ?_ _) | (with_reducible refine Kd.C_drewN ?_ _) | (with_reducible refine Kd.C_drew ?_) | exact HR692_0.out)) hb);replace HR704_0:=am (kC (by repeat (first | (with_reducible exact HR704_0.out) | (with_reducible refine Kd.C_alloc ?_ _) | (with_reducible refine Kd.C_drewN ?_ _) | (with_reducible refine Kd.C_drew ?_) | exact HR704_0.out)) hb);replace HB:=am (below_step (by repeat (first | (with_reducible first | exact HB.out | refine below_set ?_ GE679.out | apply below_alloc | apply pw_below_drewN) | exact HB.out)) hb);(try clear hb);(try clear hb2);(try clear hk);(try clear hi)));try go_wp2_with (first | (go_at_call 34;(with_reducible refine (q4_Fed.calls k6 _ _ l0_0 _ _ l0_1 x9_3 x13_6 true _ ?side1 ?side2 ?side3 ?side4 A78.out).mono ?_);(case side1=>repeat (first | exact (kC HR0_0.out HB.out) | (with_reducible refine Kd.C_alloc ?_ _) | (with_reducible refine Kd.C_drewN ?_ _) | (with_reducible refine Kd.C_drew ?_)));(case side2=>exact HC0_0.out);(case side3=>repeat (first | exact (kC HR0_1.out HB.out) | (with_reducible refine Kd.C_alloc ?_ _) | (with_reducible refine Kd.C_drewN ?_ _) | (with_reducible refine Kd.C_drew ?_)));(case side4=>exact HC0_1.out);rintro e w81 ⟨rfl,hb⟩;replace HO_5:=am (Kd.N_below HO_5.out hb);replace HO_6:=am (Kd.R_below HO_6.out hb);replace HL704_0:=am (Kd.V_below HL704_0.out hb);replace BK679:=(kmv hb BK679);replace HR692_0:=am (kC (by repeat (first | (with_reducible exact HR692_0.out) | (with_reducible refine Kd.C_alloc ?_ _) | (with_reducible refine Kd.C_drewN ?_ _) | (with_reducible refine Kd.C_drew ?_) | exact HR692_0.out)) hb);replace HR704_0:=am (kC (by repeat (first | (with_reducible exact HR704_0.out) | (with_reducible refine Kd.C_alloc ?_ _) | (with_reducible refine Kd.C_drewN ?_ _) | (with_reducible refine Kd.C_drew ?_) | exact HR704_0.out)) hb);replace HB:=am (below_step (by repeat (first | (with_reducible first | exact HB.out | refine below_set ?_ GE679.out | apply below_alloc | apply pw_below_drewN) | exact HB.out)) hb);(try clear hb);(try clear hb2);(try clear hk);(try clear hi))))
                                    go_roundg k6
                                    case measure=>have:=HJ2.out;have:=HJ23.out;have:=HK3.out;have:=HJ37.out;have:=HJ49.out;have:=HK6.out;omega
                                    case rel=>exact ⟨(x8_6),(wrap64 (x13_6 + 1)),(by first | rfl | (simp;done) | (simp [*];done)),(by first | rfl | (simp;done) | (simp [*];done)),H',⟨by have:=HJ2.out;have:=HJ23.out;have:=HK3.out;have:=HJ37.out;have:=HJ49.out;have:=HK6.out;omega⟩,⟨by (with_reducible repeat (first | apply Kd.N_alloc | apply Kd.N_drewN | apply Kd.N_drew));exact HO_5.out⟩,⟨by (with_reducible repeat (first | apply Kd.R_alloc | apply Kd.R_drewN | apply Kd.R_drew));exact HO_6.out⟩,⟨BK679.out⟩,⟨by first | exact HX692_0.out _ _ | (repeat (first | (with_reducible exact HR692_0.out) | (with_reducible refine Kd.C_alloc ?_ _) | (with_reducible refine Kd.C_drewN ?_ _) | (with_reducible refine Kd.C_drew ?_) | exact HR692_0.out))⟩,⟨HB.out⟩⟩
                                  ·as_aux_lemma =>
                                    replace c79:=Bool.eq_false_iff.mpr c79
                                    subst c79
                                    replace H : (if 0≤x13_6 then (l4_CastleSum.l1 k6 a1 t684 t687 (wrap64 (x8_6 + (rd (rd_L3 t684 x9_3) x13_6))) x9_3 (wrap64 (x13_6 + 1)) l0_0 l0_1) else (none)) = some r:=by rw [if_neg (show ¬ (false = true) by decide)] at H;exact H
                                    by_cases c82 : 0≤x13_6
                                    case neg =>
                                     rw [if_neg c82] at H
                                     exact absurd H (by simp)
                                    as_aux_lemma =>
                                     rw [if_pos c82] at H
                                     have c82b0 : decide (0≤x13_6) = true:=decide_eq_true c82
                                     clear c82
                                     replace H':=am H
                                     have p704 : 0≤(x9_3 : Int):=of_decide_eq_true (by assumption)
                                     have q704 : x9_3 < (t684.length : Int):=of_decide_eq_true (by assumption)
                                     obtain ⟨ad704,A704_0,c704_0,e704,hx704_0,hl704_0,hi704_0⟩:=at_L3 (Kd.N_reads' HO_5.out).2.2 x9_3 p704 q704
                                     obtain rfl : ad692 = ad704:=(by injection e704)
                                     obtain ⟨ce704,hce704,hMe704,hcc704⟩:=Kd.N_get HO_5.out [] x9_3 p704 (by first | exact q704 | exact of_decide_eq_true (by assumption) | (have e_:=(Kd.N_reads' HO_5.out).1;omega))
                                     obtain ⟨ua704_0,uc704_0,rfl,ul704_0,ge704_0⟩:=Kd.FK_slice_open hMe704
                                     have hv704_0:=hcc704 0 _ rfl
                                     rw [Nat.add_zero,show ((Kd.slice 3 (Kd.int .i64))).sz = 1 from rfl,Nat.mul_one] at hv704_0
                                     replace hv704_0:=Option.some.inj (hv704_0.symm.trans hx704_0)
                                     injection hv704_0 with hva_ hvn_ hvc_
                                     rw [hva_] at ge704_0
                                     rw [hvc_] at ul704_0
                                     have HL704_0:=am (show Kd.V (Kd.int .i64) 3 _ w.heap.size _ _ (rd_L3 t684 x9_3) from Kd.V_mk ul704_0 ge704_0)
                                     clear hva_ hvn_ hvc_ ge704_0 ul704_0
                                     clear hcc704 hce704
                                     have HR704_0:=am hi704_0
                                     have HC704_0:=am hl704_0
                                     clear hi704_0 hl704_0
                                     replace p704:=eq_true p704
                                     replace q704:=eq_true q704
                                     obtain ⟨hcz83_0,hcz83_1⟩:=cO2 BK679.out
                                     go_wp2_with (first | (go_at_call 34;(with_reducible refine (q4_Fed.calls k6 _ _ l0_0 _ _ l0_1 x9_3 x13_6 false _ ?side1 ?side2 ?side3 ?side4 A78.out).mono ?_);(case side1=>exact kC HR0_0.out HB.out);(case side2=>exact HC0_0.out);(case side3=>exact kC HR0_1.out HB.out);(case side4=>exact HC0_1.out);rintro e w84 ⟨rfl,hb⟩;replace HO_5:=am (Kd.N_below HO_5.out hb);replace HO_6:=am (Kd.R_below HO_6.out hb);replace HL704_0:=am (Kd.V_below HL704_0.out hb);replace BK679:=(kmv hb BK679);replace HR692_0:=am (kC (by repeat (first | (with_reducible exact HR692_0.out) | (with_reducible refine Kd.C_alloc ?_ _) | (with_reducible refine Kd.C_drewN ?_ _) | (with_reducible refine Kd.C_drew ?_) | exact HR692_0.out)) hb);replace HR704_0:=am (kC (by repeat (first | (with_reducible exact HR704_0.out) | (with_reducible refine Kd.C_alloc ?_ _) | (with_reducible refine Kd.C_drewN ?_ _) | (with_reducible refine Kd.C_drew ?_) | exact HR704_0.out)) hb);replace HB:=am (below_step (HB.out) hb);(try clear hb);(try clear hb2);(try clear hk);(try clear hi);have p706 : 0≤(x9_3 : Int):=of_decide_eq_true (by assumption);have q706 : x9_3 < (t684.length : Int):=of_decide_eq_true (by assumption);obtain ⟨ad706,A706_0,c706_0,e706,hx706_0,hl706_0,hi706_0⟩:=at_L3 (Kd.N_reads' HO_5.out).2.2 x9_3 p706 q706;obtain rfl : ad692 = ad706:=(by injection e706);obtain ⟨ce706,hce706,hMe706,hcc706⟩:=Kd.N_get HO_5.out [] x9_3 p706 (by first | exact q706 | exact of_decide_eq_true (by assumption) | (have e_:=(Kd.N_reads' HO_5.out).1;omega));obtain ⟨ua706_0,uc706_0,rfl,ul706_0,ge706_0⟩:=Kd.FK_slice_open hMe706;have hv706_0:=hcc706 0 _ rfl;rw [Nat.add_zero,show ((Kd.slice 3 (Kd.int .i64))).sz = 1 from rfl,Nat.mul_one] at hv706_0;replace hv706_0:=Option.some.inj (hv706_0.symm.trans hx706_0);injection hv706_0 with hva_ hvn_ hvc_;rw [hva_] at ge706_0;rw [hvc_] at ul706_0;have HL706_0:=am (show Kd.V (Kd.int .i64) 3 _ w.heap.size _ _ (rd_L3 t684 x9_3) from Kd.V_mk ul706_0 ge706_0);clear hva_ hvn_ hvc_ ge706_0 ul706_0;clear hcc706 hce706;have HR706_0:=am hi706_0;have HC706_0:=am hl706_0;clear hi706_0 hl706_0;replace p706:=eq_true p706;replace q706:=eq_true q706;have p707 : 0≤(x13_6 : Int):=of_decide_eq_true (by assumption);have q707 : x13_6 < ((rd_L3 t684 x9_3).length : Int):=of_decide_eq_true (by assumption);obtain ⟨ad707,e707,hx707_0⟩:=Kd.at_int (by repeat (first | (with_reducible exact HR706_0.out) | (with_reducible refine Kd.C_alloc ?_ _) | (with_reducible refine Kd.C_drewN ?_ _) | (with_reducible refine Kd.C_drew ?_) | exact HR706_0.out)) x13_6 p707 q707;cases e707;replace p707:=eq_true p707;replace q707:=eq_true q707))
                                     repeat (go_quiet (first | (go_at_call 34;(with_reducible refine (q4_Fed.calls k6 _ _ l0_0 _ _ l0_1 x9_3 x13_6 false _ ?side1 ?side2 ?side3 ?side4 A78.out).mono ?_);(case side1=>repeat (first | exact (kC HR0_0.out HB.out) | (with_reducible refine Kd.C_alloc ?_ _) | (with_reducible refine Kd.C_drewN ?_ _) | (with_reducible refine Kd.C_drew ?_)));(case side2=>exact HC0_0.out);(case side3=>repeat (first | exact (kC HR0_1.out HB.out) | (with_reducible refine Kd.C_alloc ?_ _) | (with_reducible refine Kd.C_drewN ?_ _) | (with_reducible refine Kd.C_drew ?_)));(case side4=>exact HC0_1.out);rintro e w84 ⟨rfl,hb⟩;replace HO_5:=am (Kd.N_below HO_5.out hb);replace HO_6:=am (Kd.R_below HO_6.out hb);replace HL704_0:=am (Kd.V_below HL704_0.out hb);replace BK679:=(kmv hb BK679);replace HR692_0:=am (kC (by repeat (first | (with_reducible exact HR692_0.out) | (with_reducible refine Kd.C_alloc ?_ _) | (with_reducible refine Kd.C_drewN ?_ _) | (with_reducible refine Kd.C_drew ?_) | exact HR692_0.out)) hb);replace HR704_0:=am (kC (by repeat (first | (with_reducible exact HR704_0.out) | (with_reducible refine Kd.C_alloc ?_ _) | (with_reducible refine Kd.C_drewN ?_ _) | (with_reducible refine Kd.C_drew ?_) | exact HR704_0.out)) hb);replace HB:=am (below_step (by repeat (first | (with_reducible first | exact HB.out | refine below_set ?_ GE679.out | apply below_alloc | apply pw_below_drewN) | exact HB.out)) hb);(try clear hb);(try clear hb2);(try clear hk);(try clear hi);have p706 : 0≤(x9_3 : Int):=of_decide_eq_true (by assumption);have q706 : x9_3 < (t684.length : Int):=of_decide_eq_true (by assumption);obtain ⟨ad706,A706_0,c706_0,e706,hx706_0,hl706_0,hi706_0⟩:=at_L3 (Kd.N_reads' HO_5.out).2.2 x9_3 p706 q706;obtain rfl : ad692 = ad706:=(by injection e706);obtain ⟨ce706,hce706,hMe706,hcc706⟩:=Kd.N_get HO_5.out [] x9_3 p706 (by first | exact q706 | exact of_decide_eq_true (by assumption) | (have e_:=(Kd.N_reads' HO_5.out).1;omega));obtain ⟨ua706_0,uc706_0,rfl,ul706_0,ge706_0⟩:=Kd.FK_slice_open hMe706;have hv706_0:=hcc706 0 _ rfl;rw [Nat.add_zero,show ((Kd.slice 3 (Kd.int .i64))).sz = 1 from rfl,Nat.mul_one] at hv706_0;replace hv706_0:=Option.some.inj (hv706_0.symm.trans hx706_0);injection hv706_0 with hva_ hvn_ hvc_;rw [hva_] at ge706_0;rw [hvc_] at ul706_0;have HL706_0:=am (show Kd.V (Kd.int .i64) 3 _ w.heap.size _ _ (rd_L3 t684 x9_3) from Kd.V_mk ul706_0 ge706_0);clear hva_ hvn_ hvc_ ge706_0 ul706_0;clear hcc706 hce706;have HR706_0:=am hi706_0;have HC706_0:=am hl706_0;clear hi706_0 hl706_0;replace p706:=eq_true p706;replace q706:=eq_true q706;have p707 : 0≤(x13_6 : Int):=of_decide_eq_true (by assumption);have q707 : x13_6 < ((rd_L3 t684 x9_3).length : Int):=of_decide_eq_true (by assumption);obtain ⟨ad707,e707,hx707_0⟩:=Kd.at_int (by repeat (first | (with_reducible exact HR706_0.out) | (with_reducible refine Kd.C_alloc ?_ _) | (with_reducible refine Kd.C_drewN ?_ _) | (with_reducible refine Kd.C_drew ?_) | exact HR706_0.out)) x13_6 p707 q707;cases e707;replace p707:=eq_true p707;replace q707:=eq_true q707));try go_wp2_with (first | (go_at_call 34;(with_reducible refine (q4_Fed.calls k6 _ _ l0_0 _ _ l0_1 x9_3 x13_6 false _ ?side1 ?side2 ?side3 ?side4 A78.out).mono ?_);(case side1=>repeat (first | exact (kC HR0_0.out HB.out) | (with_reducible refine Kd.C_alloc ?_ _) | (with_reducible refine Kd.C_drewN ?_ _) | (with_reducible refine Kd.C_drew ?_)));(case side2=>exact HC0_0.out);(case side3=>repeat (first | exact (kC HR0_1.out HB.out) | (with_reducible refine Kd.C_alloc ?_ _) | (with_reducible refine Kd.C_drewN ?_ _) | (with_reducible refine Kd.C_drew ?_)));(case side4=>exact HC0_1.out);rintro e w84 ⟨rfl,hb⟩;replace HO_5:=am (Kd.N_below HO_5.out hb);replace HO_6:=am (Kd.R_below HO_6.out hb);replace HL704_0:=am (Kd.V_below HL704_0.out hb);replace BK679:=(kmv hb BK679);replace HR692_0:=am (kC (by repeat (first | (with_reducible exact HR692_0.out) | (with_reducible refine Kd.C_alloc ?_ _) | (with_reducible refine Kd.C_drewN ?_ _) | (with_reducible refine Kd.C_drew ?_) | exact HR692_0.out)) hb);replace HR704_0:=am (kC (by repeat (first | (with_reducible exact HR704_0.out) | (with_reducible refine Kd.C_alloc ?_ _) | (with_reducible refine Kd.C_drewN ?_ _) | (with_reducible refine Kd.C_drew ?_) | exact HR704_0.out)) hb);replace HB:=am (below_step (by repeat (first | (with_reducible first | exact HB.out | refine below_set ?_ GE679.out | apply below_alloc | apply pw_below_drewN) | exact HB.out)) hb);(try clear hb);(try clear hb2);(try clear hk);(try clear hi);have p706 : 0≤(x9_3 : Int):=of_decide_eq_true (by assumption);have q706 : x9_3 < (t684.length : Int):=of_decide_eq_true (by assumption);obtain ⟨ad706,A706_0,c706_0,e706,hx706_0,hl706_0,hi706_0⟩:=at_L3 (Kd.N_reads' HO_5.out).2.2 x9_3 p706 q706;obtain rfl : ad692 = ad706:=(by injection e706);obtain ⟨ce706,hce706,hMe706,hcc706⟩:=Kd.N_get HO_5.out [] x9_3 p706 (by first | exact q706 | exact of_decide_eq_true (by assumption) | (have e_:=(Kd.N_reads' HO_5.out).1;omega));obtain ⟨ua706_0,uc706_0,rfl,ul706_0,ge706_0⟩:=Kd.FK_slice_open hMe706;have hv706_0:=hcc706 0 _ rfl;rw [Nat.add_zero,show ((Kd.slice 3 (Kd.int .i64))).sz = 1 from rfl,Nat.mul_one] at hv706_0;replace hv706_0:=Option.some.inj (hv706_0.symm.trans hx706_0);injection hv706_0 with hva_ hvn_ hvc_;rw [hva_] at ge706_0;rw [hvc_] at ul706_0;have HL706_0:=am (show Kd.V (Kd.int .i64) 3 _ w.heap.size _ _ (rd_L3 t684 x9_3) from Kd.V_mk ul706_0 ge706_0);clear hva_ hvn_ hvc_ ge706_0 ul706_0;clear hcc706 hce706;have HR706_0:=am hi706_0;have HC706_0:=am hl706_0;clear hi706_0 hl706_0;replace p706:=eq_true p706;replace q706:=eq_true q706;have p707 : 0≤(x13_6 : Int):=of_decide_eq_true (by assumption);have q707 : x13_6 < ((rd_L3 t684 x9_3).length : Int):=of_decide_eq_true (by assumption);obtain ⟨ad707,e707,hx707_0⟩:=Kd.at_int (by repeat (first | (with_reducible exact HR706_0.out) | (with_reducible refine Kd.C_alloc ?_ _) | (with_reducible refine Kd.C_drewN ?_ _) | (with_reducible refine Kd.C_drew ?_) | exact HR706_0.out)) x13_6 p707 q707;cases e707;replace p707:=eq_true p707;replace q707:=eq_true q707)))
                                     go_roundg k6
                                     case measure=>have:=HJ2.out;have:=HJ23.out;have:=HK3.out;have:=HJ37.out;have:=HJ49.out;have:=HK6.out;omega
                                     case rel=>exact ⟨(wrap64 (x8_6 + (rd (rd_L3 t684 x9_3) x13_6))),(wrap64 (x13_6 + 1)),(by first | rfl | (simp;done) | (simp [*];done)),(by first | rfl | (simp;done) | (simp [*];done)),H',⟨by have:=HJ2.out;have:=HJ23.out;have:=HK3.out;have:=HJ37.out;have:=HJ49.out;have:=HK6.out;omega⟩,⟨by (with_reducible repeat (first | apply Kd.N_alloc | apply Kd.N_drewN | apply Kd.N_drew));exact HO_5.out⟩,⟨by (with_reducible repeat (first | apply Kd.R_alloc | apply Kd.R_drewN | apply Kd.R_drew));exact HO_6.out⟩,⟨BK679.out⟩,⟨by first | exact HX692_0.out _ _ | (repeat (first | (with_reducible exact HR692_0.out) | (with_reducible refine Kd.C_alloc ?_ _) | (with_reducible refine Kd.C_drewN ?_ _) | (with_reducible refine Kd.C_drew ?_) | exact HR692_0.out))⟩,⟨HB.out⟩⟩
                                ·as_aux_lemma =>
                                  rw [if_neg c77] at H
                                  have c77b0 : decide (x13_6 < ((rd_L3 t684 x9_3).length : Int)) = false:=decide_eq_false c77
                                  clear c77
                                  replace H:=obm H
                                  obtain ⟨t708,A850,H⟩:=H
                                  replace H : (if t708 = true then (l4_CastleSum.l0 k6 a1 t684 t687 x8_6 (wrap64 (x9_3 + 1)) l0_0 l0_1) else (if x9_3 < (t687.length : Int) then (l4_CastleSum.l0 k6 a1 t684 t687 (wrap64 (x8_6 + (rd t687 x9_3))) (wrap64 (x9_3 + 1)) l0_0 l0_1) else (none))) = some r:=H
                                  have A85:=am A850
                                  clear A850
                                  by_cases c86 : t708 = true
                                  ·as_aux_lemma =>
                                    subst c86
                                    replace H : (l4_CastleSum.l0 k6 a1 t684 t687 x8_6 (wrap64 (x9_3 + 1)) l0_0 l0_1) = some r:=by rw [if_pos rfl] at H;exact H
                                    replace H':=am H
                                    have p704 : 0≤(x9_3 : Int):=of_decide_eq_true (by assumption)
                                    have q704 : x9_3 < (t684.length : Int):=of_decide_eq_true (by assumption)
                                    obtain ⟨ad704,A704_0,c704_0,e704,hx704_0,hl704_0,hi704_0⟩:=at_L3 (Kd.N_reads' HO_5.out).2.2 x9_3 p704 q704
                                    obtain rfl : ad692 = ad704:=(by injection e704)
                                    obtain ⟨ce704,hce704,hMe704,hcc704⟩:=Kd.N_get HO_5.out [] x9_3 p704 (by first | exact q704 | exact of_decide_eq_true (by assumption) | (have e_:=(Kd.N_reads' HO_5.out).1;omega))
                                    obtain ⟨ua704_0,uc704_0,rfl,ul704_0,ge704_0⟩:=Kd.FK_slice_open hMe704
                                    have hv704_0:=hcc704 0 _ rfl
                                    rw [Nat.add_zero,show ((Kd.slice 3 (Kd.int .i64))).sz = 1 from rfl,Nat.mul_one] at hv704_0
                                    replace hv704_0:=Option.some.inj (hv704_0.symm.trans hx704_0)
                                    injection hv704_0 with hva_ hvn_ hvc_
                                    rw [hva_] at ge704_0
                                    rw [hvc_] at ul704_0
                                    have HL704_0:=am (show Kd.V (Kd.int .i64) 3 _ w.heap.size _ _ (rd_L3 t684 x9_3) from Kd.V_mk ul704_0 ge704_0)
                                    clear hva_ hvn_ hvc_ ge704_0 ul704_0
                                    clear hcc704 hce704
                                    have HR704_0:=am hi704_0
                                    have HC704_0:=am hl704_0
                                    clear hi704_0 hl704_0
                                    replace p704:=eq_true p704
                                    replace q704:=eq_true q704
                                    obtain ⟨hcz87_0,hcz87_1⟩:=cO2 BK679.out
                                    go_wp2_with (first | (go_at_call 34;(with_reducible refine (q4_Fed.calls k6 _ _ l0_0 _ _ l0_1 x9_3 (-1) true _ ?side1 ?side2 ?side3 ?side4 A85.out).mono ?_);(case side1=>exact kC HR0_0.out HB.out);(case side2=>exact HC0_0.out);(case side3=>exact kC HR0_1.out HB.out);(case side4=>exact HC0_1.out);rintro e w88 ⟨rfl,hb⟩;replace HO_5:=am (Kd.N_below HO_5.out hb);replace HO_6:=am (Kd.R_below HO_6.out hb);replace HL704_0:=am (Kd.V_below HL704_0.out hb);replace BK679:=(kmv hb BK679);replace HR692_0:=am (kC (by repeat (first | (with_reducible exact HR692_0.out) | (with_reducible refine Kd.C_alloc ?_ _) | (with_reducible refine Kd.C_drewN ?_ _) | (with_reducible refine Kd.C_drew ?_) | exact HR692_0.out)) hb);replace HR704_0:=am (kC (by repeat (first | (with_reducible exact HR704_0.out) | (with_reducible refine Kd.C_alloc ?_ _) | (with_reducible refine Kd.C_drewN ?_ _) | (with_reducible refine Kd.C_drew ?_) | exact HR704_0.out)) hb);replace HB:=am (below_step (HB.out) hb);(try clear hb);(try clear hb2);(try clear hk);(try clear hi)))
                                    repeat (go_quiet (first | (go_at_call 34;(with_reducible refine (q4_Fed.calls k6 _ _ l0_0 _ _ l0_1 x9_3 (-1) true _ ?side1 ?side2 ?side3 ?side4 A85.out).mono ?_);(case side1=>repeat (first | exact (kC HR0_0.out HB.out) | (with_reducible refine Kd.C_alloc ?_ _) | (with_reducible refine Kd.C_drewN ?_ _) | (with_reducible refine Kd.C_drew ?_)));(case side2=>exact HC0_0.out);(case side3=>repeat (first | exact (kC HR0_1.out HB.out) | (with_reducible refine Kd.C_alloc ?_ _) | (with_reducible refine Kd.C_drewN ?_ _) | (with_reducible refine Kd.C_drew ?_)));(case side4=>exact HC0_1.out);rintro e w88 ⟨rfl,hb⟩;replace HO_5:=am (Kd.N_below HO_5.out hb);replace HO_6:=am (Kd.R_below HO_6.out hb);replace HL704_0:=am (Kd.V_below HL704_0.out hb);replace BK679:=(kmv hb BK679);replace HR692_0:=am (kC (by repeat (first | (with_reducible exact HR692_0.out) | (with_reducible refine Kd.C_alloc ?_ _) | (with_reducible refine Kd.C_drewN ?_ _) | (with_reducible refine Kd.C_drew ?_) | exact HR692_0.out)) hb);replace HR704_0:=am (kC (by repeat (first | (with_reducible exact HR704_0.out) | (with_reducible refine Kd.C_alloc ?_ _) | (with_reducible refine Kd.C_drewN ?_ _) | (with_reducible refine Kd.C_drew ?_) | exact HR704_0.out)) hb);replace HB:=am (below_step (by repeat (first | (with_reducible first | exact HB.out | refine below_set ?_ GE679.out | apply below_alloc | apply pw_below_drewN) | exact HB.out)) hb);(try clear hb);(try clear hb2);(try clear hk);(try clear hi)));try go_wp2_with (first | (go_at_call 34;(with_reducible refine (q4_Fed.calls k6 _ _ l0_0 _ _ l0_1 x9_3 (-1) true _ ?side1 ?side2 ?side3 ?side4 A85.out).mono ?_);(case side1=>repeat (first | exact (kC HR0_0.out HB.out) | (with_reducible refine Kd.C_alloc ?_ _) | (with_reducible refine Kd.C_drewN ?_ _) | (with_reducible refine Kd.C_drew ?_)));(case side2=>exact HC0_0.out);(case side3=>repeat (first | exact (kC HR0_1.out HB.out) | (with_reducible refine Kd.C_alloc ?_ _) | (with_reducible refine Kd.C_drewN ?_ _) | (with_reducible refine Kd.C_drew ?_)));(case side4=>exact HC0_1.out);rintro e w88 ⟨rfl,hb⟩;replace HO_5:=am (Kd.N_below HO_5.out hb);replace HO_6:=am (Kd.R_below HO_6.out hb);replace HL704_0:=am (Kd.V_below HL704_0.out hb);replace BK679:=(kmv hb BK679);replace HR692_0:=am (kC (by repeat (first | (with_reducible exact HR692_0.out) | (with_reducible refine Kd.C_alloc ?_ _) | (with_reducible refine Kd.C_drewN ?_ _) | (with_reducible refine Kd.C_drew ?_) | exact HR692_0.out)) hb);replace HR704_0:=am (kC (by repeat (first | (with_reducible exact HR704_0.out) | (with_reducible refine Kd.C_alloc ?_ _) | (with_reducible refine Kd.C_drewN ?_ _) | (with_reducible refine Kd.C_drew ?_) | exact HR704_0.out)) hb);replace HB:=am (below_step (by repeat (first | (with_reducible first | exact HB.out | refine below_set ?_ GE679.out | apply below_alloc | apply pw_below_drewN) | exact HB.out)) hb);(try clear hb);(try clear hb2);(try clear hk);(try clear hi))))
                                    go_roundg k6
                                    case measure=>have:=HJ2.out;have:=HJ23.out;have:=HK3.out;have:=HJ37.out;have:=HJ49.out;have:=HK6.out;omega
                                    case rel=>exact ⟨(x8_6),(wrap64 (x9_3 + 1)),(by first | rfl | (simp;done) | (simp [*];done)),(by first | rfl | (simp;done) | (simp [*];done)),H',⟨by have:=HJ2.out;have:=HJ23.out;have:=HK3.out;have:=HJ37.out;have:=HJ49.out;have:=HK6.out;omega⟩,⟨by (with_reducible repeat (first | apply Kd.N_alloc | apply Kd.N_drewN | apply Kd.N_drew));exact HO_5.out⟩,⟨by (with_reducible repeat (first | apply Kd.R_alloc | apply Kd.R_drewN | apply Kd.R_drew));exact HO_6.out⟩,⟨BK679.out⟩,⟨HB.out⟩⟩
                                  ·as_aux_lemma =>
                                    replace c86:=Bool.eq_false_iff.mpr c86
                                    subst c86
                                    replace H : (if x9_3 < (t687.length : Int) then (l4_CastleSum.l0 k6 a1 t684 t687 (wrap64 (x8_6 + (rd t687 x9_3))) (wrap64 (x9_3 + 1)) l0_0 l0_1) else (none)) = some r:=by rw [if_neg (show ¬ (false = true) by decide)] at H;exact H
                                    by_cases c89 : x9_3 < (t687.length : Int)
                                    case neg =>
                                     rw [if_neg c89] at H
                                     exact absurd H (by simp)
                                    as_aux_lemma =>
                                     rw [if_pos c89] at H
                                     have c89b0 : decide (x9_3 < (t687.length : Int)) = true:=decide_eq_true c89
                                     clear c89
                                     replace H':=am H
                                     have p704 : 0≤(x9_3 : Int):=of_decide_eq_true (by assumption)
                                     have q704 : x9_3 < (t684.length : Int):=of_decide_eq_true (by assumption)
                                     obtain ⟨ad704,A704_0,c704_0,e704,hx704_0,hl704_0,hi704_0⟩:=at_L3 (Kd.N_reads' HO_5.out).2.2 x9_3 p704 q704
                                     obtain rfl : ad692 = ad704:=(by injection e704)
                                     obtain ⟨ce704,hce704,hMe704,hcc704⟩:=Kd.N_get HO_5.out [] x9_3 p704 (by first | exact q704 | exact of_decide_eq_true (by assumption) | (have e_:=(Kd.N_reads' HO_5.out).1;omega))
                                     obtain ⟨ua704_0,uc704_0,rfl,ul704_0,ge704_0⟩:=Kd.FK_slice_open hMe704
                                     have hv704_0:=hcc704 0 _ rfl
                                     rw [Nat.add_zero,show ((Kd.slice 3 (Kd.int .i64))).sz = 1 from rfl,Nat.mul_one] at hv704_0
                                     replace hv704_0:=Option.some.inj (hv704_0.symm.trans hx704_0)
                                     injection hv704_0 with hva_ hvn_ hvc_
                                     rw [hva_] at ge704_0
                                     rw [hvc_] at ul704_0
                                     have HL704_0:=am (show Kd.V (Kd.int .i64) 3 _ w.heap.size _ _ (rd_L3 t684 x9_3) from Kd.V_mk ul704_0 ge704_0)
                                     clear hva_ hvn_ hvc_ ge704_0 ul704_0
                                     clear hcc704 hce704
                                     have HR704_0:=am hi704_0
                                     have HC704_0:=am hl704_0
                                     clear hi704_0 hl704_0
                                     replace p704:=eq_true p704
                                     replace q704:=eq_true q704
                                     obtain ⟨hcz90_0,hcz90_1⟩:=cO2 BK679.out
                                     go_wp2_with (first | (go_at_call 34;(with_reducible refine (q4_Fed.calls k6 _ _ l0_0 _ _ l0_1 x9_3 (-1) false _ ?side1 ?side2 ?side3 ?side4 A85.out).mono ?_);(case side1=>exact kC HR0_0.out HB.out);(case side2=>exact HC0_0.out);(case side3=>exact kC HR0_1.out HB.out);(case side4=>exact HC0_1.out);rintro e w91 ⟨rfl,hb⟩;replace HO_5:=am (Kd.N_below HO_5.out hb);replace HO_6:=am (Kd.R_below HO_6.out hb);replace HL704_0:=am (Kd.V_below HL704_0.out hb);replace BK679:=(kmv hb BK679);replace HR692_0:=am (kC (by repeat (first | (with_reducible exact HR692_0.out) | (with_reducible refine Kd.C_alloc ?_ _) | (with_reducible refine Kd.C_drewN ?_ _) | (with_reducible refine Kd.C_drew ?_) | exact HR692_0.out)) hb);replace HR704_0:=am (kC (by repeat (first | (with_reducible exact HR704_0.out) | (with_reducible refine Kd.C_alloc ?_ _) | (with_reducible refine Kd.C_drewN ?_ _) | (with_reducible refine Kd.C_drew ?_) | exact HR704_0.out)) hb);replace HB:=am (below_step (HB.out) hb);(try clear hb);(try clear hb2);(try clear hk);(try clear hi);have p709 : 0≤(x9_3 : Int):=of_decide_eq_true (by assumption);have q709 : x9_3 < (t687.length : Int):=of_decide_eq_true (by assumption);obtain ⟨ad709,e709,hx709_0⟩:=Kd.at_int (Kd.R_reads' HO_6.out).2.2 x9_3 p709 q709;obtain rfl : ad703 = ad709:=(by injection e709);replace p709:=eq_true p709;replace q709:=eq_true q709))
                                     repeat (go_quiet (first | (go_at_call 34;(with_reducible refine (q4_Fed.calls k6 _ _ l0_0 _ _ l0_1 x9_3 (-1) false _ ?side1 ?side2 ?side3 ?side4 A85.out).mono ?_);(case side1=>repeat (first | exact (kC HR0_0.out HB.out) | (with_reducible refine Kd.C_alloc ?_ _) | (with_reducible refine Kd.C_drewN ?_ _) | (with_reducible refine Kd.C_drew ?_)));(case side2=>exact HC0_0.out);(case side3=>repeat (first | exact (kC HR0_1.out HB.out) | (with_reducible refine Kd.C_alloc ?_ _) | (with_reducible refine Kd.C_drewN ?_ _) | (with_reducible refine Kd.C_drew ?_)));(case side4=>exact HC0_1.out);rintro e w91 ⟨rfl,hb⟩;replace HO_5:=am (Kd.N_below HO_5.out hb);replace HO_6:=am (Kd.R_below HO_6.out hb);replace HL704_0:=am (Kd.V_below HL704_0.out hb);replace BK679:=(kmv hb BK679);replace HR692_0:=am (kC (by repeat (first | (with_reducible exact HR692_0.out) | (with_reducible refine Kd.C_alloc ?_ _) | (with_reducible refine Kd.C_drewN ?_ _) | (with_reducible refine Kd.C_drew ?_) | exact HR692_0.out)) hb);replace HR704_0:=am (kC (by repeat (first | (with_reducible exact HR704_0.out) | (with_reducible refine Kd.C_alloc ?_ _) | (with_reducible refine Kd.C_drewN ?_ _) | (with_reducible refine Kd.C_drew ?_) | exact HR704_0.out)) hb);replace HB:=am (below_step (by repeat (first | (with_reducible first | exact HB.out | refine below_set ?_ GE679.out | apply below_alloc | apply pw_below_drewN) | exact HB.out)) hb);(try clear hb);(try clear hb2);(try clear hk);(try clear hi);have p709 : 0≤(x9_3 : Int):=of_decide_eq_true (by assumption);have q709 : x9_3 < (t687.length : Int):=of_decide_eq_true (by assumption);obtain ⟨ad709,e709,hx709_0⟩:=Kd.at_int (Kd.R_reads' HO_6.out).2.2 x9_3 p709 q709;obtain rfl : ad703 = ad709:=(by injection e709);replace p709:=eq_true p709;replace q709:=eq_true q709));try go_wp2_with (first | (go_at_call 34;(with_reducible refine (q4_Fed.calls k6 _ _ l0_0 _ _ l0_1 x9_3 (-1) false _ ?side1 ?side2 ?side3 ?side4 A85.out).mono ?_);(case side1=>repeat (first | exact (kC HR0_0.out HB.out) | (with_reducible refine Kd.C_alloc ?_ _) | (with_reducible refine Kd.C_drewN ?_ _) | (with_reducible refine Kd.C_drew ?_)));(case side2=>exact HC0_0.out);(case side3=>repeat (first | exact (kC HR0_1.out HB.out) | (with_reducible refine Kd.C_alloc ?_ _) | (with_reducible refine Kd.C_drewN ?_ _) | (with_reducible refine Kd.C_drew ?_)));(case side4=>exact HC0_1.out);rintro e w91 ⟨rfl,hb⟩;replace HO_5:=am (Kd.N_below HO_5.out hb);replace HO_6:=am (Kd.R_below HO_6.out hb);replace HL704_0:=am (Kd.V_below HL704_0.out hb);replace BK679:=(kmv hb BK679);replace HR692_0:=am (kC (by repeat (first | (with_reducible exact HR692_0.out) | (with_reducible refine Kd.C_alloc ?_ _) | (with_reducible refine Kd.C_drewN ?_ _) | (with_reducible refine Kd.C_drew ?_) | exact HR692_0.out)) hb);replace HR704_0:=am (kC (by repeat (first | (with_reducible exact HR704_0.out) | (with_reducible refine Kd.C_alloc ?_ _) | (with_reducible refine Kd.C_drewN ?_ _) | (with_reducible refine Kd.C_drew ?_) | exact HR704_0.out)) hb);replace HB:=am (below_step (by repeat (first | (with_reducible first | exact HB.out | refine below_set ?_ GE679.out | apply below_alloc | apply pw_below_drewN) | exact HB.out)) hb);(try clear hb);(try clear hb2);(try clear hk);(try clear hi);have p709 : 0≤(x9_3 : Int):=of_decide_eq_true (by assumption);have q709 : x9_3 < (t687.length : Int):=of_decide_eq_true (by assumption);obtain ⟨ad709,e709,hx709_0⟩:=Kd.at_int (Kd.R_reads' HO_6.out).2.2 x9_3 p709 q709;obtain rfl : ad703 = ad709:=(by injection e709);replace p709:=eq_true p709;replace q709:=eq_true q709)))
                                     go_roundg k6
                                     case measure=>have:=HJ2.out;have:=HJ23.out;have:=HK3.out;have:=HJ37.out;have:=HJ49.out;have:=HK6.out;omega
                                     case rel=>exact ⟨(wrap64 (x8_6 + (rd t687 x9_3))),(wrap64 (x9_3 + 1)),(by first | rfl | (simp;done) | (simp [*];done)),(by first | rfl | (simp;done) | (simp [*];done)),H',⟨by have:=HJ2.out;have:=HJ23.out;have:=HK3.out;have:=HJ37.out;have:=HJ49.out;have:=HK6.out;omega⟩,⟨by (with_reducible repeat (first | apply Kd.N_alloc | apply Kd.N_drewN | apply Kd.N_drew));exact HO_5.out⟩,⟨by (with_reducible repeat (first | apply Kd.R_alloc | apply Kd.R_drewN | apply Kd.R_drew));exact HO_6.out⟩,⟨BK679.out⟩,⟨HB.out⟩⟩
end
end Go.Proofs.YtnnmnhpeblhiiaaGreatDoor.C

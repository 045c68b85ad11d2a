/- A part of the proof: the walks of the functions that it reaches. TIGHT. -/
import Derived.Test.YtnnmnhpeblhiiaaGreatDoorMW6
import Derived.WideKeyRuns
set_option linter.unusedVariables false
set_option linter.unusedSimpArgs false
namespace Go.Proofs.YtnnmnhpeblhiiaaGreatDoor.C
open Go.RowKit Go.Proofs.YtnnmnhpeblhiiaaGreatDoorW.PrintWords Go.Proofs.YtnnmnhpeblhiiaaGreatDoorW.PrintLast Go.Proofs.YtnnmnhpeblhiiaaGreatDoorW.PrintMore
set_option linter.unusedVariables false
set_option linter.unusedSimpArgs false
set_option maxHeartbeats 16000000
set_option maxRecDepth 100000
section
attribute [local go_sem] max2_int min2_int max_two min_two
attribute [local go_sem high] eqA66
mutual
def q4_Chain.l0 : Nat→Int→List (S27)→List (S66)→Option (Bool)
 | 0,_,_,_=>none
 | k + 1,x3,x664000,x664001=>if x3 < (x664000.length : Int) then (if 0≤x3 then ((q4_Basin.f k ((rd_T27 x664000 x3).f0.f0) ((rd_T27 x664000 x3).f0.f1) ((rd_T27 x664000 x3).f1) ((rd_T27 x664000 x3).f2) ((rd_T27 x664000 x3).f3)).bind fun t665=>(if t665 = true then (q4_Chain.l0 k (wrap64 (x3 + 1)) x664000 x664001) else (some false))) else (none)) else ((q4_in.f (x664000.length : Int) 1 4).bind fun t666=>(if t666 = true then (q4_Chain.j1 k ((x664001.length : Int) != (wrap64 ((x664000.length : Int) - 1))) x664000 x664001) else (q4_Chain.j1 k true x664000 x664001)))
def q4_Chain.j1 : Nat→Bool→List (S27)→List (S66)→Option (Bool)
 | 0,_,_,_=>none
 | k + 1,x35,x664000,x664001=>if x35 = true then (some false) else (q4_Chain.l1 k 0 x664000 x664001)
def q4_Chain.l1 : Nat→Int→List (S27)→List (S66)→Option (Bool)
 | 0,_,_,_=>none
 | k + 1,x4,x664000,x664001=>if x4 < (x664001.length : Int) then (if 0≤x4 then ((q4_in.f ((rd_T66 x664001 x4).f0) 0 x4).bind fun t669=>(if t669 = true then (if 0≤((rd_T66 x664001 x4).f0) then (if ((rd_T66 x664001 x4).f0) < (x664000.length : Int) then ((q4_in.f ((rd_T66 x664001 x4).f1) (-1) (wrap64 ((((rd_T27 x664000 ((rd_T66 x664001 x4).f0)).f1).length : Int) - 1))).bind fun t671=>(q4_Chain.j3 k x4 (!t671) x664000 x664001 ((rd_T66 x664001 x4).f0) ((rd_T66 x664001 x4).f1))) else (none)) else (none)) else (q4_Chain.j3 k x4 true x664000 x664001 ((rd_T66 x664001 x4).f0) ((rd_T66 x664001 x4).f1)))) else (none)) else (some true)
def q4_Chain.j3 : Nat→Int→Bool→List (S27)→List (S66)→Int→Int→Option (Bool)
 | 0,_,_,_,_,_,_=>none
 | k + 1,x4,x67,x664000,x664001,x669000,x669001=>if x67 = true then (some false) else (q4_Chain.l2 k x4 0 x664000 x664001 x669000 x669001)
def q4_Chain.l2 : Nat→Int→Int→List (S27)→List (S66)→Int→Int→Option (Bool)
 | 0,_,_,_,_,_,_=>none
 | k + 1,x4,x6,x664000,x664001,x669000,x669001=>if x6 < x4 then (if 0≤x6 then (if x6 < (x664001.length : Int) then (if (((rd_T66 x664001 x6).f0) == x669000 && (((rd_T66 x664001 x6).f1) == x669001)) = true then (some false) else (q4_Chain.l2 k x4 (wrap64 (x6 + 1)) x664000 x664001 x669000 x669001)) else (none)) else (none)) else (q4_Chain.l1 k (wrap64 (x4 + 1)) x664000 x664001)
end
def q4_Chain.f (k : Nat) (l0_0 : List (S27)) (l0_1 : List (S66)) : Option (Bool):=q4_Chain.l0 k 0 l0_0 l0_1
theorem in_wr {a b c : Int} {r : Bool} (h : q4_in.f a b (wrap64 c) = some r) : q4_in.f a b (IntKind.i64.wrap c) = some r:=by rw [i64_w];exact h
theorem q4_Chain.calls (k : Nat) (A0_0 : Option Addr) (c0_0 : Nat) (l0_0 : List (S27)) (A0_1 : Option Addr) (c0_1 : Nat) (l0_1 : List (S66)) (r : Bool) (w : World) (hr0_0 : Kd.C k27 w A0_0 l0_0.length l0_0) (hc0_0 : l0_0.length≤c0_0) (hr0_1 : Kd.C k66 w A0_1 l0_1.length l0_1) (hc0_1 : l0_1.length≤c0_1) (h : q4_Chain.f k l0_0 l0_1 = some r) :
 Calls Tryz.prog 31 #[.agg #[.slice A0_0 l0_0.length c0_0,.slice A0_1 l0_1.length c0_1]] w fun e w'=>e = .returned (.bool r)∧Below w.heap.size w w':=by
 have hu59:=Tryz.underlying59
 have hu27:=Tryz.underlying27
 have hu66:=Tryz.underlying66
 have HR0_0:=am hr0_0
 have HC0_0:=am hc0_0
 clear hr0_0 hc0_0
 have HR0_1:=am hr0_1
 have HC0_1:=am hc0_1
 clear hr0_1 hc0_1
 have HB:=am (Below.refl w.heap.size w)
 have H : (q4_Chain.l0 k 0 l0_0 l0_1) = some r:=h
 clear h
 replace H':=am H
 go_enter Tryz.func31,Tryz.ntmps31
 go_wp2_with (first | ((refine gate_dst (N:=1) rfl ?_);(try (refine gate_guard (by rfl) ?_;dsimp only));refine box_event rfl (N:=1) rfl (cs:=#[.slice A0_0 l0_0.length c0_0,.slice A0_1 l0_1.length c0_1]) (t:=59) ?hr ?_;(case hr=>go_simp;try rfl);intro gb663 hg w2 hbox hb;have BK663:=am (hbox);have GW663:=am (ge_new (HB.out) hg);have GE663:=am (ge_new (HB.out) hg);replace HB:=am (below_step (HB.out) hb);clear hb hbox hg))
 repeat (go_quiet (first | ((refine gate_dst (N:=1) rfl ?_);(try (refine gate_guard (by rfl) ?_;dsimp only));refine box_event rfl (N:=1) rfl (cs:=#[.slice A0_0 l0_0.length c0_0,.slice A0_1 l0_1.length c0_1]) (t:=59) ?hr ?_;(case hr=>go_simp;try rfl);intro gb663 hg w2 hbox hb;have BK663:=am (hbox);have GW663:=am (ge_new (by repeat (first | (with_reducible first | exact HB.out | apply below_alloc | apply pw_below_drewN) | exact HB.out)) hg);have GE663:=am (ge_new (by repeat (first | (with_reducible first | exact HB.out | apply below_alloc | apply pw_below_drewN) | exact HB.out)) hg);replace HB:=am (below_step (by repeat (first | (with_reducible first | exact HB.out | apply below_alloc | apply pw_below_drewN) | exact HB.out)) hb);clear hb hbox hg));try go_wp2_with (first | ((refine gate_dst (N:=1) rfl ?_);(try (refine gate_guard (by rfl) ?_;dsimp only));refine box_event rfl (N:=1) rfl (cs:=#[.slice A0_0 l0_0.length c0_0,.slice A0_1 l0_1.length c0_1]) (t:=59) ?hr ?_;(case hr=>go_simp;try rfl);intro gb663 hg w2 hbox hb;have BK663:=am (hbox);have GW663:=am (ge_new (by repeat (first | (with_reducible first | exact HB.out | apply below_alloc | apply pw_below_drewN) | exact HB.out)) hg);have GE663:=am (ge_new (by repeat (first | (with_reducible first | exact HB.out | apply below_alloc | apply pw_below_drewN) | exact HB.out)) hg);replace HB:=am (below_step (by repeat (first | (with_reducible first | exact HB.out | apply below_alloc | apply pw_below_drewN) | exact HB.out)) hb);clear hb hbox hg)))
 go_loopg [3] k (fun kq v3 w'=>∃ (x3_1 : Int),v3 = .int .i64 x3_1∧Aside0 (q4_Chain.l0 kq x3_1 l0_0 l0_1 = some r)∧Aside0 (kq≤k)∧Aside0 (w'.heap[gb663]? = some (.cells #[(.slice A0_0 l0_0.length c0_0),(.slice A0_1 l0_1.length c0_1)] 59 (0,0)))∧Aside0 (Below w.heap.size w w'))
 case atStart=>exact ⟨(0),(by first | rfl | (simp;done) | (simp [*];done)),H',⟨Nat.le_refl _⟩,⟨BK663.out⟩,⟨HB.out⟩⟩
 case round =>
  clear H'
  obtain ⟨x3_1,rfl,HA,HK1,BK663,HB⟩:=hrel
  cases gk with
  | zero=>exact absurd HA.out (by simp [q4_Chain.l0])
  | succ k1 =>
   have H:=HA.out
   clear HA
   simp only [q4_Chain.l0] at H
   by_cases c3 : x3_1 < (l0_0.length : Int)
   ·rw [if_pos c3] at H
    have c3b0 : decide (x3_1 < (l0_0.length : Int)) = true:=decide_eq_true c3
    clear c3
    by_cases c4 : 0≤x3_1
    case neg =>
     rw [if_neg c4] at H
     exact absurd H (by simp)
    rw [if_pos c4] at H
    have c4b0 : decide (0≤x3_1) = true:=decide_eq_true c4
    clear c4
    replace H:=obm H
    obtain ⟨t665,A50,H⟩:=H
    replace H : (if t665 = true then (q4_Chain.l0 k1 (wrap64 (x3_1 + 1)) l0_0 l0_1) else (some false)) = some r:=H
    have A5:=am A50
    clear A50
    by_cases c6 : t665 = true
    ·subst c6
     replace H : (q4_Chain.l0 k1 (wrap64 (x3_1 + 1)) l0_0 l0_1) = some r:=by rw [if_pos rfl] at H;exact H
     replace H':=am H
     obtain ⟨hcz7_0,hcz7_1⟩:=cO2 BK663.out
     have p664 : 0≤(x3_1 : Int):=of_decide_eq_true (by assumption)
     have q664 : x3_1 < (l0_0.length : Int):=of_decide_eq_true (by assumption)
     obtain ⟨ad664,A664_0,c664_0,A664_2,c664_2,e664,hx664_0,hx664_1,hx664_2,hx664_3,hx664_4,hl664_0,hi664_0,hl664_2,hi664_2⟩:=at_T27 HR0_0.out x3_1 p664 q664
     cases e664
     replace hx664_0:=(HB.out.cell (wbl hx664_0)).trans hx664_0
     replace hx664_1:=(HB.out.cell (wbl hx664_1)).trans hx664_1
     replace hx664_2:=(HB.out.cell (wbl hx664_2)).trans hx664_2
     replace hx664_3:=(HB.out.cell (wbl hx664_3)).trans hx664_3
     replace hx664_4:=(HB.out.cell (wbl hx664_4)).trans hx664_4
     have HR664_0:=am hi664_0
     have HC664_0:=am hl664_0
     clear hi664_0 hl664_0
     have HR664_2:=am hi664_2
     have HC664_2:=am hl664_2
     clear hi664_2 hl664_2
     replace p664:=eq_true p664
     replace q664:=eq_true q664
     go_wp2_with (first | (go_at_call 15;(with_reducible refine (q4_Basin.calls k1 _ _ ((rd_T27 l0_0 x3_1).f0.f0) ((rd_T27 l0_0 x3_1).f0.f1) _ _ ((rd_T27 l0_0 x3_1).f1) ((rd_T27 l0_0 x3_1).f2) ((rd_T27 l0_0 x3_1).f3) true _ ?side1 ?side2 ?side3 ?side4 A5.out).mono ?_);(case side1=>exact kC HR664_0.out HB.out);(case side2=>exact HC664_0.out);(case side3=>exact kC HR664_2.out HB.out);(case side4=>exact HC664_2.out);rintro e w8 ⟨rfl,hb⟩;replace BK663:=(kmv hb BK663);replace HB:=am (below_step (HB.out) hb);(try clear hb);(try clear hb2);(try clear hk);(try clear hi)))
     repeat (go_quiet (first | (go_at_call 15;(with_reducible refine (q4_Basin.calls k1 _ _ ((rd_T27 l0_0 x3_1).f0.f0) ((rd_T27 l0_0 x3_1).f0.f1) _ _ ((rd_T27 l0_0 x3_1).f1) ((rd_T27 l0_0 x3_1).f2) ((rd_T27 l0_0 x3_1).f3) true _ ?side1 ?side2 ?side3 ?side4 A5.out).mono ?_);(case side1=>repeat (first | exact (kC HR664_0.out HB.out) | (with_reducible refine Kd.C_alloc ?_ _) | (with_reducible refine Kd.C_drewN ?_ _) | (with_reducible refine Kd.C_drew ?_)));(case side2=>exact HC664_0.out);(case side3=>repeat (first | exact (kC HR664_2.out HB.out) | (with_reducible refine Kd.C_alloc ?_ _) | (with_reducible refine Kd.C_drewN ?_ _) | (with_reducible refine Kd.C_drew ?_)));(case side4=>exact HC664_2.out);rintro e w8 ⟨rfl,hb⟩;replace BK663:=(kmv hb BK663);replace HB:=am (below_step (by repeat (first | (with_reducible first | exact HB.out | refine below_set ?_ GE663.out | apply below_alloc | apply pw_below_drewN) | exact HB.out)) hb);(try clear hb);(try clear hb2);(try clear hk);(try clear hi)));try go_wp2_with (first | (go_at_call 15;(with_reducible refine (q4_Basin.calls k1 _ _ ((rd_T27 l0_0 x3_1).f0.f0) ((rd_T27 l0_0 x3_1).f0.f1) _ _ ((rd_T27 l0_0 x3_1).f1) ((rd_T27 l0_0 x3_1).f2) ((rd_T27 l0_0 x3_1).f3) true _ ?side1 ?side2 ?side3 ?side4 A5.out).mono ?_);(case side1=>repeat (first | exact (kC HR664_0.out HB.out) | (with_reducible refine Kd.C_alloc ?_ _) | (with_reducible refine Kd.C_drewN ?_ _) | (with_reducible refine Kd.C_drew ?_)));(case side2=>exact HC664_0.out);(case side3=>repeat (first | exact (kC HR664_2.out HB.out) | (with_reducible refine Kd.C_alloc ?_ _) | (with_reducible refine Kd.C_drewN ?_ _) | (with_reducible refine Kd.C_drew ?_)));(case side4=>exact HC664_2.out);rintro e w8 ⟨rfl,hb⟩;replace BK663:=(kmv hb BK663);replace HB:=am (below_step (by repeat (first | (with_reducible first | exact HB.out | refine below_set ?_ GE663.out | apply below_alloc | apply pw_below_drewN) | exact HB.out)) hb);(try clear hb);(try clear hb2);(try clear hk);(try clear hi))))
     go_roundg k1
     case measure=>have:=HK1.out;omega
     case rel=>exact ⟨(wrap64 (x3_1 + 1)),(by first | rfl | (simp;done) | (simp [*];done)),H',⟨by have:=HK1.out;omega⟩,⟨BK663.out⟩,⟨HB.out⟩⟩
    ·replace c6:=Bool.eq_false_iff.mpr c6
     subst c6
     replace H : (some false) = some r:=by rw [if_neg (show ¬ (false = true) by decide)] at H;exact H
     obtain rfl:=Option.some.inj H
     obtain ⟨hcz9_0,hcz9_1⟩:=cO2 BK663.out
     have p664 : 0≤(x3_1 : Int):=of_decide_eq_true (by assumption)
     have q664 : x3_1 < (l0_0.length : Int):=of_decide_eq_true (by assumption)
     obtain ⟨ad664,A664_0,c664_0,A664_2,c664_2,e664,hx664_0,hx664_1,hx664_2,hx664_3,hx664_4,hl664_0,hi664_0,hl664_2,hi664_2⟩:=at_T27 HR0_0.out x3_1 p664 q664
     cases e664
     replace hx664_0:=(HB.out.cell (wbl hx664_0)).trans hx664_0
     replace hx664_1:=(HB.out.cell (wbl hx664_1)).trans hx664_1
     replace hx664_2:=(HB.out.cell (wbl hx664_2)).trans hx664_2
     replace hx664_3:=(HB.out.cell (wbl hx664_3)).trans hx664_3
     replace hx664_4:=(HB.out.cell (wbl hx664_4)).trans hx664_4
     have HR664_0:=am hi664_0
     have HC664_0:=am hl664_0
     clear hi664_0 hl664_0
     have HR664_2:=am hi664_2
     have HC664_2:=am hl664_2
     clear hi664_2 hl664_2
     replace p664:=eq_true p664
     replace q664:=eq_true q664
     go_wp2_with (first | (go_at_call 15;(with_reducible refine (q4_Basin.calls k1 _ _ ((rd_T27 l0_0 x3_1).f0.f0) ((rd_T27 l0_0 x3_1).f0.f1) _ _ ((rd_T27 l0_0 x3_1).f1) ((rd_T27 l0_0 x3_1).f2) ((rd_T27 l0_0 x3_1).f3) false _ ?side1 ?side2 ?side3 ?side4 A5.out).mono ?_);(case side1=>exact kC HR664_0.out HB.out);(case side2=>exact HC664_0.out);(case side3=>exact kC HR664_2.out HB.out);(case side4=>exact HC664_2.out);rintro e w10 ⟨rfl,hb⟩;replace BK663:=(kmv hb BK663);replace HB:=am (below_step (HB.out) hb);(try clear hb);(try clear hb2);(try clear hk);(try clear hi)))
     repeat (go_quiet (first | (go_at_call 15;(with_reducible refine (q4_Basin.calls k1 _ _ ((rd_T27 l0_0 x3_1).f0.f0) ((rd_T27 l0_0 x3_1).f0.f1) _ _ ((rd_T27 l0_0 x3_1).f1) ((rd_T27 l0_0 x3_1).f2) ((rd_T27 l0_0 x3_1).f3) false _ ?side1 ?side2 ?side3 ?side4 A5.out).mono ?_);(case side1=>repeat (first | exact (kC HR664_0.out HB.out) | (with_reducible refine Kd.C_alloc ?_ _) | (with_reducible refine Kd.C_drewN ?_ _) | (with_reducible refine Kd.C_drew ?_)));(case side2=>exact HC664_0.out);(case side3=>repeat (first | exact (kC HR664_2.out HB.out) | (with_reducible refine Kd.C_alloc ?_ _) | (with_reducible refine Kd.C_drewN ?_ _) | (with_reducible refine Kd.C_drew ?_)));(case side4=>exact HC664_2.out);rintro e w10 ⟨rfl,hb⟩;replace BK663:=(kmv hb BK663);replace HB:=am (below_step (by repeat (first | (with_reducible first | exact HB.out | refine below_set ?_ GE663.out | apply below_alloc | apply pw_below_drewN) | exact HB.out)) hb);(try clear hb);(try clear hb2);(try clear hk);(try clear hi)));try go_wp2_with (first | (go_at_call 15;(with_reducible refine (q4_Basin.calls k1 _ _ ((rd_T27 l0_0 x3_1).f0.f0) ((rd_T27 l0_0 x3_1).f0.f1) _ _ ((rd_T27 l0_0 x3_1).f1) ((rd_T27 l0_0 x3_1).f2) ((rd_T27 l0_0 x3_1).f3) false _ ?side1 ?side2 ?side3 ?side4 A5.out).mono ?_);(case side1=>repeat (first | exact (kC HR664_0.out HB.out) | (with_reducible refine Kd.C_alloc ?_ _) | (with_reducible refine Kd.C_drewN ?_ _) | (with_reducible refine Kd.C_drew ?_)));(case side2=>exact HC664_0.out);(case side3=>repeat (first | exact (kC HR664_2.out HB.out) | (with_reducible refine Kd.C_alloc ?_ _) | (with_reducible refine Kd.C_drewN ?_ _) | (with_reducible refine Kd.C_drew ?_)));(case side4=>exact HC664_2.out);rintro e w10 ⟨rfl,hb⟩;replace BK663:=(kmv hb BK663);replace HB:=am (below_step (by repeat (first | (with_reducible first | exact HB.out | refine below_set ?_ GE663.out | apply below_alloc | apply pw_below_drewN) | exact HB.out)) hb);(try clear hb);(try clear hb2);(try clear hk);(try clear hi))))
     go_ret
     exact ⟨by first | rfl | (simp [*]<;>rfl),HB.out⟩
   ·rw [if_neg c3] at H
    have c3b0 : decide (x3_1 < (l0_0.length : Int)) = false:=decide_eq_false c3
    clear c3
    have HC11:=am H
    clear H
    obtain ⟨hcz12_0,hcz12_1⟩:=cO2 BK663.out
    go_upto_region 6 with (fail)
    repeat (go_quiet (fail);go_upto_region 6 with (fail))
    go_cut [35] (fun v35 wc=>∃ (kq : Nat) (x35_10 : Bool),v35 = .bool x35_10∧Aside0 (q4_Chain.j1 kq x35_10 l0_0 l0_1 = some r)∧Aside0 (kq≤k1)∧Aside0 (wc.heap[gb663]? = some (.cells #[(.slice A0_0 l0_0.length c0_0),(.slice A0_1 l0_1.length c0_1)] 59 (0,0)))∧Aside0 (Below w.heap.size w wc))
    case first =>
     have H:=HC11.out
     clear HC11
     replace H:=obm H
     obtain ⟨t666,A130,H⟩:=H
     replace H : (if t666 = true then (q4_Chain.j1 k1 ((l0_1.length : Int) != (wrap64 ((l0_0.length : Int) - 1))) l0_0 l0_1) else (q4_Chain.j1 k1 true l0_0 l0_1)) = some r:=H
     have A13:=am A130
     clear A130
     by_cases c14 : t666 = true
     ·subst c14
      replace H : (q4_Chain.j1 k1 ((l0_1.length : Int) != (wrap64 ((l0_0.length : Int) - 1))) l0_0 l0_1) = some r:=by rw [if_pos rfl] at H;exact H
      replace H':=am H
      obtain ⟨hcz15_0,hcz15_1⟩:=cO2 BK663.out
      go_wp2_with (first | (go_at_call 54;(with_reducible refine (q4_in.calls (l0_0.length : Int) 1 4 true _ A13.out).mono ?_);rintro e w' ⟨rfl,⟨nd,rfl⟩⟩;(try first | exact ⟨rfl,_,World.drewN_drewN _ _ _⟩ | exact ⟨rfl,_,Eq.trans (World.drewN_drewN _ _ _) (congrArg (World.drewN _) (Nat.add_assoc _ _ _))⟩)))
      repeat (go_quiet (first | (go_at_call 54;(with_reducible refine (q4_in.calls (l0_0.length : Int) 1 4 true _ A13.out).mono ?_);rintro e w' ⟨rfl,⟨nd,rfl⟩⟩;(try first | exact ⟨rfl,_,World.drewN_drewN _ _ _⟩ | exact ⟨rfl,_,Eq.trans (World.drewN_drewN _ _ _) (congrArg (World.drewN _) (Nat.add_assoc _ _ _))⟩)));try go_wp2_with (first | (go_at_call 54;(with_reducible refine (q4_in.calls (l0_0.length : Int) 1 4 true _ A13.out).mono ?_);rintro e w' ⟨rfl,⟨nd,rfl⟩⟩;(try first | exact ⟨rfl,_,World.drewN_drewN _ _ _⟩ | exact ⟨rfl,_,Eq.trans (World.drewN_drewN _ _ _) (congrArg (World.drewN _) (Nat.add_assoc _ _ _))⟩))))
      go_meet
      case rel=>exact ⟨_,(((l0_1.length : Int) != (wrap64 ((l0_0.length : Int) - 1)))),(by first | rfl | (simp;done) | (simp [*];done)),H',⟨by have:=HK1.out;first | omega | exact Nat.le_refl _⟩,⟨BK663.out⟩,⟨pw_below_drewN HB.out _⟩⟩
     ·replace c14:=Bool.eq_false_iff.mpr c14
      subst c14
      replace H : (q4_Chain.j1 k1 true l0_0 l0_1) = some r:=by rw [if_neg (show ¬ (false = true) by decide)] at H;exact H
      replace H':=am H
      obtain ⟨hcz16_0,hcz16_1⟩:=cO2 BK663.out
      go_wp2_with (first | (go_at_call 54;(with_reducible refine (q4_in.calls (l0_0.length : Int) 1 4 false _ A13.out).mono ?_);rintro e w' ⟨rfl,⟨nd,rfl⟩⟩;(try first | exact ⟨rfl,_,World.drewN_drewN _ _ _⟩ | exact ⟨rfl,_,Eq.trans (World.drewN_drewN _ _ _) (congrArg (World.drewN _) (Nat.add_assoc _ _ _))⟩)))
      repeat (go_quiet (first | (go_at_call 54;(with_reducible refine (q4_in.calls (l0_0.length : Int) 1 4 false _ A13.out).mono ?_);rintro e w' ⟨rfl,⟨nd,rfl⟩⟩;(try first | exact ⟨rfl,_,World.drewN_drewN _ _ _⟩ | exact ⟨rfl,_,Eq.trans (World.drewN_drewN _ _ _) (congrArg (World.drewN _) (Nat.add_assoc _ _ _))⟩)));try go_wp2_with (first | (go_at_call 54;(with_reducible refine (q4_in.calls (l0_0.length : Int) 1 4 false _ A13.out).mono ?_);rintro e w' ⟨rfl,⟨nd,rfl⟩⟩;(try first | exact ⟨rfl,_,World.drewN_drewN _ _ _⟩ | exact ⟨rfl,_,Eq.trans (World.drewN_drewN _ _ _) (congrArg (World.drewN _) (Nat.add_assoc _ _ _))⟩))))
      go_meet
      case rel=>exact ⟨_,(true),(by first | rfl | (simp;done) | (simp [*];done)),H',⟨by have:=HK1.out;first | omega | exact Nat.le_refl _⟩,⟨BK663.out⟩,⟨pw_below_drewN HB.out _⟩⟩
    case rest =>
     clear HC11
     obtain ⟨kq,x35_10,rfl,HA,HJ10,BK663,HB⟩:=hcut
     cases kq with
     | zero=>exact absurd HA.out (by simp [q4_Chain.j1])
     | succ kj10 =>
      have H:=HA.out
      clear HA
      simp only [q4_Chain.j1] at H
      by_cases c17 : x35_10 = true
      ·subst c17
       replace H : (some false) = some r:=by rw [if_pos rfl] at H;exact H
       obtain rfl:=Option.some.inj H
       go_wp2
       repeat (go_quiet (fail);try go_wp2)
       go_ret
       exact ⟨by first | rfl | (simp [*]<;>rfl),HB.out⟩
      ·replace c17:=Bool.eq_false_iff.mpr c17
       subst c17
       replace H : (q4_Chain.l1 kj10 0 l0_0 l0_1) = some r:=by rw [if_neg (show ¬ (false = true) by decide)] at H;exact H
       replace H':=am H
       go_wp2
       repeat (go_quiet (fail);try go_wp2)
       go_loopg [4] kj10 (fun kq v4 w'=>∃ (x4_3 : Int),v4 = .int .i64 x4_3∧Aside0 (q4_Chain.l1 kq x4_3 l0_0 l0_1 = some r)∧Aside0 (kq≤kj10)∧Aside0 (w'.heap[gb663]? = some (.cells #[(.slice A0_0 l0_0.length c0_0),(.slice A0_1 l0_1.length c0_1)] 59 (0,0)))∧Aside0 (Below w.heap.size w w'))
       case atStart=>exact ⟨(0),(by first | rfl | (simp;done) | (simp [*];done)),H',⟨Nat.le_refl _⟩,⟨BK663.out⟩,⟨HB.out⟩⟩
       case round =>
        clear H'
        obtain ⟨x4_3,rfl,HA,HK3,BK663,HB⟩:=hrel
        cases gk with
        | zero=>exact absurd HA.out (by simp [q4_Chain.l1])
        | succ k3 =>
         have H:=HA.out
         clear HA
         simp only [q4_Chain.l1] at H
         by_cases c18 : x4_3 < (l0_1.length : Int)
         case neg =>
          rw [if_neg c18] at H
          have c18b0 : decide (x4_3 < (l0_1.length : Int)) = false:=decide_eq_false c18
          clear c18
          obtain rfl:=Option.some.inj H
          obtain ⟨hcz46_0,hcz46_1⟩:=cO2 BK663.out
          go_wp2
          repeat (go_quiet (fail);try go_wp2)
          go_ret
          exact ⟨by first | rfl | (simp [*]<;>rfl),HB.out⟩
         rw [if_pos c18] at H
         have c18b0 : decide (x4_3 < (l0_1.length : Int)) = true:=decide_eq_true c18
         clear c18
         by_cases c19 : 0≤x4_3
         case neg =>
          rw [if_neg c19] at H
          exact absurd H (by simp)
         rw [if_pos c19] at H
         have c19b0 : decide (0≤x4_3) = true:=decide_eq_true c19
         clear c19
         have HC20:=am H
         clear H
         obtain ⟨hcz21_0,hcz21_1⟩:=cO2 BK663.out
         have p667 : 0≤(x4_3 : Int):=of_decide_eq_true (by assumption)
         have q667 : x4_3 < (l0_1.length : Int):=of_decide_eq_true (by assumption)
         obtain ⟨ad667,e667,hx667_0,hx667_1⟩:=at_T66 HR0_1.out x4_3 p667 q667
         cases e667
         replace hx667_0:=(HB.out.cell (wbl hx667_0)).trans hx667_0
         replace hx667_1:=(HB.out.cell (wbl hx667_1)).trans hx667_1
         replace p667:=eq_true p667
         replace q667:=eq_true q667
         go_upto_region 12 with (first | ((refine gate_dst (N:=5) rfl ?_);(try (refine gate_guard (by rfl) ?_;dsimp only));refine box_event rfl (N:=5) rfl (cs:=#[.int .i64 0,.int .i64 0]) (t:=66) ?hr ?_;(case hr=>go_simp;try rfl);intro gb668 hg w22 hbox hb;have BK668:=am (hbox);have GW668:=am (ge_new (HB.out) hg);have GE668:=am (ge_new (HB.out) hg);have NB663_668:=am (ne_new BK663.out hg);have NB668_663:=am (ne_new2 BK663.out hg);replace BK663:=(kmv hb BK663);replace HB:=am (below_step (HB.out) hb);clear hb hbox hg;have hnb23:=NB668_663.out;have hnc23:=NB663_668.out;obtain ⟨hcz24_0,hcz24_1⟩:=cO2 BK668.out;have hfz24_0:=blk_frozen BK668.out 0;have hfz24_1:=blk_frozen BK668.out 1))
         repeat (go_quiet (first | ((refine gate_dst (N:=5) rfl ?_);(try (refine gate_guard (by rfl) ?_;dsimp only));refine box_event rfl (N:=5) rfl (cs:=#[.int .i64 0,.int .i64 0]) (t:=66) ?hr ?_;(case hr=>go_simp;try rfl);intro gb668 hg w22 hbox hb;have BK668:=am (hbox);have GW668:=am (ge_new (by repeat (first | (with_reducible first | exact HB.out | refine below_set ?_ GE663.out | apply below_alloc | apply pw_below_drewN) | exact HB.out)) hg);have GE668:=am (ge_new (by repeat (first | (with_reducible first | exact HB.out | refine below_set ?_ GE663.out | apply below_alloc | apply pw_below_drewN) | exact HB.out)) hg);have NB663_668:=am (ne_new BK663.out hg);have NB668_663:=am (ne_new2 BK663.out hg);replace BK663:=(kmv hb BK663);replace HB:=am (below_step (by repeat (first | (with_reducible first | exact HB.out | refine below_set ?_ GE663.out | apply below_alloc | apply pw_below_drewN) | exact HB.out)) hb);clear hb hbox hg;have hnb23:=NB668_663.out;have hnc23:=NB663_668.out;obtain ⟨hcz24_0,hcz24_1⟩:=cO2 BK668.out;have hfz24_0:=blk_frozen BK668.out 0;have hfz24_1:=blk_frozen BK668.out 1));go_upto_region 12 with (first | ((refine gate_dst (N:=5) rfl ?_);(try (refine gate_guard (by rfl) ?_;dsimp only));refine box_event rfl (N:=5) rfl (cs:=#[.int .i64 0,.int .i64 0]) (t:=66) ?hr ?_;(case hr=>go_simp;try rfl);intro gb668 hg w22 hbox hb;have BK668:=am (hbox);have GW668:=am (ge_new (by repeat (first | (with_reducible first | exact HB.out | refine below_set ?_ GE663.out | apply below_alloc | apply pw_below_drewN) | exact HB.out)) hg);have GE668:=am (ge_new (by repeat (first | (with_reducible first | exact HB.out | refine below_set ?_ GE663.out | apply below_alloc | apply pw_below_drewN) | exact HB.out)) hg);have NB663_668:=am (ne_new BK663.out hg);have NB668_663:=am (ne_new2 BK663.out hg);replace BK663:=(kmv hb BK663);replace HB:=am (below_step (by repeat (first | (with_reducible first | exact HB.out | refine below_set ?_ GE663.out | apply below_alloc | apply pw_below_drewN) | exact HB.out)) hb);clear hb hbox hg;have hnb23:=NB668_663.out;have hnc23:=NB663_668.out;obtain ⟨hcz24_0,hcz24_1⟩:=cO2 BK668.out;have hfz24_0:=blk_frozen BK668.out 0;have hfz24_1:=blk_frozen BK668.out 1)))
         (try simp only [Act.put,List.setIfInBounds_toArray,List.set_cons_zero,List.set_cons_succ])
         go_cut [67] (fun v67 wc=>∃ (kq : Nat) (x67_19 : Bool),v67 = .bool x67_19∧Aside0 (q4_Chain.j3 kq x4_3 x67_19 l0_0 l0_1 ((rd_T66 l0_1 x4_3).f0) ((rd_T66 l0_1 x4_3).f1) = some r)∧Aside0 (kq≤k3)∧Aside0 (wc.heap[gb663]? = some (.cells #[(.slice A0_0 l0_0.length c0_0),(.slice (some ad667) l0_1.length c0_1)] 59 (0,0)))∧Aside0 (wc.heap[gb668]? = some (.cells #[.int .i64 ((rd_T66 l0_1 x4_3).f0),.int .i64 ((rd_T66 l0_1 x4_3).f1)] 66 (0,0)))∧Aside0 (Below w.heap.size w wc))
         case first =>
          have H:=HC20.out
          clear HC20
          replace H:=obm H
          obtain ⟨t669,A250,H⟩:=H
          replace H : (if t669 = true then (if 0≤((rd_T66 l0_1 x4_3).f0) then (if ((rd_T66 l0_1 x4_3).f0) < (l0_0.length : Int) then ((q4_in.f ((rd_T66 l0_1 x4_3).f1) (-1) (wrap64 ((((rd_T27 l0_0 ((rd_T66 l0_1 x4_3).f0)).f1).length : Int) - 1))).bind fun t671=>(q4_Chain.j3 k3 x4_3 (!t671) l0_0 l0_1 ((rd_T66 l0_1 x4_3).f0) ((rd_T66 l0_1 x4_3).f1))) else (none)) else (none)) else (q4_Chain.j3 k3 x4_3 true l0_0 l0_1 ((rd_T66 l0_1 x4_3).f0) ((rd_T66 l0_1 x4_3).f1))) = some r:=H
          have A25:=am A250
          clear A250
          by_cases c26 : t669 = true
          case neg =>
           replace c26:=Bool.eq_false_iff.mpr c26
           subst c26
           replace H : (q4_Chain.j3 k3 x4_3 true l0_0 l0_1 ((rd_T66 l0_1 x4_3).f0) ((rd_T66 l0_1 x4_3).f1)) = some r:=by rw [if_neg (show ¬ (false = true) by decide)] at H;exact H
           replace H':=am H
           have hnb33:=NB668_663.out
           have hnc33:=NB663_668.out
           obtain ⟨hcz34_0,hcz34_1⟩:=cO2 BK668.out
           have hfz34_0:=blk_frozen BK668.out 0
           have hfz34_1:=blk_frozen BK668.out 1
           go_wp2_with (first | (go_at_call 54;(with_reducible refine (q4_in.calls ((rd_T66 l0_1 x4_3).f0) 0 x4_3 false _ A25.out).mono ?_);rintro e w' ⟨rfl,⟨nd,rfl⟩⟩;(try first | exact ⟨rfl,_,World.drewN_drewN _ _ _⟩ | exact ⟨rfl,_,Eq.trans (World.drewN_drewN _ _ _) (congrArg (World.drewN _) (Nat.add_assoc _ _ _))⟩)))
           repeat (go_quiet (first | (go_at_call 54;(with_reducible refine (q4_in.calls ((rd_T66 l0_1 x4_3).f0) 0 x4_3 false _ A25.out).mono ?_);rintro e w' ⟨rfl,⟨nd,rfl⟩⟩;(try first | exact ⟨rfl,_,World.drewN_drewN _ _ _⟩ | exact ⟨rfl,_,Eq.trans (World.drewN_drewN _ _ _) (congrArg (World.drewN _) (Nat.add_assoc _ _ _))⟩)));try go_wp2_with (first | (go_at_call 54;(with_reducible refine (q4_in.calls ((rd_T66 l0_1 x4_3).f0) 0 x4_3 false _ A25.out).mono ?_);rintro e w' ⟨rfl,⟨nd,rfl⟩⟩;(try first | exact ⟨rfl,_,World.drewN_drewN _ _ _⟩ | exact ⟨rfl,_,Eq.trans (World.drewN_drewN _ _ _) (congrArg (World.drewN _) (Nat.add_assoc _ _ _))⟩))))
           go_meet
           case rel=>exact ⟨_,(true),(by first | rfl | (simp;done) | (simp [*];done)),H',⟨by have:=HK1.out;have:=HJ10.out;have:=HK3.out;first | omega | exact Nat.le_refl _⟩,⟨(blk_far (blk_far BK663.out NB663_668.out _) NB663_668.out _)⟩,⟨(blk_put (cs:=#[.int .i64 ((rd_T66 l0_1 x4_3).f0),.int .i64 0]) (blk_put (cs:=#[.int .i64 0,.int .i64 0]) BK668.out 0 _ rfl) 1 _ rfl)⟩,⟨by repeat (first | (with_reducible first | exact HB.out | refine below_set ?_ (Aside0.out (by assumption)) | apply below_alloc | apply pw_below_drewN) | exact HB.out)⟩⟩
          subst c26
          replace H : (if 0≤((rd_T66 l0_1 x4_3).f0) then (if ((rd_T66 l0_1 x4_3).f0) < (l0_0.length : Int) then ((q4_in.f ((rd_T66 l0_1 x4_3).f1) (-1) (wrap64 ((((rd_T27 l0_0 ((rd_T66 l0_1 x4_3).f0)).f1).length : Int) - 1))).bind fun t671=>(q4_Chain.j3 k3 x4_3 (!t671) l0_0 l0_1 ((rd_T66 l0_1 x4_3).f0) ((rd_T66 l0_1 x4_3).f1))) else (none)) else (none)) = some r:=by rw [if_pos rfl] at H;exact H
          by_cases c27 : 0≤((rd_T66 l0_1 x4_3).f0)
          case neg =>
           rw [if_neg c27] at H
           exact absurd H (by simp)
          rw [if_pos c27] at H
          have c27b0 : decide (0≤((rd_T66 l0_1 x4_3).f0)) = true:=decide_eq_true c27
          clear c27
          (first | rw [c27b0] | (simp only [i64_w,i32_w];rw [c27b0]) | skip)
          by_cases c28 : ((rd_T66 l0_1 x4_3).f0) < (l0_0.length : Int)
          case neg =>
           rw [if_neg c28] at H
           exact absurd H (by simp)
          rw [if_pos c28] at H
          have c28b0 : decide (((rd_T66 l0_1 x4_3).f0) < (l0_0.length : Int)) = true:=decide_eq_true c28
          clear c28
          replace H:=obm H
          obtain ⟨t671,A290,H⟩:=H
          replace H : (q4_Chain.j3 k3 x4_3 (!t671) l0_0 l0_1 ((rd_T66 l0_1 x4_3).f0) ((rd_T66 l0_1 x4_3).f1)) = some r:=H
          have A29:=am A290
          clear A290
          replace H':=am H
          have hnb30:=NB668_663.out
          have hnc30:=NB663_668.out
          obtain ⟨hcz31_0,hcz31_1⟩:=cO2 BK668.out
          have hfz31_0:=blk_frozen BK668.out 0
          have hfz31_1:=blk_frozen BK668.out 1
          go_wp2_with (first | (go_at_call 54;(with_reducible refine (q4_in.calls ((rd_T66 l0_1 x4_3).f0) 0 x4_3 true _ A25.out).mono ?_);rintro e w' ⟨rfl,⟨nd,rfl⟩⟩;(try first | exact ⟨rfl,_,World.drewN_drewN _ _ _⟩ | exact ⟨rfl,_,Eq.trans (World.drewN_drewN _ _ _) (congrArg (World.drewN _) (Nat.add_assoc _ _ _))⟩);obtain ⟨hcz32_0,hcz32_1⟩:=cO2 BK663.out;have p670 : 0≤(((rd_T66 l0_1 x4_3).f0) : Int):=of_decide_eq_true (by assumption);have q670 : ((rd_T66 l0_1 x4_3).f0) < (l0_0.length : Int):=of_decide_eq_true (by assumption);obtain ⟨ad670,A670_0,c670_0,A670_2,c670_2,e670,hx670_0,hx670_1,hx670_2,hx670_3,hx670_4,hl670_0,hi670_0,hl670_2,hi670_2⟩:=at_T27 HR0_0.out ((rd_T66 l0_1 x4_3).f0) p670 q670;cases e670;have hn670_0 : ad670.block ≠ gb668:=Nat.ne_of_lt (Nat.lt_of_lt_of_le (by have:=World.block_lt_of_cell? _ _ hx670_0;first | rwa [add_block] at this | exact this) GW668.out);have hn670_1 : ad670.block ≠ gb668:=Nat.ne_of_lt (Nat.lt_of_lt_of_le (by have:=World.block_lt_of_cell? _ _ hx670_0;first | rwa [add_block] at this | exact this) GW668.out);replace hx670_0:=(HB.out.cell (wbl hx670_0)).trans hx670_0;replace hx670_1:=(HB.out.cell (wbl hx670_1)).trans hx670_1;replace hx670_2:=(HB.out.cell (wbl hx670_2)).trans hx670_2;replace hx670_3:=(HB.out.cell (wbl hx670_3)).trans hx670_3;replace hx670_4:=(HB.out.cell (wbl hx670_4)).trans hx670_4;have HR670_0:=am hi670_0;have HC670_0:=am hl670_0;clear hi670_0 hl670_0;have HR670_2:=am hi670_2;have HC670_2:=am hl670_2;clear hi670_2 hl670_2;replace hx670_0:=(cell_far (p:=⟨gb668,0,none⟩) (by first | (rw [add_block];exact hn670_0) | (show (Addr.add _ _).block ≠ _;rw [add_block];exact hn670_0) | exact hn670_0) (.int .i64 ((rd_T66 l0_1 x4_3).f0))).trans hx670_0;replace hx670_1:=(cell_far (p:=⟨gb668,0,none⟩) (by first | (rw [add_block];exact hn670_0) | (show (Addr.add _ _).block ≠ _;rw [add_block];exact hn670_0) | exact hn670_0) (.int .i64 ((rd_T66 l0_1 x4_3).f0))).trans hx670_1;replace hx670_2:=(cell_far (p:=⟨gb668,0,none⟩) (by first | (rw [add_block];exact hn670_0) | (show (Addr.add _ _).block ≠ _;rw [add_block];exact hn670_0) | exact hn670_0) (.int .i64 ((rd_T66 l0_1 x4_3).f0))).trans hx670_2;replace hx670_3:=(cell_far (p:=⟨gb668,0,none⟩) (by first | (rw [add_block];exact hn670_0) | (show (Addr.add _ _).block ≠ _;rw [add_block];exact hn670_0) | exact hn670_0) (.int .i64 ((rd_T66 l0_1 x4_3).f0))).trans hx670_3;replace hx670_4:=(cell_far (p:=⟨gb668,0,none⟩) (by first | (rw [add_block];exact hn670_0) | (show (Addr.add _ _).block ≠ _;rw [add_block];exact hn670_0) | exact hn670_0) (.int .i64 ((rd_T66 l0_1 x4_3).f0))).trans hx670_4;replace hx670_0:=(cell_far (p:=⟨gb668,1,none⟩) (by first | (rw [add_block];exact hn670_1) | (show (Addr.add _ _).block ≠ _;rw [add_block];exact hn670_1) | exact hn670_1) (.int .i64 ((rd_T66 l0_1 x4_3).f1))).trans hx670_0;replace hx670_1:=(cell_far (p:=⟨gb668,1,none⟩) (by first | (rw [add_block];exact hn670_1) | (show (Addr.add _ _).block ≠ _;rw [add_block];exact hn670_1) | exact hn670_1) (.int .i64 ((rd_T66 l0_1 x4_3).f1))).trans hx670_1;replace hx670_2:=(cell_far (p:=⟨gb668,1,none⟩) (by first | (rw [add_block];exact hn670_1) | (show (Addr.add _ _).block ≠ _;rw [add_block];exact hn670_1) | exact hn670_1) (.int .i64 ((rd_T66 l0_1 x4_3).f1))).trans hx670_2;replace hx670_3:=(cell_far (p:=⟨gb668,1,none⟩) (by first | (rw [add_block];exact hn670_1) | (show (Addr.add _ _).block ≠ _;rw [add_block];exact hn670_1) | exact hn670_1) (.int .i64 ((rd_T66 l0_1 x4_3).f1))).trans hx670_3;replace hx670_4:=(cell_far (p:=⟨gb668,1,none⟩) (by first | (rw [add_block];exact hn670_1) | (show (Addr.add _ _).block ≠ _;rw [add_block];exact hn670_1) | exact hn670_1) (.int .i64 ((rd_T66 l0_1 x4_3).f1))).trans hx670_4;(try have hy670_0:=fun (n_ : Nat)=>(show ((((w22.drewN n_).setCell ⟨gb668,0,none⟩ (.int .i64 ((rd_T66 l0_1 x4_3).f0))).setCell ⟨gb668,1,none⟩ (.int .i64 ((rd_T66 l0_1 x4_3).f1)))).cell? _ = some _ from hx670_0));(try have hy670_1:=fun (n_ : Nat)=>(show ((((w22.drewN n_).setCell ⟨gb668,0,none⟩ (.int .i64 ((rd_T66 l0_1 x4_3).f0))).setCell ⟨gb668,1,none⟩ (.int .i64 ((rd_T66 l0_1 x4_3).f1)))).cell? _ = some _ from hx670_1));(try have hy670_2:=fun (n_ : Nat)=>(show ((((w22.drewN n_).setCell ⟨gb668,0,none⟩ (.int .i64 ((rd_T66 l0_1 x4_3).f0))).setCell ⟨gb668,1,none⟩ (.int .i64 ((rd_T66 l0_1 x4_3).f1)))).cell? _ = some _ from hx670_2));(try have hy670_3:=fun (n_ : Nat)=>(show ((((w22.drewN n_).setCell ⟨gb668,0,none⟩ (.int .i64 ((rd_T66 l0_1 x4_3).f0))).setCell ⟨gb668,1,none⟩ (.int .i64 ((rd_T66 l0_1 x4_3).f1)))).cell? _ = some _ from hx670_3));(try have hy670_4:=fun (n_ : Nat)=>(show ((((w22.drewN n_).setCell ⟨gb668,0,none⟩ (.int .i64 ((rd_T66 l0_1 x4_3).f0))).setCell ⟨gb668,1,none⟩ (.int .i64 ((rd_T66 l0_1 x4_3).f1)))).cell? _ = some _ from hx670_4));clear hn670_0;clear hn670_1;replace p670:=eq_true p670;replace q670:=eq_true q670) | (go_at_call 54;(with_reducible refine (q4_in.calls ((rd_T66 l0_1 x4_3).f1) (-1) (IntKind.i64.wrap ((((rd_T27 l0_0 ((rd_T66 l0_1 x4_3).f0)).f1).length : Int) - 1)) t671 _ (in_wr A29.out)).mono ?_);rintro e w' ⟨rfl,⟨nd,rfl⟩⟩;(try first | exact ⟨rfl,_,World.drewN_drewN _ _ _⟩ | exact ⟨rfl,_,Eq.trans (World.drewN_drewN _ _ _) (congrArg (World.drewN _) (Nat.add_assoc _ _ _))⟩)))
          repeat (go_quiet (first | (go_at_call 54;(with_reducible refine (q4_in.calls ((rd_T66 l0_1 x4_3).f0) 0 x4_3 true _ A25.out).mono ?_);rintro e w' ⟨rfl,⟨nd,rfl⟩⟩;(try first | exact ⟨rfl,_,World.drewN_drewN _ _ _⟩ | exact ⟨rfl,_,Eq.trans (World.drewN_drewN _ _ _) (congrArg (World.drewN _) (Nat.add_assoc _ _ _))⟩);obtain ⟨hcz32_0,hcz32_1⟩:=cO2 BK663.out;have p670 : 0≤(((rd_T66 l0_1 x4_3).f0) : Int):=of_decide_eq_true (by assumption);have q670 : ((rd_T66 l0_1 x4_3).f0) < (l0_0.length : Int):=of_decide_eq_true (by assumption);obtain ⟨ad670,A670_0,c670_0,A670_2,c670_2,e670,hx670_0,hx670_1,hx670_2,hx670_3,hx670_4,hl670_0,hi670_0,hl670_2,hi670_2⟩:=at_T27 HR0_0.out ((rd_T66 l0_1 x4_3).f0) p670 q670;cases e670;have hn670_0 : ad670.block ≠ gb668:=Nat.ne_of_lt (Nat.lt_of_lt_of_le (by have:=World.block_lt_of_cell? _ _ hx670_0;first | rwa [add_block] at this | exact this) GW668.out);have hn670_1 : ad670.block ≠ gb668:=Nat.ne_of_lt (Nat.lt_of_lt_of_le (by have:=World.block_lt_of_cell? _ _ hx670_0;first | rwa [add_block] at this | exact this) GW668.out);replace hx670_0:=(HB.out.cell (wbl hx670_0)).trans hx670_0;replace hx670_1:=(HB.out.cell (wbl hx670_1)).trans hx670_1;replace hx670_2:=(HB.out.cell (wbl hx670_2)).trans hx670_2;replace hx670_3:=(HB.out.cell (wbl hx670_3)).trans hx670_3;replace hx670_4:=(HB.out.cell (wbl hx670_4)).trans hx670_4;have HR670_0:=am hi670_0;have HC670_0:=am hl670_0;clear hi670_0 hl670_0;have HR670_2:=am hi670_2;have HC670_2:=am hl670_2;clear hi670_2 hl670_2;replace hx670_0:=(cell_far (p:=⟨gb668,0,none⟩) (by first | (rw [add_block];exact hn670_0) | (show (Addr.add _ _).block ≠ _;rw [add_block];exact hn670_0) | exact hn670_0) (.int .i64 ((rd_T66 l0_1 x4_3).f0))).trans hx670_0;replace hx670_1:=(cell_far (p:=⟨gb668,0,none⟩) (by first | (rw [add_block];exact hn670_0) | (show (Addr.add _ _).block ≠ _;rw [add_block];exact hn670_0) | exact hn670_0) (.int .i64 ((rd_T66 l0_1 x4_3).f0))).trans hx670_1;replace hx670_2:=(cell_far (p:=⟨gb668,0,none⟩) (by first | (rw [add_block];exact hn670_0) | (show (Addr.add _ _).block ≠ _;rw [add_block];exact hn670_0) | exact hn670_0) (.int .i64 ((rd_T66 l0_1 x4_3).f0))).trans hx670_2;replace hx670_3:=(cell_far (p:=⟨gb668,0,none⟩) (by first | (rw [add_block];exact hn670_0) | (show (Addr.add _ _).block ≠ _;rw [add_block];exact hn670_0) | exact hn670_0) (.int .i64 ((rd_T66 l0_1 x4_3).f0))).trans hx670_3;replace hx670_4:=(cell_far (p:=⟨gb668,0,none⟩) (by first | (rw [add_block];exact hn670_0) | (show (Addr.add _ _).block ≠ _;rw [add_block];exact hn670_0) | exact hn670_0) (.int .i64 ((rd_T66 l0_1 x4_3).f0))).trans hx670_4;replace hx670_0:=(cell_far (p:=⟨gb668,1,none⟩) (by first | (rw [add_block];exact hn670_1) | (show (Addr.add _ _).block ≠ _;rw [add_block];exact hn670_1) | exact hn670_1) (.int .i64 ((rd_T66 l0_1 x4_3).f1))).trans hx670_0;replace hx670_1:=(cell_far (p:=⟨gb668,1,none⟩) (by first | (rw [add_block];exact hn670_1) | (show (Addr.add _ _).block ≠ _;rw [add_block];exact hn670_1) | exact hn670_1) (.int .i64 ((rd_T66 l0_1 x4_3).f1))).trans hx670_1;replace hx670_2:=(cell_far (p:=⟨gb668,1,none⟩) (by first | (rw [add_block];exact hn670_1) | (show (Addr.add _ _).block ≠ _;rw [add_block];exact hn670_1) | exact hn670_1) (.int .i64 ((rd_T66 l0_1 x4_3).f1))).trans hx670_2;replace hx670_3:=(cell_far (p:=⟨gb668,1,none⟩) (by first | (rw [add_block];exact hn670_1) | (show (Addr.add _ _).block ≠ _;rw [add_block];exact hn670_1) | exact hn670_1) (.int .i64 ((rd_T66 l0_1 x4_3).f1))).trans hx670_3;replace hx670_4:=(cell_far (p:=⟨gb668,1,none⟩) (by first | (rw [add_block];exact hn670_1) | (show (Addr.add _ _).block ≠ _;rw [add_block];exact hn670_1) | exact hn670_1) (.int .i64 ((rd_T66 l0_1 x4_3).f1))).trans hx670_4;(try have hy670_0:=fun (n_ : Nat)=>(show ((((w22.drewN n_).setCell ⟨gb668,0,none⟩ (.int .i64 ((rd_T66 l0_1 x4_3).f0))).setCell ⟨gb668,1,none⟩ (.int .i64 ((rd_T66 l0_1 x4_3).f1)))).cell? _ = some _ from hx670_0));(try have hy670_1:=fun (n_ : Nat)=>(show ((((w22.drewN n_).setCell ⟨gb668,0,none⟩ (.int .i64 ((rd_T66 l0_1 x4_3).f0))).setCell ⟨gb668,1,none⟩ (.int .i64 ((rd_T66 l0_1 x4_3).f1)))).cell? _ = some _ from hx670_1));(try have hy670_2:=fun (n_ : Nat)=>(show ((((w22.drewN n_).setCell ⟨gb668,0,none⟩ (.int .i64 ((rd_T66 l0_1 x4_3).f0))).setCell ⟨gb668,1,none⟩ (.int .i64 ((rd_T66 l0_1 x4_3).f1)))).cell? _ = some _ from hx670_2));(try have hy670_3:=fun (n_ : Nat)=>(show ((((w22.drewN n_).setCell ⟨gb668,0,none⟩ (.int .i64 ((rd_T66 l0_1 x4_3).f0))).setCell ⟨gb668,1,none⟩ (.int .i64 ((rd_T66 l0_1 x4_3).f1)))).cell? _ = some _ from hx670_3));(try have hy670_4:=fun (n_ : Nat)=>(show ((((w22.drewN n_).setCell ⟨gb668,0,none⟩ (.int .i64 ((rd_T66 l0_1 x4_3).f0))).setCell ⟨gb668,1,none⟩ (.int .i64 ((rd_T66 l0_1 x4_3).f1)))).cell? _ = some _ from hx670_4));clear hn670_0;clear hn670_1;replace p670:=eq_true p670;replace q670:=eq_true q670) | (go_at_call 54;(with_reducible refine (q4_in.calls ((rd_T66 l0_1 x4_3).f1) (-1) (IntKind.i64.wrap ((((rd_T27 l0_0 ((rd_T66 l0_1 x4_3).f0)).f1).length : Int) - 1)) t671 _ (in_wr A29.out)).mono ?_);rintro e w' ⟨rfl,⟨nd,rfl⟩⟩;(try first | exact ⟨rfl,_,World.drewN_drewN _ _ _⟩ | exact ⟨rfl,_,Eq.trans (World.drewN_drewN _ _ _) (congrArg (World.drewN _) (Nat.add_assoc _ _ _))⟩)));try go_wp2_with (first | (go_at_call 54;(with_reducible refine (q4_in.calls ((rd_T66 l0_1 x4_3).f0) 0 x4_3 true _ A25.out).mono ?_);rintro e w' ⟨rfl,⟨nd,rfl⟩⟩;(try first | exact ⟨rfl,_,World.drewN_drewN _ _ _⟩ | exact ⟨rfl,_,Eq.trans (World.drewN_drewN _ _ _) (congrArg (World.drewN _) (Nat.add_assoc _ _ _))⟩);obtain ⟨hcz32_0,hcz32_1⟩:=cO2 BK663.out;have p670 : 0≤(((rd_T66 l0_1 x4_3).f0) : Int):=of_decide_eq_true (by assumption);have q670 : ((rd_T66 l0_1 x4_3).f0) < (l0_0.length : Int):=of_decide_eq_true (by assumption);obtain ⟨ad670,A670_0,c670_0,A670_2,c670_2,e670,hx670_0,hx670_1,hx670_2,hx670_3,hx670_4,hl670_0,hi670_0,hl670_2,hi670_2⟩:=at_T27 HR0_0.out ((rd_T66 l0_1 x4_3).f0) p670 q670;cases e670;have hn670_0 : ad670.block ≠ gb668:=Nat.ne_of_lt (Nat.lt_of_lt_of_le (by have:=World.block_lt_of_cell? _ _ hx670_0;first | rwa [add_block] at this | exact this) GW668.out);have hn670_1 : ad670.block ≠ gb668:=Nat.ne_of_lt (Nat.lt_of_lt_of_le (by have:=World.block_lt_of_cell? _ _ hx670_0;first | rwa [add_block] at this | exact this) GW668.out);replace hx670_0:=(HB.out.cell (wbl hx670_0)).trans hx670_0;replace hx670_1:=(HB.out.cell (wbl hx670_1)).trans hx670_1;replace hx670_2:=(HB.out.cell (wbl hx670_2)).trans hx670_2;replace hx670_3:=(HB.out.cell (wbl hx670_3)).trans hx670_3;replace hx670_4:=(HB.out.cell (wbl hx670_4)).trans hx670_4;have HR670_0:=am hi670_0;have HC670_0:=am hl670_0;clear hi670_0 hl670_0;have HR670_2:=am hi670_2;have HC670_2:=am hl670_2;clear hi670_2 hl670_2;replace hx670_0:=(cell_far (p:=⟨gb668,0,none⟩) (by first | (rw [add_block];exact hn670_0) | (show (Addr.add _ _).block ≠ _;rw [add_block];exact hn670_0) | exact hn670_0) (.int .i64 ((rd_T66 l0_1 x4_3).f0))).trans hx670_0;replace hx670_1:=(cell_far (p:=⟨gb668,0,none⟩) (by first | (rw [add_block];exact hn670_0) | (show (Addr.add _ _).block ≠ _;rw [add_block];exact hn670_0) | exact hn670_0) (.int .i64 ((rd_T66 l0_1 x4_3).f0))).trans hx670_1;replace hx670_2:=(cell_far (p:=⟨gb668,0,none⟩) (by first | (rw [add_block];exact hn670_0) | (show (Addr.add _ _).block ≠ _;rw [add_block];exact hn670_0) | exact hn670_0) (.int .i64 ((rd_T66 l0_1 x4_3).f0))).trans hx670_2;replace hx670_3:=(cell_far (p:=⟨gb668,0,none⟩) (by first | (rw [add_block];exact hn670_0) | (show (Addr.add _ _).block ≠ _;rw [add_block];exact hn670_0) | exact hn670_0) (.int .i64 ((rd_T66 l0_1 x4_3).f0))).trans hx670_3;replace hx670_4:=(cell_far (p:=⟨gb668,0,none⟩) (by first | (rw [add_block];exact hn670_0) | (show (Addr.add _ _).block ≠ _;rw [add_block];exact hn670_0) | exact hn670_0) (.int .i64 ((rd_T66 l0_1 x4_3).f0))).trans hx670_4;replace hx670_0:=(cell_far (p:=⟨gb668,1,none⟩) (by first | (rw [add_block];exact hn670_1) | (show (Addr.add _ _).block ≠ _;rw [add_block];exact hn670_1) | exact hn670_1) (.int .i64 ((rd_T66 l0_1 x4_3).f1))).trans hx670_0;replace hx670_1:=(cell_far (p:=⟨gb668,1,none⟩) (by first | (rw [add_block];exact hn670_1) | (show (Addr.add _ _).block ≠ _;rw [add_block];exact hn670_1) | exact hn670_1) (.int .i64 ((rd_T66 l0_1 x4_3).f1))).trans hx670_1;replace hx670_2:=(cell_far (p:=⟨gb668,1,none⟩) (by first | (rw [add_block];exact hn670_1) | (show (Addr.add _ _).block ≠ _;rw [add_block];exact hn670_1) | exact hn670_1) (.int .i64 ((rd_T66 l0_1 x4_3).f1))).trans hx670_2;replace hx670_3:=(cell_far (p:=⟨gb668,1,none⟩) (by first | (rw [add_block];exact hn670_1) | (show (Addr.add _ _).block ≠ _;rw [add_block];exact hn670_1) | exact hn670_1) (.int .i64 ((rd_T66 l0_1 x4_3).f1))).trans hx670_3;replace hx670_4:=(cell_far (p:=⟨gb668,1,none⟩) (by first | (rw [add_block];exact hn670_1) | (show (Addr.add _ _).block ≠ _;rw [add_block];exact hn670_1) | exact hn670_1) (.int .i64 ((rd_T66 l0_1 x4_3).f1))).trans hx670_4;(try have hy670_0:=fun (n_ : Nat)=>(show ((((w22.drewN n_).setCell ⟨gb668,0,none⟩ (.int .i64 ((rd_T66 l0_1 x4_3).f0))).setCell ⟨gb668,1,none⟩ (.int .i64 ((rd_T66 l0_1 x4_3).f1)))).cell? _ = some _ from hx670_0));(try have hy670_1:=fun (n_ : Nat)=>(show ((((w22.drewN n_).setCell ⟨gb668,0,none⟩ (.int .i64 ((rd_T66 l0_1 x4_3).f0))).setCell ⟨gb668,1,none⟩ (.int .i64 ((rd_T66 l0_1 x4_3).f1)))).cell? _ = some _ from hx670_1));(try have hy670_2:=fun (n_ : Nat)=>(show ((((w22.drewN n_).setCell ⟨gb668,0,none⟩ (.int .i64 ((rd_T66 l0_1 x4_3).f0))).setCell ⟨gb668,1,none⟩ (.int .i64 ((rd_T66 l0_1 x4_3).f1)))).cell? _ = some _ from hx670_2));(try have hy670_3:=fun (n_ : Nat)=>(show ((((w22.drewN n_).setCell ⟨gb668,0,none⟩ (.int .i64 ((rd_T66 l0_1 x4_3).f0))).setCell ⟨gb668,1,none⟩ (.int .i64 ((rd_T66 l0_1 x4_3).f1)))).cell? _ = some _ from hx670_3));(try have hy670_4:=fun (n_ : Nat)=>(show ((((w22.drewN n_).setCell ⟨gb668,0,none⟩ (.int .i64 ((rd_T66 l0_1 x4_3).f0))).setCell ⟨gb668,1,none⟩ (.int .i64 ((rd_T66 l0_1 x4_3).f1)))).cell? _ = some _ from hx670_4));clear hn670_0;clear hn670_1;replace p670:=eq_true p670;replace q670:=eq_true q670) | (go_at_call 54;(with_reducible refine (q4_in.calls ((rd_T66 l0_1 x4_3).f1) (-1) (IntKind.i64.wrap ((((rd_T27 l0_0 ((rd_T66 l0_1 x4_3).f0)).f1).length : Int) - 1)) t671 _ (in_wr A29.out)).mono ?_);rintro e w' ⟨rfl,⟨nd,rfl⟩⟩;(try first | exact ⟨rfl,_,World.drewN_drewN _ _ _⟩ | exact ⟨rfl,_,Eq.trans (World.drewN_drewN _ _ _) (congrArg (World.drewN _) (Nat.add_assoc _ _ _))⟩))))
          go_meet
          case rel=>exact ⟨_,(!t671),(by first | rfl | (simp;done) | (simp [*];done)),H',⟨by have:=HK1.out;have:=HJ10.out;have:=HK3.out;first | omega | exact Nat.le_refl _⟩,⟨(blk_far (blk_far BK663.out NB663_668.out _) NB663_668.out _)⟩,⟨(blk_put (cs:=#[.int .i64 ((rd_T66 l0_1 x4_3).f0),.int .i64 0]) (blk_put (cs:=#[.int .i64 0,.int .i64 0]) BK668.out 0 _ rfl) 1 _ rfl)⟩,⟨by repeat (first | (with_reducible first | exact HB.out | refine below_set ?_ (Aside0.out (by assumption)) | apply below_alloc | apply pw_below_drewN) | exact HB.out)⟩⟩
         case rest =>
          clear HC20
          obtain ⟨kq,x67_19,rfl,HA,HJ19,BK663,BK668,HB⟩:=hcut
          cases kq with
          | zero=>exact absurd HA.out (by simp [q4_Chain.j3])
          | succ kj19 =>
           have H:=HA.out
           clear HA
           simp only [q4_Chain.j3] at H
           by_cases c35 : x67_19 = true
           ·subst c35
            replace H : (some false) = some r:=by rw [if_pos rfl] at H;exact H
            obtain rfl:=Option.some.inj H
            go_wp2
            repeat (go_quiet (fail);try go_wp2)
            go_ret
            exact ⟨by first | rfl | (simp [*]<;>rfl),HB.out⟩
           ·replace c35:=Bool.eq_false_iff.mpr c35
            subst c35
            replace H : (q4_Chain.l2 kj19 x4_3 0 l0_0 l0_1 ((rd_T66 l0_1 x4_3).f0) ((rd_T66 l0_1 x4_3).f1)) = some r:=by rw [if_neg (show ¬ (false = true) by decide)] at H;exact H
            replace H':=am H
            go_wp2
            repeat (go_quiet (fail);try go_wp2)
            go_loopg [6] kj19 (fun kq v6 w'=>∃ (x6_5 : Int),v6 = .int .i64 x6_5∧Aside0 (q4_Chain.l2 kq x4_3 x6_5 l0_0 l0_1 ((rd_T66 l0_1 x4_3).f0) ((rd_T66 l0_1 x4_3).f1) = some r)∧Aside0 (kq≤kj19)∧Aside0 (w'.heap[gb663]? = some (.cells #[(.slice A0_0 l0_0.length c0_0),(.slice (some ad667) l0_1.length c0_1)] 59 (0,0)))∧Aside0 (w'.heap[gb668]? = some (.cells #[.int .i64 ((rd_T66 l0_1 x4_3).f0),.int .i64 ((rd_T66 l0_1 x4_3).f1)] 66 (0,0)))∧Aside0 (Below w.heap.size w w'))
            case atStart=>exact ⟨(0),(by first | rfl | (simp;done) | (simp [*];done)),H',⟨Nat.le_refl _⟩,⟨BK663.out⟩,⟨BK668.out⟩,⟨HB.out⟩⟩
            case round =>
             clear H'
             obtain ⟨x6_5,rfl,HA,HK5,BK663,BK668,HB⟩:=hrel
             cases gk with
             | zero=>exact absurd HA.out (by simp [q4_Chain.l2])
             | succ k5 =>
              have H:=HA.out
              clear HA
              simp only [q4_Chain.l2] at H
              by_cases c36 : x6_5 < x4_3
              case neg =>
               rw [if_neg c36] at H
               have c36b0 : decide (x6_5 < x4_3) = false:=decide_eq_false c36
               clear c36
               replace H':=am H
               go_wp2
               repeat (go_quiet (fail);try go_wp2)
               go_roundg k5
               case measure=>have:=HK1.out;have:=HJ10.out;have:=HK3.out;have:=HJ19.out;have:=HK5.out;omega
               case rel=>exact ⟨(wrap64 (x4_3 + 1)),(by first | rfl | (simp;done) | (simp [*];done)),H',⟨by have:=HK1.out;have:=HJ10.out;have:=HK3.out;have:=HJ19.out;have:=HK5.out;omega⟩,⟨BK663.out⟩,⟨HB.out⟩⟩
              rw [if_pos c36] at H
              have c36b0 : decide (x6_5 < x4_3) = true:=decide_eq_true c36
              clear c36
              by_cases c37 : 0≤x6_5
              case neg =>
               rw [if_neg c37] at H
               exact absurd H (by simp)
              rw [if_pos c37] at H
              have c37b0 : decide (0≤x6_5) = true:=decide_eq_true c37
              clear c37
              by_cases c38 : x6_5 < (l0_1.length : Int)
              case neg =>
               rw [if_neg c38] at H
               exact absurd H (by simp)
              rw [if_pos c38] at H
              have c38b0 : decide (x6_5 < (l0_1.length : Int)) = true:=decide_eq_true c38
              clear c38
              by_cases c39 : (((rd_T66 l0_1 x6_5).f0) == ((rd_T66 l0_1 x4_3).f0) && (((rd_T66 l0_1 x6_5).f1) == ((rd_T66 l0_1 x4_3).f1))) = true
              ·rw [if_pos c39] at H
               have c39b0 : (((rd_T66 l0_1 x6_5).f0) == ((rd_T66 l0_1 x4_3).f0) && (((rd_T66 l0_1 x6_5).f1) == ((rd_T66 l0_1 x4_3).f1))) = true:=c39
               (try (have c39b1 : decide (((rd_T66 l0_1 x6_5).f0) = ((rd_T66 l0_1 x4_3).f0) && (((rd_T66 l0_1 x6_5).f1) == ((rd_T66 l0_1 x4_3).f1))) = true:=by simpa using c39))
               (try (have c39b2 : (((rd_T66 l0_1 x6_5).f0) == ((rd_T66 l0_1 x4_3).f0) && (((rd_T66 l0_1 x6_5).f1) == ((rd_T66 l0_1 x4_3).f1))) = true:=by simpa using c39))
               clear c39
               obtain rfl:=Option.some.inj H
               have hnb40:=NB663_668.out
               have hnc40:=NB668_663.out
               obtain ⟨hcz41_0,hcz41_1⟩:=cO2 BK663.out
               have p672 : 0≤(x6_5 : Int):=of_decide_eq_true (by assumption)
               have q672 : x6_5 < (l0_1.length : Int):=of_decide_eq_true (by assumption)
               obtain ⟨ad672,e672,hx672_0,hx672_1⟩:=at_T66 HR0_1.out x6_5 p672 q672
               obtain rfl : ad667 = ad672:=(by injection e672)
               replace hx672_0:=(HB.out.cell (wbl hx672_0)).trans hx672_0
               replace hx672_1:=(HB.out.cell (wbl hx672_1)).trans hx672_1
               replace p672:=eq_true p672
               replace q672:=eq_true q672
               obtain ⟨hcz42_0,hcz42_1⟩:=cO2 BK668.out
               have hfz42_0:=blk_frozen BK668.out 0
               have hfz42_1:=blk_frozen BK668.out 1
               go_wp2
               repeat (go_quiet (fail);try go_wp2)
               go_ret
               exact ⟨by first | rfl | (simp [*]<;>rfl),pw_below_drewN HB.out _⟩
              ·rw [if_neg c39] at H
               have c39b0 : (((rd_T66 l0_1 x6_5).f0) == ((rd_T66 l0_1 x4_3).f0) && (((rd_T66 l0_1 x6_5).f1) == ((rd_T66 l0_1 x4_3).f1))) = false:=by simpa using c39
               (try (have c39b1 : decide (((rd_T66 l0_1 x6_5).f0) = ((rd_T66 l0_1 x4_3).f0) && (((rd_T66 l0_1 x6_5).f1) == ((rd_T66 l0_1 x4_3).f1))) = false:=by simpa using c39))
               (try (have c39b2 : (((rd_T66 l0_1 x6_5).f0) == ((rd_T66 l0_1 x4_3).f0) && (((rd_T66 l0_1 x6_5).f1) == ((rd_T66 l0_1 x4_3).f1))) = false:=by simpa using c39))
               (try (have c39b3 : ¬ (((rd_T66 l0_1 x6_5).f0) = ((rd_T66 l0_1 x4_3).f0) && (((rd_T66 l0_1 x6_5).f1) == ((rd_T66 l0_1 x4_3).f1))):=by simpa using c39))
               clear c39
               replace H':=am H
               have hnb43:=NB663_668.out
               have hnc43:=NB668_663.out
               obtain ⟨hcz44_0,hcz44_1⟩:=cO2 BK663.out
               have p672 : 0≤(x6_5 : Int):=of_decide_eq_true (by assumption)
               have q672 : x6_5 < (l0_1.length : Int):=of_decide_eq_true (by assumption)
               obtain ⟨ad672,e672,hx672_0,hx672_1⟩:=at_T66 HR0_1.out x6_5 p672 q672
               obtain rfl : ad667 = ad672:=(by injection e672)
               replace hx672_0:=(HB.out.cell (wbl hx672_0)).trans hx672_0
               replace hx672_1:=(HB.out.cell (wbl hx672_1)).trans hx672_1
               replace p672:=eq_true p672
               replace q672:=eq_true q672
               obtain ⟨hcz45_0,hcz45_1⟩:=cO2 BK668.out
               have hfz45_0:=blk_frozen BK668.out 0
               have hfz45_1:=blk_frozen BK668.out 1
               go_wp2
               repeat (go_quiet (fail);try go_wp2)
               go_roundg k5
               case measure=>have:=HK1.out;have:=HJ10.out;have:=HK3.out;have:=HJ19.out;have:=HK5.out;omega
               case rel=>exact ⟨(wrap64 (x6_5 + 1)),(by first | rfl | (simp;done) | (simp [*];done)),H',⟨by have:=HK1.out;have:=HJ10.out;have:=HK3.out;have:=HJ19.out;have:=HK5.out;omega⟩,⟨BK663.out⟩,⟨BK668.out⟩,⟨pw_below_drewN HB.out _⟩⟩
end
section
attribute [local go_sem] max2_int min2_int max_two min_two
def l4_sum.l0 : Nat→List Int→Int→Int→Option (Int)
 | 0,_,_,_=>none
 | k + 1,x0,x3,x4=>if x4 < (x0.length : Int) then (if 0≤x4 then ((q4_Cups.f (rd x0 x4)).bind fun t674=>(if t674 = true then (l4_sum.l0 k x0 (wrap64 (x3 + (rd x0 x4))) (wrap64 (x4 + 1))) else (some (-1)))) else (none)) else (some x3)
def l4_sum.f (k : Nat) (l0 : List Int) : Option (Int):=l4_sum.l0 k l0 0 0
theorem l4_sum.calls (k : Nat) (A0 : Option Addr) (c0 : Nat) (l0 : List Int) (r : Int) (w : World) (hr0 : Kd.C (Kd.int .i64) w A0 l0.length l0) (hc0 : l0.length≤c0) (h : l4_sum.f k l0 = some r) :
 Calls Tryz.prog 33 #[.slice A0 l0.length c0] w fun e w'=>e = .returned (.int .i64 r)∧Drawn0 w w':=by
 have HR0:=am hr0
 have HC0:=am hc0
 clear hr0 hc0
 have H : (l4_sum.l0 k l0 0 0) = some r:=h
 clear h
 replace H':=am H
 go_enter Tryz.func33,Tryz.ntmps33
 go_wp2
 go_loopg [3,4] k (fun kq v3 v4 w'=>∃ (x3_1 : Int) (x4_1 : Int),v3 = .int .i64 x3_1∧v4 = .int .i64 x4_1∧Aside0 (l4_sum.l0 kq l0 x3_1 x4_1 = some r)∧Aside0 (kq≤k)∧Drawn0 w w')
 case atStart=>exact ⟨(0),(0),(by first | rfl | (simp;done) | (simp [*];done)),(by first | rfl | (simp;done) | (simp [*];done)),H',⟨Nat.le_refl _⟩,by repeat (first | exact Drawn0.refl _ | apply Drawn0.step)⟩
 case round =>
  clear H'
  obtain ⟨x3_1,x4_1,rfl,rfl,HA,HK1,⟨m1,rfl⟩⟩:=hrel
  cases gk with
  | zero=>exact absurd HA.out (by simp [l4_sum.l0])
  | succ k1 =>
   have H:=HA.out
   clear HA
   simp only [l4_sum.l0] at H
   by_cases c2 : x4_1 < (l0.length : Int)
   case neg =>
    rw [if_neg c2] at H
    have c2b0 : decide (x4_1 < (l0.length : Int)) = false:=decide_eq_false c2
    clear c2
    obtain rfl:=Option.some.inj H
    go_wp2
    go_ret
    exact ⟨by first | rfl | (simp;done) | (simp [*];done),by repeat (first | exact Drawn0.refl _ | apply Drawn0.step)⟩
   rw [if_pos c2] at H
   have c2b0 : decide (x4_1 < (l0.length : Int)) = true:=decide_eq_true c2
   clear c2
   by_cases c3 : 0≤x4_1
   case neg =>
    rw [if_neg c3] at H
    exact absurd H (by simp)
   rw [if_pos c3] at H
   have c3b0 : decide (0≤x4_1) = true:=decide_eq_true c3
   clear c3
   replace H:=obm H
   obtain ⟨t674,A40,H⟩:=H
   replace H : (if t674 = true then (l4_sum.l0 k1 l0 (wrap64 (x3_1 + (rd l0 x4_1))) (wrap64 (x4_1 + 1))) else (some (-1))) = some r:=H
   have A4:=am A40
   clear A40
   by_cases c5 : t674 = true
   ·subst c5
    replace H : (l4_sum.l0 k1 l0 (wrap64 (x3_1 + (rd l0 x4_1))) (wrap64 (x4_1 + 1))) = some r:=by rw [if_pos rfl] at H;exact H
    replace H':=am H
    have p673 : 0≤(x4_1 : Int):=of_decide_eq_true (by assumption)
    have q673 : x4_1 < (l0.length : Int):=of_decide_eq_true (by assumption)
    obtain ⟨ad673,e673,hx673_0⟩:=Kd.at_int HR0.out x4_1 p673 q673
    cases e673
    replace p673:=eq_true p673
    replace q673:=eq_true q673
    go_wp2_with (first | ((with_reducible refine gate_callee (f:=17) rfl ?_);refine goesL_ (some 15) rfl rfl Tryz.func17 (by kernel_rfl) rfl #[.int .i64 (rd l0 x4_1)] rfl (by (try simp only [List.map_toArray,List.map_cons,List.map_nil]);first | done | rfl | (simp only [List.length_drop,List.length_take];rfl)) ?_;(refine (q4_Cups.calls (rd l0 x4_1) true _ A4.out).mono ?_);rintro e w' ⟨rfl,⟨nd,rfl⟩⟩;refine ⟨_,rfl,?_⟩;have p675 : 0≤(x4_1 : Int):=of_decide_eq_true (by assumption);have q675 : x4_1 < (l0.length : Int):=of_decide_eq_true (by assumption);obtain ⟨ad675,e675,hx675_0⟩:=Kd.at_int HR0.out x4_1 p675 q675;obtain rfl : ad673 = ad675:=(by injection e675);replace p675:=eq_true p675;replace q675:=eq_true q675))
    go_roundg k1
    case measure=>have:=HK1.out;omega
    case rel=>exact ⟨(wrap64 (x3_1 + (rd l0 x4_1))),(wrap64 (x4_1 + 1)),(by first | rfl | (simp;done) | (simp [*];done)),(by first | rfl | (simp;done) | (simp [*];done)),H',⟨by have:=HK1.out;omega⟩,by repeat (first | exact Drawn0.refl _ | apply Drawn0.step)⟩
   ·replace c5:=Bool.eq_false_iff.mpr c5
    subst c5
    replace H : (some (-1)) = some r:=by rw [if_neg (show ¬ (false = true) by decide)] at H;exact H
    obtain rfl:=Option.some.inj H
    have p673 : 0≤(x4_1 : Int):=of_decide_eq_true (by assumption)
    have q673 : x4_1 < (l0.length : Int):=of_decide_eq_true (by assumption)
    obtain ⟨ad673,e673,hx673_0⟩:=Kd.at_int HR0.out x4_1 p673 q673
    cases e673
    replace p673:=eq_true p673
    replace q673:=eq_true q673
    go_wp2_with (first | ((with_reducible refine gate_callee (f:=17) rfl ?_);refine goesL_ (some 15) rfl rfl Tryz.func17 (by kernel_rfl) rfl #[.int .i64 (rd l0 x4_1)] rfl (by (try simp only [List.map_toArray,List.map_cons,List.map_nil]);first | done | rfl | (simp only [List.length_drop,List.length_take];rfl)) ?_;(refine (q4_Cups.calls (rd l0 x4_1) false _ A4.out).mono ?_);rintro e w' ⟨rfl,⟨nd,rfl⟩⟩;refine ⟨_,rfl,?_⟩))
    go_ret
    exact ⟨by first | rfl | (simp;done) | (simp [*];done),by repeat (first | exact Drawn0.refl _ | apply Drawn0.step)⟩
def q4_Fed.l0 : Nat→Int→Int→Int→List (S27)→List (S66)→Option (Bool)
 | 0,_,_,_,_,_=>none
 | k + 1,x1,x2,x7,x677000,x677001=>if x7 < (x677001.length : Int) then (if 0≤x7 then (if ((rd_T66 x677001 x7).f0) = x1 then (if ((rd_T66 x677001 x7).f1) = x2 then (some true) else (q4_Fed.l0 k x1 x2 (wrap64 (x7 + 1)) x677000 x677001)) else (q4_Fed.l0 k x1 x2 (wrap64 (x7 + 1)) x677000 x677001)) else (none)) else (some false)
def q4_Fed.f (k : Nat) (l0_0 : List (S27)) (l0_1 : List (S66)) (a1 : Int) (a2 : Int) : Option (Bool):=q4_Fed.l0 k a1 a2 0 l0_0 l0_1
theorem q4_Fed.calls (k : Nat) (A0_0 : Option Addr) (c0_0 : Nat) (l0_0 : List (S27)) (A0_1 : Option Addr) (c0_1 : Nat) (l0_1 : List (S66)) (a1 : Int) (a2 : Int) (r : Bool) (w : World) (hr0_0 : Kd.C k27 w A0_0 l0_0.length l0_0) (hc0_0 : l0_0.length≤c0_0) (hr0_1 : Kd.C k66 w A0_1 l0_1.length l0_1) (hc0_1 : l0_1.length≤c0_1) (h : q4_Fed.f k l0_0 l0_1 a1 a2 = some r) :
 Calls Tryz.prog 34 #[.agg #[.slice A0_0 l0_0.length c0_0,.slice A0_1 l0_1.length c0_1],.int .i64 a1,.int .i64 a2] w fun e w'=>e = .returned (.bool r)∧Below w.heap.size w w':=by
 have hu59:=Tryz.underlying59
 have HR0_0:=am hr0_0
 have HC0_0:=am hc0_0
 clear hr0_0 hc0_0
 have HR0_1:=am hr0_1
 have HC0_1:=am hc0_1
 clear hr0_1 hc0_1
 have HB:=am (Below.refl w.heap.size w)
 have H : (q4_Fed.l0 k a1 a2 0 l0_0 l0_1) = some r:=h
 clear h
 replace H':=am H
 go_enter Tryz.func34,Tryz.ntmps34
 go_wp2_with (first | ((with_reducible refine gate_dst (N:=3) rfl ?_);refine box_event ?hg (N:=3) ?hd (cs:=#[.slice A0_0 l0_0.length c0_0,.slice A0_1 l0_1.length c0_1]) (t:=59) ?hr ?_;(case hd=>rfl);(case hg=>rfl);(case hr=>go_simp;try rfl);intro gb676 hg w4 hbox hb;have BK676:=am (hbox);have GW676:=am (ge_new (by repeat (first | (with_reducible first | exact HB.out | apply below_alloc | apply pw_below_drewN) | exact HB.out)) hg);have GE676:=am (ge_new (by repeat (first | (with_reducible first | exact HB.out | apply below_alloc | apply pw_below_drewN) | exact HB.out)) hg);replace HB:=am (below_step (by repeat (first | (with_reducible first | exact HB.out | apply below_alloc | apply pw_below_drewN) | exact HB.out)) hb);clear hb hbox hg))
 go_loopg [7] k (fun kq v7 w'=>∃ (x7_1 : Int),v7 = .int .i64 x7_1∧Aside0 (q4_Fed.l0 kq a1 a2 x7_1 l0_0 l0_1 = some r)∧Aside0 (kq≤k)∧Aside0 (w'.heap[gb676]? = some (.cells #[(.slice A0_0 l0_0.length c0_0),(.slice A0_1 l0_1.length c0_1)] 59 (0,0)))∧Aside0 (Below w.heap.size w w'))
 case atStart=>exact ⟨(0),(by first | rfl | (simp;done) | (simp [*];done)),H',⟨Nat.le_refl _⟩,⟨by (with_reducible repeat (first | refine blk_drewN ?_ _ | refine blk_drew ?_ | refine blk_alloc ?_ _));exact BK676.out⟩,⟨by repeat (first | (with_reducible first | exact HB.out | refine below_set ?_ GE676.out | apply below_alloc | apply pw_below_drewN) | exact HB.out)⟩⟩
 case round =>
  clear H'
  try clear p2
  try clear c3
  obtain ⟨x7_1,rfl,HA,HK1,BK676,HB⟩:=hrel
  cases gk with
  | zero=>exact absurd HA.out (by simp [q4_Fed.l0])
  | succ k1 =>
   have H:=HA.out
   clear HA
   simp only [q4_Fed.l0] at H
   by_cases c5 : x7_1 < (l0_1.length : Int)
   case neg =>
    rw [if_neg c5] at H
    have c5b0 : decide (x7_1 < (l0_1.length : Int)) = false:=decide_eq_false c5
    clear c5
    obtain rfl:=Option.some.inj H
    obtain ⟨hcz12_0,hcz12_1⟩:=cO2 BK676.out
    have hfz12_0:=blk_frozen BK676.out 0
    have hfz12_1:=blk_frozen BK676.out 1
    go_wp2
    go_ret
    exact ⟨by first | rfl | (simp [*]<;>rfl),by repeat (first | (with_reducible first | exact HB.out | refine below_set ?_ GE676.out | apply below_alloc | apply pw_below_drewN) | exact HB.out)⟩
   rw [if_pos c5] at H
   have c5b0 : decide (x7_1 < (l0_1.length : Int)) = true:=decide_eq_true c5
   clear c5
   by_cases c6 : 0≤x7_1
   case neg =>
    rw [if_neg c6] at H
    exact absurd H (by simp)
   rw [if_pos c6] at H
   have c6b0 : decide (0≤x7_1) = true:=decide_eq_true c6
   clear c6
   by_cases c7 : ((rd_T66 l0_1 x7_1).f0) = a1
   case neg =>
    rw [if_neg c7] at H
    have c7b0 : (((rd_T66 l0_1 x7_1).f0) == a1) = false:=beq_eq_false_iff_ne.mpr c7
    have c7b1 : (((rd_T66 l0_1 x7_1).f0) != a1) = true:=bne_iff_ne.mpr c7
    replace H':=am H
    obtain ⟨hcz11_0,hcz11_1⟩:=cO2 BK676.out
    have hfz11_0:=blk_frozen BK676.out 0
    have hfz11_1:=blk_frozen BK676.out 1
    have p677 : 0≤(x7_1 : Int):=of_decide_eq_true (by assumption)
    have q677 : x7_1 < (l0_1.length : Int):=of_decide_eq_true (by assumption)
    obtain ⟨ad677,e677,hx677_0,hx677_1⟩:=at_T66 HR0_1.out x7_1 p677 q677
    cases e677
    replace hx677_0:=(HB.out.cell (wbl hx677_0)).trans hx677_0
    replace hx677_1:=(HB.out.cell (wbl hx677_1)).trans hx677_1
    replace p677:=eq_true p677
    replace q677:=eq_true q677
    go_wp2
    go_roundg k1
    case measure=>have:=HK1.out;omega
    case rel=>exact ⟨(wrap64 (x7_1 + 1)),(by first | rfl | (simp;done) | (simp [*];done)),H',⟨by have:=HK1.out;omega⟩,⟨by (with_reducible repeat (first | refine blk_drewN ?_ _ | refine blk_drew ?_ | refine blk_alloc ?_ _));exact BK676.out⟩,⟨by repeat (first | (with_reducible first | exact HB.out | refine below_set ?_ GE676.out | apply below_alloc | apply pw_below_drewN) | exact HB.out)⟩⟩
   rw [if_pos c7] at H
   have c7b0 : (((rd_T66 l0_1 x7_1).f0) == a1) = true:=beq_iff_eq.mpr c7
   have c7b1 : (((rd_T66 l0_1 x7_1).f0) != a1) = false:=bne_eq_false_iff_eq.mpr c7
   clear c7
   by_cases c8 : ((rd_T66 l0_1 x7_1).f1) = a2
   ·rw [if_pos c8] at H
    have c8b0 : (((rd_T66 l0_1 x7_1).f1) == a2) = true:=beq_iff_eq.mpr c8
    have c8b1 : (((rd_T66 l0_1 x7_1).f1) != a2) = false:=bne_eq_false_iff_eq.mpr c8
    clear c8
    obtain rfl:=Option.some.inj H
    obtain ⟨hcz9_0,hcz9_1⟩:=cO2 BK676.out
    have hfz9_0:=blk_frozen BK676.out 0
    have hfz9_1:=blk_frozen BK676.out 1
    have p677 : 0≤(x7_1 : Int):=of_decide_eq_true (by assumption)
    have q677 : x7_1 < (l0_1.length : Int):=of_decide_eq_true (by assumption)
    obtain ⟨ad677,e677,hx677_0,hx677_1⟩:=at_T66 HR0_1.out x7_1 p677 q677
    cases e677
    replace hx677_0:=(HB.out.cell (wbl hx677_0)).trans hx677_0
    replace hx677_1:=(HB.out.cell (wbl hx677_1)).trans hx677_1
    replace p677:=eq_true p677
    replace q677:=eq_true q677
    have p678 : 0≤(x7_1 : Int):=of_decide_eq_true (by assumption)
    have q678 : x7_1 < (l0_1.length : Int):=of_decide_eq_true (by assumption)
    obtain ⟨ad678,e678,hx678_0,hx678_1⟩:=at_T66 HR0_1.out x7_1 p678 q678
    obtain rfl : ad677 = ad678:=(by injection e678)
    replace hx678_0:=(HB.out.cell (wbl hx678_0)).trans hx678_0
    replace hx678_1:=(HB.out.cell (wbl hx678_1)).trans hx678_1
    replace p678:=eq_true p678
    replace q678:=eq_true q678
    go_wp2
    go_ret
    exact ⟨by first | rfl | (simp [*]<;>rfl),by repeat (first | (with_reducible first | exact HB.out | refine below_set ?_ GE676.out | apply below_alloc | apply pw_below_drewN) | exact HB.out)⟩
   ·rw [if_neg c8] at H
    have c8b0 : (((rd_T66 l0_1 x7_1).f1) == a2) = false:=beq_eq_false_iff_ne.mpr c8
    have c8b1 : (((rd_T66 l0_1 x7_1).f1) != a2) = true:=bne_iff_ne.mpr c8
    replace H':=am H
    obtain ⟨hcz10_0,hcz10_1⟩:=cO2 BK676.out
    have hfz10_0:=blk_frozen BK676.out 0
    have hfz10_1:=blk_frozen BK676.out 1
    have p677 : 0≤(x7_1 : Int):=of_decide_eq_true (by assumption)
    have q677 : x7_1 < (l0_1.length : Int):=of_decide_eq_true (by assumption)
    obtain ⟨ad677,e677,hx677_0,hx677_1⟩:=at_T66 HR0_1.out x7_1 p677 q677
    cases e677
    replace hx677_0:=(HB.out.cell (wbl hx677_0)).trans hx677_0
    replace hx677_1:=(HB.out.cell (wbl hx677_1)).trans hx677_1
    replace p677:=eq_true p677
    replace q677:=eq_true q677
    have p678 : 0≤(x7_1 : Int):=of_decide_eq_true (by assumption)
    have q678 : x7_1 < (l0_1.length : Int):=of_decide_eq_true (by assumption)
    obtain ⟨ad678,e678,hx678_0,hx678_1⟩:=at_T66 HR0_1.out x7_1 p678 q678
    obtain rfl : ad677 = ad678:=(by injection e678)
    replace hx678_0:=(HB.out.cell (wbl hx678_0)).trans hx678_0
    replace hx678_1:=(HB.out.cell (wbl hx678_1)).trans hx678_1
    replace p678:=eq_true p678
    replace q678:=eq_true q678
    go_wp2
    go_roundg k1
    case measure=>have:=HK1.out;omega
    case rel=>exact ⟨(wrap64 (x7_1 + 1)),(by first | rfl | (simp;done) | (simp [*];done)),H',⟨by have:=HK1.out;omega⟩,⟨by (with_reducible repeat (first | refine blk_drewN ?_ _ | refine blk_drew ?_ | refine blk_alloc ?_ _));exact BK676.out⟩,⟨by repeat (first | (with_reducible first | exact HB.out | refine below_set ?_ GE676.out | apply below_alloc | apply pw_below_drewN) | exact HB.out)⟩⟩
end
theorem skip_abs {P : Program} {ops : Array Oper} {o : Oper} {a : Act} {Q : Exit→Act→World→Prop} {rest : List Oper} {W W1 : World} (Rr : World→Prop) (hgd : o.guard = none) (hN : o.dst = none)
 (hrun : (execOp a.eval o).run P W = .ok .skip W1) (hR : Rr W1) (h : ∀ W',Rr W'→wpList P ops Q rest a W') : wpList P ops Q (o :: rest) a W:=by
 refine wpList_plain hgd fun K hK=>?_
 unfold Oper.wp
 rw [hrun]
 show K (a.put o.dst undef) W1
 rw [hN]
 exact hK _ _ (h W1 hR)
theorem eqFeed (d : Nat) (w : World) (x0 y0 : Int) (x1 y1 : Int) :
 (Op.equalIn (d + 2) 66 (.agg #[.int .i64 x0,.int .i64 x1]) (.agg #[.int .i64 y0,.int .i64 y1])).run Tryz.prog w = .ok (x0 == y0 && (x1 == y1)) w:=by
 refine eqA_of Tryz.underlying66 (by kernel_rfl) ?_
 refine eqf_cons (by rfl) (by go_simp;rfl) (by go_simp;rfl) (by go_simp) ?_
 exact eqf_last (by rfl) (by go_simp;rfl) (by go_simp;rfl) (by go_simp)
def setO (W : World) (b : Nat) (o : Obj) : World:={ W with heap:=W.heap.setIfInBounds b o }
theorem setO_same {W : World} {b : Nat} {o' : Obj} (o : Obj) (h : W.heap[b]? = some o') : (setO W b o).heap[b]? = some o:=by
 simp [setO,Array.getElem?_setIfInBounds,(Array.getElem?_eq_some_iff.1 h).1]
theorem setO_other {W : World} {b k : Nat} {o' : Obj} (o : Obj) (h : W.heap[k]? = some o') (hne : k ≠ b) : (setO W b o).heap[k]? = some o':=by
 simp [setO,Array.getElem?_setIfInBounds,Ne.symm hne,h]
theorem below_setO {B : Nat} {w W : World} {b : Nat} (o : Obj) (h : Below B w W) (hb : B≤b) : Below B w (setO W b o):=
 ⟨h.os,h.tape,h.output,by simpa [setO] using h.size,fun i hi=>by rw [show (setO W b o).heap[i]? = W.heap[i]? by simp [setO,Array.getElem?_setIfInBounds,show b ≠ i by omega]];exact h.block i hi⟩
theorem obj_far {w : World} {k : Nat} {o : Obj} (h : w.heap[k]? = some o) {p : Addr} (hp : k ≠ p.block) (u : Value) : (w.setCell p u).heap[k]? = some o:=by
 simp [World.setCell,Array.getElem?_modify,Ne.symm hp,h]
def feedKey (f : S66) : Value:=.agg #[.int .i64 f.f0,.int .i64 f.f1]
def ents (fs : List S66) : List MapEntry:=fs.zipIdx.map fun p=>⟨feedKey p.1,.agg #[],p.2⟩
theorem ents_snoc (fs : List S66) (f : S66) : ents (fs ++ [f]) = ents fs ++ [⟨feedKey f,.agg #[],fs.length⟩]:=by
 unfold ents;rw [List.zipIdx_append];simp
def hasFeed (fs : List S66) (f : S66) : Bool:=fs.any fun g=>f.f0 == g.f0 && f.f1 == g.f1
theorem chk (n : Nat) (em : Bool) (w : World) (x y : Int) : (Instr.checkKey em (n + 2) 66 (.agg #[.int .i64 x,.int .i64 y])).run Tryz.prog w = .ok () w:=by
 have hu:=Tryz.underlying66
 have h3:=Tryz.underlying3
 have h1 : ∀ z,(Instr.checkKey em (n + 1) 3 (.int .i64 z)).run Tryz.prog w = .ok () w:=fun z=>by simp [Instr.checkKey,run_underlying h3]
 rw [Instr.checkKey]
 simp [run_underlying hu,part,Sem.run_bind,h1,go_sem]
theorem asking (w : World) (f : S66) : ∀ (fs : List S66) (i j : Nat),∃ r,(Instr.findAsking 66 (feedKey f) ((fs.zipIdx j).map fun p=>⟨feedKey p.1,.agg #[],p.2⟩) i).run Tryz.prog w = .ok r w∧((hasFeed fs f = true∧∃ k,r = some (k,.agg #[]))∨(hasFeed fs f = false∧r = none))
 | [],i,j=>⟨none,by simp [Instr.findAsking],.inr ⟨rfl,rfl⟩⟩
 | g :: fs,i,j=>by
  obtain ⟨r,hr,hc⟩:=asking w f fs (i + 1) (j + 1)
  simp only [List.zipIdx_cons,List.map_cons]
  by_cases he : f.f0 = g.f0∧f.f1 = g.f1
  ·exact ⟨some (i,.agg #[]),by simp [Instr.findAsking,feedKey,Op.equal,Op.maxDepth,eqFeed 9998,he],.inl ⟨by simp [hasFeed,he],i,rfl⟩⟩
  ·refine ⟨r,?_,?_⟩
   ·simp only [feedKey] at hr ⊢
    simp [Instr.findAsking,Op.equal,Op.maxDepth,eqFeed 9998,he,hr]
   ·have : hasFeed (g :: fs) f = hasFeed fs f:=by
     unfold hasFeed;rw [List.any_cons]
     have : (f.f0 == g.f0 && f.f1 == g.f1) = false:=by
      rw [Bool.and_eq_false_iff];simp only [beq_eq_false_iff_ne];omega
     rw [this,Bool.false_or]
    rw [this];exact hc
theorem lookE (W : World) (b : Nat) (fs : List S66) (n : Nat) (f : S66) (hb : W.heap[b]? = some (.map (ents fs).toArray n)) :
 (Instr.lookup 148 (.map (some b)) (.agg #[.int .i64 f.f0,.int .i64 f.f1]) true).run Tryz.prog W = .ok (.tuple #[.agg #[],.bool (hasFeed fs f)]) W:=by
 have hu:=Tryz.underlying148
 obtain ⟨r,hr,hc⟩:=asking W f fs 0 0
 have hf : (Instr.findKey 66 (.agg #[.int .i64 f.f0,.int .i64 f.f1]) (ents fs)).run Tryz.prog W = .ok r W:=by
  rw [run_findKey_eq W (by kernel_rfl)];exact hr
 have hk : ∀ em,(Instr.checkKey em 10000 66 (.agg #[.int .i64 f.f0,.int .i64 f.f1])).run Tryz.prog W = .ok () W:=fun em=>chk 9998 em W f.f0 f.f1
 have hz : (zeroValue 149).run Tryz.prog W = .ok (.agg #[]) W:=by kernel_rfl
 have hg : (getObj b).run Tryz.prog W = .ok (.map (ents fs).toArray n) W:=by simp [getObj,Sem.run,hb]
 unfold Instr.lookup
 rcases hc with ⟨h1,k,rfl⟩ | ⟨h1,rfl⟩
 ·simp [run_underlying hu,go_sem,hg,hk,hf,h1]
 ·simp [run_underlying hu,go_sem,hg,hk,hf,h1,hz]
theorem updE (W : World) (b : Nat) (fs : List S66) (f : S66) (hn : hasFeed fs f = false) (hb : W.heap[b]? = some (.map (ents fs).toArray fs.length)) :
 (Instr.mapUpdate 148 (.map (some b)) (.agg #[.int .i64 f.f0,.int .i64 f.f1]) (.agg #[])).run Tryz.prog W = .ok () (setO W b (.map (ents (fs ++ [f])).toArray (fs.length + 1))):=by
 have hu:=Tryz.underlying148
 obtain ⟨r,hr,hc⟩:=asking W f fs 0 0
 have hf : (Instr.findKey 66 (.agg #[.int .i64 f.f0,.int .i64 f.f1]) (ents fs)).run Tryz.prog W = .ok r W:=by
  rw [run_findKey_eq W (by kernel_rfl)];exact hr
 have hk : ∀ em,(Instr.checkKey em 10000 66 (.agg #[.int .i64 f.f0,.int .i64 f.f1])).run Tryz.prog W = .ok () W:=fun em=>chk 9998 em W f.f0 f.f1
 have hg : (getObj b).run Tryz.prog W = .ok (.map (ents fs).toArray fs.length) W:=by simp [getObj,Sem.run,hb]
 have hs : ∀ o,(setObj b o).run Tryz.prog W = .ok () (setO W b o):=fun o=>by simp [setObj,Sem.run,hb,setO]
 unfold Instr.mapUpdate
 rcases hc with ⟨h1,k,rfl⟩ | ⟨h1,rfl⟩
 ·rw [hn] at h1;cases h1
 ·simp [run_underlying hu,go_sem,hg,hk,hf,h1,hs,ents_snoc,feedKey]
def Pred_isBasin (g : Nat) (q : S48→Option Bool) (w : World) (xs : List S48) : Prop:=∀ (x : S48) (b : Bool) (W : World) ,x ∈ xs→q x = some b→Below w.heap.size w W→
 Calls Tryz.prog 102 #[.agg #[.int .i64 x.f0,.int .i64 x.f1],.pointer (some ⟨g,0,none⟩)] W fun e W'=>e = .returned (.bool b)∧Below W.heap.size W W'
theorem idx_isBasin (g : Nat) (q : S48→Option Bool) (A : Option Addr) (c : Nat) (xs : List S48) (r : Int) (w : World) (hr : Kd.C k48 w A xs.length xs) (hp : Pred_isBasin g q w xs) (h : idxM q xs 0 = some r) :
 Calls Tryz.prog 128 #[.slice A xs.length c,.func (.func 102) #[] #[.pointer (some ⟨g,0,none⟩)]] w fun e w'=>e = .returned (.int .i64 r)∧Below w.heap.size w w':=by
 have huE:=Tryz.underlying48
 have HR:=am hr
 have HP:=am hp
 have HQ:=am (show idxM q (xs.drop (0 : Int).toNat) 0 = some r from h)
 have hm : xs.length≤9223372036854775807:=Kd.C_max hr
 clear hr hp h
 go_enter Tryz.func128,Tryz.ntmps128
 go_wp2
 go_loopw [5,8] (fun v5 v8 w'=>∃ i : Int,0≤i∧i≤xs.length∧v8 = .int .i64 i∧Aside0 (idxM q (xs.drop i.toNat) i = some r)∧Aside0 (Below w.heap.size w w')) (fun _ v8 _=>xs.length - (intOf v8).toNat)
 case atStart=>exact ⟨0,by omega,by omega,rfl,HQ,⟨Below.refl _ _⟩⟩
 case round =>
  clear HQ
  obtain ⟨i,p1,hi,rfl,HQ,HB⟩:=hrel
  by_cases hlt : i < (xs.length : Int)
  case neg =>
   go_wp2
   go_ret
   exact ⟨ret_int_eq (idxM_end (by omega) HQ.out),HB.out⟩
  obtain ⟨ad,e1,hx0,hx1⟩:=at_T48 HR.out i p1 hlt
  cases e1
  replace hx0:=(HB.out.cell (wbl hx0)).trans hx0
  replace hx1:=(HB.out.cell (wbl hx1)).trans hx1
  rcases idxM_step z48 p1 hlt HQ.out with ⟨hq,he⟩ | ⟨hq,hn⟩
  ·have H1:=am hq
   have X1:=am (getD_mem z48 p1 hlt)
   have H2:=am he
   clear hq he
   go_wp2_with (go_at_call 102;refine (HP.out (xs.getD i.toNat z48) _ _ X1.out H1.out HB.out).mono ?_;rintro e W' ⟨rfl,hb⟩)
   go_ret
   exact ⟨ret_int_eq H2.out,below_then HB.out HB.out.size hb⟩
  ·have H1:=am hq
   have X1:=am (getD_mem z48 p1 hlt)
   have H2:=am hn
   clear hq hn
   go_wp2_with (go_at_call 102;refine (HP.out (xs.getD i.toNat z48) _ _ X1.out H1.out HB.out).mono ?_;rintro e W' ⟨rfl,hb⟩)
   go_roundw
   case rel=>exact ⟨i + 1,by omega,by omega,by go_num,H2,⟨below_then HB.out HB.out.size hb⟩⟩
   case measure=>simp [intOf];omega
theorem any_isBasin (g : Nat) (q : S48→Option Bool) (A : Option Addr) (c : Nat) (xs : List S48) (r : Bool) (w : World) (hr : Kd.C k48 w A xs.length xs) (hp : Pred_isBasin g q w xs) (h : anyM q xs = some r) :
 Calls Tryz.prog 104 #[.slice A xs.length c,.func (.func 102) #[] #[.pointer (some ⟨g,0,none⟩)]] w fun e w'=>e = .returned (.bool r)∧Below w.heap.size w w':=by
 obtain ⟨j,hj,hd⟩:=idxM_of_anyM q xs 0 r (by omega) h
 have H1:=am hj
 have H2:=am hd
 have HR:=am hr
 have HP:=am hp
 clear hr hp h hj hd
 go_enter Tryz.func104,Tryz.ntmps104
 go_wp2_with (go_at_call 128;refine (idx_isBasin g q _ _ xs j _ HR.out HP.out H1.out).mono ?_;rintro e W' ⟨rfl,hb⟩)
 go_ret
 exact ⟨ret_bool_eq H2.out,hb⟩
section
attribute [local go_sem] max2_int min2_int max_two min_two
def nz_in.f (a0 : Int) (a1 : Int) (a2 : Int) : Option (Bool):=if a0 ≥ a1 then (some (decide (a0≤a2))) else (some false)
theorem nz_in.calls (a0 : Int) (a1 : Int) (a2 : Int) (r : Bool) (w : World) (h : nz_in.f a0 a1 a2 = some r) :
 Calls Tryz.prog 135 #[.int .i64 a0,.int .i64 a1,.int .i64 a2] w fun e w'=>e = .returned (.bool r)∧Drawn0 w w':=by
 have H : (if a0 ≥ a1 then (some (decide (a0≤a2))) else (some false)) = some r:=h
 clear h
 by_cases c4 : a0 ≥ a1
 ·rw [if_pos c4] at H
  have c4b0 : decide (a1≤a0) = true:=decide_eq_true c4
  clear c4
  obtain rfl:=Option.some.inj H
  go_enter Tryz.func135,Tryz.ntmps135
  go_wp2
  go_ret
  exact ⟨by first | rfl | (simp;done) | (simp [*];done),by repeat (first | exact Drawn0.refl _ | apply Drawn0.step)⟩
 ·rw [if_neg c4] at H
  have c4b0 : decide (a1≤a0) = false:=decide_eq_false c4
  clear c4
  obtain rfl:=Option.some.inj H
  go_enter Tryz.func135,Tryz.ntmps135
  go_wp2
  go_ret
  exact ⟨by first | rfl | (simp;done) | (simp [*];done),by repeat (first | exact Drawn0.refl _ | apply Drawn0.step)⟩
def nz_isTable_1.f (a0_0 : Int) (a0_1 : Int) (a0_2 : Int) : Option (Bool):=(nz_in.f a0_0 1 60).bind fun t1072=>(if t1072 = true then ((nz_in.f a0_1 1 60).bind fun t1073=>(if t1073 = true then ((nz_in.f a0_2 1 1000).bind fun t1074=>(some (!t1074))) else (some true))) else (some true))
theorem nz_isTable_1.calls (a0_0 : Int) (a0_1 : Int) (a0_2 : Int) (r : Bool) (w : World) (h : nz_isTable_1.f a0_0 a0_1 a0_2 = some r) :
 Calls Tryz.prog 137 #[.agg #[.int .i64 a0_0,.int .i64 a0_1,.int .i64 a0_2]] w fun e w'=>e = .returned (.bool r)∧Below w.heap.size w w':=by
 have hu126:=Tryz.underlying126
 have HB:=am (Below.refl w.heap.size w)
 have H : ((nz_in.f a0_0 1 60).bind fun t1072=>(if t1072 = true then ((nz_in.f a0_1 1 60).bind fun t1073=>(if t1073 = true then ((nz_in.f a0_2 1 1000).bind fun t1074=>(some (!t1074))) else (some true))) else (some true))) = some r:=h
 clear h
 replace H:=obm H
 obtain ⟨t1072,A20,H⟩:=H
 replace H : (if t1072 = true then ((nz_in.f a0_1 1 60).bind fun t1073=>(if t1073 = true then ((nz_in.f a0_2 1 1000).bind fun t1074=>(some (!t1074))) else (some true))) else (some true)) = some r:=H
 have A2:=am A20
 clear A20
 by_cases c3 : t1072 = true
 case neg =>
  replace c3:=Bool.eq_false_iff.mpr c3
  subst c3
  replace H : (some true) = some r:=by rw [if_neg (show ¬ (false = true) by decide)] at H;exact H
  obtain rfl:=Option.some.inj H
  go_enter Tryz.func137,Tryz.ntmps137
  go_wp2_with (first | ((refine gate_dst (N:=1) rfl ?_);refine box_event rfl (N:=1) rfl (cs:=#[.int .i64 a0_0,.int .i64 a0_1,.int .i64 a0_2]) (t:=126) ?hr ?_;(case hr=>go_simp;try rfl);intro gb1071 hg w11 hbox hb;have BK1071:=am (hbox);have GW1071:=am (ge_new (HB.out) hg);have GE1071:=am (ge_new (HB.out) hg);replace HB:=am (below_step (HB.out) hb);clear hb hbox hg;obtain ⟨hcz12_0,hcz12_1,hcz12_2⟩:=cO3 BK1071.out) | ((with_reducible refine gate_callee (f:=135) rfl ?_);refine goesL_ (some 5) rfl rfl Tryz.func135 (by kernel_rfl) rfl #[.int .i64 a0_0,.int .i64 1,.int .i64 60] rfl (by (try simp only [List.map_toArray,List.map_cons,List.map_nil]);first | done | rfl | (simp only [List.length_drop,List.length_take];rfl)) ?_;(with_reducible refine (nz_in.calls a0_0 1 60 false _ A2.out).mono ?_);rintro e w' ⟨rfl,⟨nd,rfl⟩⟩;refine ⟨_,rfl,?_⟩))
  go_ret
  exact ⟨by first | rfl | (simp [*]<;>rfl),pw_below_drewN HB.out _⟩
 subst c3
 replace H : ((nz_in.f a0_1 1 60).bind fun t1073=>(if t1073 = true then ((nz_in.f a0_2 1 1000).bind fun t1074=>(some (!t1074))) else (some true))) = some r:=by rw [if_pos rfl] at H;exact H
 replace H:=obm H
 obtain ⟨t1073,A40,H⟩:=H
 replace H : (if t1073 = true then ((nz_in.f a0_2 1 1000).bind fun t1074=>(some (!t1074))) else (some true)) = some r:=H
 have A4:=am A40
 clear A40
 by_cases c5 : t1073 = true
 case neg =>
  replace c5:=Bool.eq_false_iff.mpr c5
  subst c5
  replace H : (some true) = some r:=by rw [if_neg (show ¬ (false = true) by decide)] at H;exact H
  obtain rfl:=Option.some.inj H
  go_enter Tryz.func137,Tryz.ntmps137
  go_wp2_with (first | ((refine gate_dst (N:=1) rfl ?_);refine box_event rfl (N:=1) rfl (cs:=#[.int .i64 a0_0,.int .i64 a0_1,.int .i64 a0_2]) (t:=126) ?hr ?_;(case hr=>go_simp;try rfl);intro gb1071 hg w9 hbox hb;have BK1071:=am (hbox);have GW1071:=am (ge_new (HB.out) hg);have GE1071:=am (ge_new (HB.out) hg);replace HB:=am (below_step (HB.out) hb);clear hb hbox hg;obtain ⟨hcz10_0,hcz10_1,hcz10_2⟩:=cO3 BK1071.out) | ((with_reducible refine gate_callee (f:=135) rfl ?_);refine goesL_ (some 5) rfl rfl Tryz.func135 (by kernel_rfl) rfl #[.int .i64 a0_0,.int .i64 1,.int .i64 60] rfl (by (try simp only [List.map_toArray,List.map_cons,List.map_nil]);first | done | rfl | (simp only [List.length_drop,List.length_take];rfl)) ?_;(with_reducible refine (nz_in.calls a0_0 1 60 true _ A2.out).mono ?_);rintro e w' ⟨rfl,⟨nd,rfl⟩⟩;refine ⟨_,rfl,?_⟩) | (go_at_call 135;(with_reducible refine (nz_in.calls a0_1 1 60 false _ A4.out).mono ?_);rintro e w' ⟨rfl,⟨nd,rfl⟩⟩))
  go_ret
  exact ⟨by first | rfl | (simp [*]<;>rfl),pw_below_drewN HB.out _⟩
 subst c5
 replace H : ((nz_in.f a0_2 1 1000).bind fun t1074=>(some (!t1074))) = some r:=by rw [if_pos rfl] at H;exact H
 replace H:=obm H
 obtain ⟨t1074,A60,H⟩:=H
 replace H : (some (!t1074)) = some r:=H
 have A6:=am A60
 clear A60
 obtain rfl:=Option.some.inj H
 go_enter Tryz.func137,Tryz.ntmps137
 go_wp2_with (first | ((refine gate_dst (N:=1) rfl ?_);refine box_event rfl (N:=1) rfl (cs:=#[.int .i64 a0_0,.int .i64 a0_1,.int .i64 a0_2]) (t:=126) ?hr ?_;(case hr=>go_simp;try rfl);intro gb1071 hg w7 hbox hb;have BK1071:=am (hbox);have GW1071:=am (ge_new (HB.out) hg);have GE1071:=am (ge_new (HB.out) hg);replace HB:=am (below_step (HB.out) hb);clear hb hbox hg;obtain ⟨hcz8_0,hcz8_1,hcz8_2⟩:=cO3 BK1071.out) | ((with_reducible refine gate_callee (f:=135) rfl ?_);refine goesL_ (some 5) rfl rfl Tryz.func135 (by kernel_rfl) rfl #[.int .i64 a0_0,.int .i64 1,.int .i64 60] rfl (by (try simp only [List.map_toArray,List.map_cons,List.map_nil]);first | done | rfl | (simp only [List.length_drop,List.length_take];rfl)) ?_;(with_reducible refine (nz_in.calls a0_0 1 60 true _ A2.out).mono ?_);rintro e w' ⟨rfl,⟨nd,rfl⟩⟩;refine ⟨_,rfl,?_⟩) | (go_at_call 135;(with_reducible refine (nz_in.calls a0_1 1 60 true _ A4.out).mono ?_);rintro e w' ⟨rfl,⟨nd,rfl⟩⟩) | (go_at_call 135;(with_reducible refine (nz_in.calls a0_2 1 1000 t1074 _ A6.out).mono ?_);rintro e w' ⟨rfl,⟨nd,rfl⟩⟩))
 go_ret
 exact ⟨by first | rfl | (simp [*]<;>rfl),pw_below_drewN HB.out _⟩
end
def Pred_isTable (q : S126→Option Bool) (w : World) (xs : List S126) : Prop:=∀ (x : S126) (b : Bool) (W : World) ,x ∈ xs→q x = some b→Below w.heap.size w W→
 Calls Tryz.prog 137 #[.agg #[.int .i64 x.f0,.int .i64 x.f1,.int .i64 x.f2]] W fun e W'=>e = .returned (.bool b)∧Below W.heap.size W W'
theorem idx_isTable (q : S126→Option Bool) (A : Option Addr) (c : Nat) (xs : List S126) (r : Int) (w : World) (hr : Kd.C k126 w A xs.length xs) (hp : Pred_isTable q w xs) (h : idxM q xs 0 = some r) :
 Calls Tryz.prog 146 #[.slice A xs.length c,.func (.func 137) #[] #[]] w fun e w'=>e = .returned (.int .i64 r)∧Below w.heap.size w w':=by
 have huE:=Tryz.underlying126
 have HR:=am hr
 have HP:=am hp
 have HQ:=am (show idxM q (xs.drop (0 : Int).toNat) 0 = some r from h)
 have hm : xs.length≤9223372036854775807:=Kd.C_max hr
 clear hr hp h
 go_enter Tryz.func146,Tryz.ntmps146
 go_wp2
 go_loopw [5,8] (fun v5 v8 w'=>∃ i : Int,0≤i∧i≤xs.length∧v8 = .int .i64 i∧Aside0 (idxM q (xs.drop i.toNat) i = some r)∧Aside0 (Below w.heap.size w w')) (fun _ v8 _=>xs.length - (intOf v8).toNat)
 case atStart=>exact ⟨0,by omega,by omega,rfl,HQ,⟨Below.refl _ _⟩⟩
 case round =>
  clear HQ
  obtain ⟨i,p1,hi,rfl,HQ,HB⟩:=hrel
  by_cases hlt : i < (xs.length : Int)
  case neg =>
   go_wp2
   go_ret
   exact ⟨ret_int_eq (idxM_end (by omega) HQ.out),HB.out⟩
  obtain ⟨ad,e1,hx0,hx1,hx2⟩:=at_T126 HR.out i p1 hlt
  cases e1
  replace hx0:=(HB.out.cell (wbl hx0)).trans hx0
  replace hx1:=(HB.out.cell (wbl hx1)).trans hx1
  replace hx2:=(HB.out.cell (wbl hx2)).trans hx2
  rcases idxM_step z126 p1 hlt HQ.out with ⟨hq,he⟩ | ⟨hq,hn⟩
  ·have H1:=am hq
   have X1:=am (getD_mem z126 p1 hlt)
   have H2:=am he
   clear hq he
   go_wp2_with (go_at_call 137;refine (HP.out (xs.getD i.toNat z126) _ _ X1.out H1.out HB.out).mono ?_;rintro e W' ⟨rfl,hb⟩)
   go_ret
   exact ⟨ret_int_eq H2.out,below_then HB.out HB.out.size hb⟩
  ·have H1:=am hq
   have X1:=am (getD_mem z126 p1 hlt)
   have H2:=am hn
   clear hq hn
   go_wp2_with (go_at_call 137;refine (HP.out (xs.getD i.toNat z126) _ _ X1.out H1.out HB.out).mono ?_;rintro e W' ⟨rfl,hb⟩)
   go_roundw
   case rel=>exact ⟨i + 1,by omega,by omega,by go_num,H2,⟨below_then HB.out HB.out.size hb⟩⟩
   case measure=>simp [intOf];omega
theorem any_isTable (q : S126→Option Bool) (A : Option Addr) (c : Nat) (xs : List S126) (r : Bool) (w : World) (hr : Kd.C k126 w A xs.length xs) (hp : Pred_isTable q w xs) (h : anyM q xs = some r) :
 Calls Tryz.prog 136 #[.slice A xs.length c,.func (.func 137) #[] #[]] w fun e w'=>e = .returned (.bool r)∧Below w.heap.size w w':=by
 obtain ⟨j,hj,hd⟩:=idxM_of_anyM q xs 0 r (by omega) h
 have H1:=am hj
 have H2:=am hd
 have HR:=am hr
 have HP:=am hp
 clear hr hp h hj hd
 go_enter Tryz.func136,Tryz.ntmps136
 go_wp2_with (go_at_call 146;refine (idx_isTable q _ _ xs j _ HR.out HP.out H1.out).mono ?_;rintro e W' ⟨rfl,hb⟩)
 go_ret
 exact ⟨ret_bool_eq H2.out,hb⟩
def cf_isTable.f (l0 : List S126) : Option Bool:=anyM (fun x=>nz_isTable_1.f x.f0 x.f1 x.f2) l0
theorem cf_isTable.calls (A0 : Option Addr) (c0 : Nat) (l0 : List S126) (r : Bool) (w : World) (hr0 : Kd.C k126 w A0 l0.length l0) (hc0 : l0.length≤c0) (h : cf_isTable.f l0 = some r) :
 Calls Tryz.prog 136 #[.slice A0 l0.length c0,.func (.func 137) #[] #[]] w fun e w'=>e = .returned (.bool r)∧Below w.heap.size w w':=
 any_isTable (fun x=>nz_isTable_1.f x.f0 x.f1 x.f2) A0 c0 l0 r w hr0 (fun x b W hx hq hb=>(nz_isTable_1.calls _ _ _ b W hq).mono fun e W' ⟨he,hd⟩=>⟨he,hd⟩) h
section
attribute [local go_sem] max2_int min2_int max_two min_two
def nz_isTable.f (l0_0 : List (S126)) (a0_1 : Int) : Option (Bool):=(nz_in.f (l0_0.length : Int) 1 12).bind fun t132=>(if t132 = true then ((nz_in.f a0_1 0 100).bind fun t133=>(if t133 = true then ((cf_isTable.f l0_0).bind fun t134=>(some (!t134))) else (some false))) else (some false))
theorem nz_isTable.calls (A0_0 : Option Addr) (c0_0 : Nat) (l0_0 : List (S126)) (a0_1 : Int) (r : Bool) (w : World) (hr0_0 : Kd.C k126 w A0_0 l0_0.length l0_0) (hc0_0 : l0_0.length≤c0_0) (h : nz_isTable.f l0_0 a0_1 = some r) :
 Calls Tryz.prog 127 #[.agg #[.slice A0_0 l0_0.length c0_0,.int .i64 a0_1]] w fun e w'=>e = .returned (.bool r)∧Below w.heap.size w w':=by
 have hu24:=Tryz.underlying24
 have HR0_0:=am hr0_0
 have HC0_0:=am hc0_0
 clear hr0_0 hc0_0
 have HB:=am (Below.refl w.heap.size w)
 have H : ((nz_in.f (l0_0.length : Int) 1 12).bind fun t132=>(if t132 = true then ((nz_in.f a0_1 0 100).bind fun t133=>(if t133 = true then ((cf_isTable.f l0_0).bind fun t134=>(some (!t134))) else (some false))) else (some false))) = some r:=h
 clear h
 replace H:=obm H
 obtain ⟨t132,A20,H⟩:=H
 replace H : (if t132 = true then ((nz_in.f a0_1 0 100).bind fun t133=>(if t133 = true then ((cf_isTable.f l0_0).bind fun t134=>(some (!t134))) else (some false))) else (some false)) = some r:=H
 have A2:=am A20
 clear A20
 by_cases c3 : t132 = true
 case neg =>
  replace c3:=Bool.eq_false_iff.mpr c3
  subst c3
  replace H : (some false) = some r:=by rw [if_neg (show ¬ (false = true) by decide)] at H;exact H
  obtain rfl:=Option.some.inj H
  go_enter Tryz.func127,Tryz.ntmps127
  go_wp2_with (first | ((refine gate_dst (N:=1) rfl ?_);refine box_event rfl (N:=1) rfl (cs:=#[.slice A0_0 l0_0.length c0_0,.int .i64 a0_1]) (t:=24) ?hr ?_;(case hr=>go_simp;try rfl);intro gb131 hg w12 hbox hb;have BK131:=am (hbox);have GW131:=am (ge_new (HB.out) hg);have GE131:=am (ge_new (HB.out) hg);replace HB:=am (below_step (HB.out) hb);clear hb hbox hg;obtain ⟨hcz13_0,hcz13_1⟩:=cO2 BK131.out) | ((with_reducible refine gate_callee (f:=135) rfl ?_);refine goesL_ (some 6) rfl rfl Tryz.func135 (by kernel_rfl) rfl #[.int .i64 (l0_0.length : Int),.int .i64 1,.int .i64 12] rfl (by (try simp only [List.map_toArray,List.map_cons,List.map_nil]);first | done | rfl | (simp only [List.length_drop,List.length_take];rfl)) ?_;(refine (nz_in.calls (l0_0.length : Int) 1 12 false _ A2.out).mono ?_);rintro e w' ⟨rfl,⟨nd,rfl⟩⟩;refine ⟨_,rfl,?_⟩))
  go_ret
  exact ⟨by first | rfl | (simp [*]<;>rfl),pw_below_drewN HB.out _⟩
 subst c3
 replace H : ((nz_in.f a0_1 0 100).bind fun t133=>(if t133 = true then ((cf_isTable.f l0_0).bind fun t134=>(some (!t134))) else (some false))) = some r:=by rw [if_pos rfl] at H;exact H
 replace H:=obm H
 obtain ⟨t133,A40,H⟩:=H
 replace H : (if t133 = true then ((cf_isTable.f l0_0).bind fun t134=>(some (!t134))) else (some false)) = some r:=H
 have A4:=am A40
 clear A40
 by_cases c5 : t133 = true
 case neg =>
  replace c5:=Bool.eq_false_iff.mpr c5
  subst c5
  replace H : (some false) = some r:=by rw [if_neg (show ¬ (false = true) by decide)] at H;exact H
  obtain rfl:=Option.some.inj H
  go_enter Tryz.func127,Tryz.ntmps127
  go_wp2_with (first | ((refine gate_dst (N:=1) rfl ?_);refine box_event rfl (N:=1) rfl (cs:=#[.slice A0_0 l0_0.length c0_0,.int .i64 a0_1]) (t:=24) ?hr ?_;(case hr=>go_simp;try rfl);intro gb131 hg w10 hbox hb;have BK131:=am (hbox);have GW131:=am (ge_new (HB.out) hg);have GE131:=am (ge_new (HB.out) hg);replace HB:=am (below_step (HB.out) hb);clear hb hbox hg;obtain ⟨hcz11_0,hcz11_1⟩:=cO2 BK131.out) | ((with_reducible refine gate_callee (f:=135) rfl ?_);refine goesL_ (some 6) rfl rfl Tryz.func135 (by kernel_rfl) rfl #[.int .i64 (l0_0.length : Int),.int .i64 1,.int .i64 12] rfl (by (try simp only [List.map_toArray,List.map_cons,List.map_nil]);first | done | rfl | (simp only [List.length_drop,List.length_take];rfl)) ?_;(refine (nz_in.calls (l0_0.length : Int) 1 12 true _ A2.out).mono ?_);rintro e w' ⟨rfl,⟨nd,rfl⟩⟩;refine ⟨_,rfl,?_⟩) | (go_at_call 135;(refine (nz_in.calls a0_1 0 100 false _ A4.out).mono ?_);rintro e w' ⟨rfl,⟨nd,rfl⟩⟩))
  go_ret
  exact ⟨by first | rfl | (simp [*]<;>rfl),pw_below_drewN HB.out _⟩
 subst c5
 replace H : ((cf_isTable.f l0_0).bind fun t134=>(some (!t134))) = some r:=by rw [if_pos rfl] at H;exact H
 replace H:=obm H
 obtain ⟨t134,A60,H⟩:=H
 replace H : (some (!t134)) = some r:=H
 have A6:=am A60
 clear A60
 obtain rfl:=Option.some.inj H
 go_enter Tryz.func127,Tryz.ntmps127
 go_wp2_with (first | ((refine gate_dst (N:=1) rfl ?_);refine box_event rfl (N:=1) rfl (cs:=#[.slice A0_0 l0_0.length c0_0,.int .i64 a0_1]) (t:=24) ?hr ?_;(case hr=>go_simp;try rfl);intro gb131 hg w7 hbox hb;have BK131:=am (hbox);have GW131:=am (ge_new (HB.out) hg);have GE131:=am (ge_new (HB.out) hg);replace HB:=am (below_step (HB.out) hb);clear hb hbox hg;obtain ⟨hcz8_0,hcz8_1⟩:=cO2 BK131.out) | ((with_reducible refine gate_callee (f:=135) rfl ?_);refine goesL_ (some 6) rfl rfl Tryz.func135 (by kernel_rfl) rfl #[.int .i64 (l0_0.length : Int),.int .i64 1,.int .i64 12] rfl (by (try simp only [List.map_toArray,List.map_cons,List.map_nil]);first | done | rfl | (simp only [List.length_drop,List.length_take];rfl)) ?_;(refine (nz_in.calls (l0_0.length : Int) 1 12 true _ A2.out).mono ?_);rintro e w' ⟨rfl,⟨nd,rfl⟩⟩;refine ⟨_,rfl,?_⟩) | (go_at_call 135;(refine (nz_in.calls a0_1 0 100 true _ A4.out).mono ?_);rintro e w' ⟨rfl,⟨nd,rfl⟩⟩) | (go_at_call 136;(refine (cf_isTable.calls _ _ l0_0  t134 _ ?side1 ?side2 A6.out).mono ?_);(case side1=>repeat (first | exact (kC HR0_0.out (pw_below_drewN HB.out _)) | (with_reducible refine Kd.C_alloc ?_ _) | (with_reducible refine Kd.C_drewN ?_ _) | (with_reducible refine Kd.C_drew ?_)));(case side2=>exact HC0_0.out);rintro e w9 ⟨rfl,hb⟩;replace BK131:=(kmv hb BK131);replace HB:=am (below_step (pw_below_drewN HB.out _) hb);(try clear hb);(try clear hb2);(try clear hk);(try clear hi)))
 go_ret
 exact ⟨by first | rfl | (simp [*]<;>rfl),HB.out⟩
def nz_Check.f (l0_0 : List (S126)) (a0_1 : Int) : Option (Int):=(nz_isTable.f l0_0 a0_1).bind fun t136=>(if t136 = true then (some 0) else (some 2))
theorem nz_Check.calls (A0_0 : Option Addr) (c0_0 : Nat) (l0_0 : List (S126)) (a0_1 : Int) (r : Int) (w : World) (hr0_0 : Kd.C k126 w A0_0 l0_0.length l0_0) (hc0_0 : l0_0.length≤c0_0) (h : nz_Check.f l0_0 a0_1 = some r) :
 Calls Tryz.prog 103 #[.agg #[.slice A0_0 l0_0.length c0_0,.int .i64 a0_1]] w fun e w'=>e = .returned (.int .i64 r)∧Below w.heap.size w w':=by
 have hu24:=Tryz.underlying24
 have HR0_0:=am hr0_0
 have HC0_0:=am hc0_0
 clear hr0_0 hc0_0
 have HB:=am (Below.refl w.heap.size w)
 have H : ((nz_isTable.f l0_0 a0_1).bind fun t136=>(if t136 = true then (some 0) else (some 2))) = some r:=h
 clear h
 replace H:=obm H
 obtain ⟨t136,A20,H⟩:=H
 replace H : (if t136 = true then (some 0) else (some 2)) = some r:=H
 have A2:=am A20
 clear A20
 by_cases c3 : t136 = true
 ·subst c3
  replace H : (some 0) = some r:=by rw [if_pos rfl] at H;exact H
  obtain rfl:=Option.some.inj H
  go_enter Tryz.func103,Tryz.ntmps103
  go_wp2_with (first | ((refine gate_dst (N:=1) rfl ?_);refine box_event rfl (N:=1) rfl (cs:=#[.slice A0_0 l0_0.length c0_0,.int .i64 a0_1]) (t:=24) ?hr ?_;(case hr=>go_simp;try rfl);intro gb135 hg w4 hbox hb;have BK135:=am (hbox);have GW135:=am (ge_new (HB.out) hg);have GE135:=am (ge_new (HB.out) hg);replace HB:=am (below_step (HB.out) hb);clear hb hbox hg;obtain ⟨hcz5_0,hcz5_1⟩:=cO2 BK135.out) | ((with_reducible refine gate_callee (f:=127) rfl ?_);refine goesL_ (some 4) rfl rfl Tryz.func127 (by kernel_rfl) rfl #[.agg #[.slice A0_0 l0_0.length c0_0,.int .i64 a0_1]] rfl (by (try simp only [List.map_toArray,List.map_cons,List.map_nil]);first | done | rfl | (simp only [List.length_drop,List.length_take];rfl)) ?_;(refine (nz_isTable.calls _ _ l0_0 a0_1 true _ ?side1 ?side2 A2.out).mono ?_);(case side1=>exact kC HR0_0.out HB.out);(case side2=>exact HC0_0.out);rintro e w6 ⟨rfl,hb⟩;refine ⟨_,rfl,?_⟩;replace BK135:=(kmv hb BK135);replace HB:=am (below_step (HB.out) hb);(try clear hb);(try clear hb2);(try clear hk);(try clear hi)))
  go_ret
  exact ⟨by first | rfl | (simp [*]<;>rfl),HB.out⟩
 ·replace c3:=Bool.eq_false_iff.mpr c3
  subst c3
  replace H : (some 2) = some r:=by rw [if_neg (show ¬ (false = true) by decide)] at H;exact H
  obtain rfl:=Option.some.inj H
  go_enter Tryz.func103,Tryz.ntmps103
  go_wp2_with (first | ((refine gate_dst (N:=1) rfl ?_);refine box_event rfl (N:=1) rfl (cs:=#[.slice A0_0 l0_0.length c0_0,.int .i64 a0_1]) (t:=24) ?hr ?_;(case hr=>go_simp;try rfl);intro gb135 hg w7 hbox hb;have BK135:=am (hbox);have GW135:=am (ge_new (HB.out) hg);have GE135:=am (ge_new (HB.out) hg);replace HB:=am (below_step (HB.out) hb);clear hb hbox hg;obtain ⟨hcz8_0,hcz8_1⟩:=cO2 BK135.out) | ((with_reducible refine gate_callee (f:=127) rfl ?_);refine goesL_ (some 4) rfl rfl Tryz.func127 (by kernel_rfl) rfl #[.agg #[.slice A0_0 l0_0.length c0_0,.int .i64 a0_1]] rfl (by (try simp only [List.map_toArray,List.map_cons,List.map_nil]);first | done | rfl | (simp only [List.length_drop,List.length_take];rfl)) ?_;(refine (nz_isTable.calls _ _ l0_0 a0_1 false _ ?side1 ?side2 A2.out).mono ?_);(case side1=>exact kC HR0_0.out HB.out);(case side2=>exact HC0_0.out);rintro e w9 ⟨rfl,hb⟩;refine ⟨_,rfl,?_⟩;replace BK135:=(kmv hb BK135);replace HB:=am (below_step (HB.out) hb);(try clear hb);(try clear hb2);(try clear hk);(try clear hi)))
  go_ret
  exact ⟨by first | rfl | (simp [*]<;>rfl),HB.out⟩
def ca_in.f (a0 : Int) (a1 : Int) (a2 : Int) : Option (Bool):=if a0 ≥ a1 then (some (decide (a0≤a2))) else (some false)
theorem ca_in.calls (a0 : Int) (a1 : Int) (a2 : Int) (r : Bool) (w : World) (h : ca_in.f a0 a1 a2 = some r) :
 Calls Tryz.prog 79 #[.int .i64 a0,.int .i64 a1,.int .i64 a2] w fun e w'=>e = .returned (.bool r)∧Drawn0 w w':=by
 have H : (if a0 ≥ a1 then (some (decide (a0≤a2))) else (some false)) = some r:=h
 clear h
 by_cases c4 : a0 ≥ a1
 ·rw [if_pos c4] at H
  have c4b0 : decide (a1≤a0) = true:=decide_eq_true c4
  clear c4
  obtain rfl:=Option.some.inj H
  go_enter Tryz.func79,Tryz.ntmps79
  go_wp2
  go_ret
  exact ⟨by first | rfl | (simp;done) | (simp [*];done),by repeat (first | exact Drawn0.refl _ | apply Drawn0.step)⟩
 ·rw [if_neg c4] at H
  have c4b0 : decide (a1≤a0) = false:=decide_eq_false c4
  clear c4
  obtain rfl:=Option.some.inj H
  go_enter Tryz.func79,Tryz.ntmps79
  go_wp2
  go_ret
  exact ⟨by first | rfl | (simp;done) | (simp [*];done),by repeat (first | exact Drawn0.refl _ | apply Drawn0.step)⟩
def ca_isHeight.f (a0 : Int) : Option (Bool):=(ca_in.f a0 0 40).bind fun t130=>(some t130)
theorem ca_isHeight.calls (a0 : Int) (r : Bool) (w : World) (h : ca_isHeight.f a0 = some r) :
 Calls Tryz.prog 86 #[.int .i64 a0] w fun e w'=>e = .returned (.bool r)∧Drawn0 w w':=by
 have H : ((ca_in.f a0 0 40).bind fun t130=>(some t130)) = some r:=h
 clear h
 replace H:=obm H
 obtain ⟨t130,A20,H⟩:=H
 replace H : (some t130) = some r:=H
 have A2:=am A20
 clear A20
 obtain rfl:=Option.some.inj H
 go_enter Tryz.func86,Tryz.ntmps86
 go_wp2_with (first | ((with_reducible refine gate_callee (f:=79) rfl ?_);refine goesL_ (some 4) rfl rfl Tryz.func79 (by kernel_rfl) rfl #[.int .i64 a0,.int .i64 0,.int .i64 40] rfl (by (try simp only [List.map_toArray,List.map_cons,List.map_nil]);first | done | rfl | (simp only [List.length_drop,List.length_take];rfl)) ?_;(with_reducible refine (ca_in.calls a0 0 40 t130 _ A2.out).mono ?_);rintro e w' ⟨rfl,⟨nd,rfl⟩⟩;refine ⟨_,rfl,?_⟩))
 go_ret
 exact ⟨by first | rfl | (simp;done) | (simp [*];done),by repeat (first | exact Drawn0.refl _ | apply Drawn0.step)⟩
end
def ca_isBasin_1.f (l0_0 : List S126) (x : S48) : Option Bool:=(ca_in.f x.f0 0 (wrap64 ((l0_0.length : Int) - 1))).bind fun t=>if t = true then (ca_isHeight.f x.f1).bind fun u=>some (!u) else some true
theorem ca_isBasin_1.calls (g : Nat) (A0_0 : Option Addr) (c0_0 : Nat) (l0_0 : List S126) (a0_1 : Int) (A0_2 : Option Addr) (c0_2 : Nat) (l0_2 : List S48) (a0_3 a0_4 : Int) (x : S48) (r : Bool) (w : World) (hb : w.heap[g]? = some (.cells #[.slice A0_0 l0_0.length c0_0,.int .i64 a0_1,.slice A0_2 l0_2.length c0_2,.int .i64 a0_3,.int .i64 a0_4] 27 (0,0))) (h : ca_isBasin_1.f l0_0 x = some r) :
 Calls Tryz.prog 102 #[.agg #[.int .i64 x.f0,.int .i64 x.f1],.pointer (some ⟨g,0,none⟩)] w fun e w'=>e = .returned (.bool r)∧Below w.heap.size w w':=by
 have hu:=Tryz.underlying27
 have huz:=Tryz.underlying48
 have hut:=Tryz.underlying24
 have HB:=am (Below.refl w.heap.size w)
 have BKg:=am hb
 clear hb
 unfold ca_isBasin_1.f at h
 obtain ⟨t,ht,h⟩:=obm h
 have H1:=am ht
 clear ht
 cases t with
 | true =>
  rw [if_pos rfl] at h
  obtain ⟨u,hu2,h⟩:=obm h
  obtain rfl:=Option.some.inj h
  have H2:=am hu2
  clear hu2 h
  go_enter Tryz.func102,Tryz.ntmps102
  go_wp2_with (first | ((refine gate_dst (N:=2) rfl ?_);(try (refine gate_guard (by rfl) ?_;dsimp only));refine box_event rfl (N:=2) rfl (cs:=#[.int .i64 x.f0,.int .i64 x.f1]) (t:=48) ?hr ?_;(case hr=>go_simp;try rfl);intro q hg w2 hbox hb;replace HB:=(bmv HB hb);replace BKg:=(kmv hb BKg);clear hg;have BKq:=am hbox;clear hbox;(try clear hczg_0 hczg_1 hczg_2 hczg_3 hczg_4);obtain ⟨hczg_0,hczg_1,hczg_2,hczg_3,hczg_4⟩:=cO5 BKg.out;(try clear hczq_0 hczq_1);obtain ⟨hczq_0,hczq_1⟩:=cO2 BKq.out;clear hb) | (go_at_call 79;(with_reducible refine (ca_in.calls x.f0 0 (wrap64 ((l0_0.length : Int) - 1)) true _ H1.out).mono ?_);rintro e w1 ⟨rfl,hd⟩;have hb:=hd.below;clear hd;replace HB:=(bmv HB hb);replace BKg:=(kmv hb BKg);replace BKq:=(kmv hb BKq);(try clear hczg_0 hczg_1 hczg_2 hczg_3 hczg_4);obtain ⟨hczg_0,hczg_1,hczg_2,hczg_3,hczg_4⟩:=cO5 BKg.out;(try clear hczq_0 hczq_1);obtain ⟨hczq_0,hczq_1⟩:=cO2 BKq.out;clear hb) | (go_at_call 86;(with_reducible refine (ca_isHeight.calls x.f1 u _ H2.out).mono ?_);rintro e w1 ⟨rfl,hd⟩;have hb:=hd.below;clear hd;replace HB:=(bmv HB hb);replace BKg:=(kmv hb BKg);replace BKq:=(kmv hb BKq);(try clear hczg_0 hczg_1 hczg_2 hczg_3 hczg_4);obtain ⟨hczg_0,hczg_1,hczg_2,hczg_3,hczg_4⟩:=cO5 BKg.out;(try clear hczq_0 hczq_1);obtain ⟨hczq_0,hczq_1⟩:=cO2 BKq.out;clear hb))
  go_ret
  exact ⟨rfl,HB.out⟩
 | false =>
  rw [if_neg (by decide)] at h
  obtain rfl:=Option.some.inj h
  clear h
  go_enter Tryz.func102,Tryz.ntmps102
  go_wp2_with (first | ((refine gate_dst (N:=2) rfl ?_);(try (refine gate_guard (by rfl) ?_;dsimp only));refine box_event rfl (N:=2) rfl (cs:=#[.int .i64 x.f0,.int .i64 x.f1]) (t:=48) ?hr ?_;(case hr=>go_simp;try rfl);intro q hg w2 hbox hb;replace HB:=(bmv HB hb);replace BKg:=(kmv hb BKg);clear hg;have BKq:=am hbox;clear hbox;(try clear hczg_0 hczg_1 hczg_2 hczg_3 hczg_4);obtain ⟨hczg_0,hczg_1,hczg_2,hczg_3,hczg_4⟩:=cO5 BKg.out;(try clear hczq_0 hczq_1);obtain ⟨hczq_0,hczq_1⟩:=cO2 BKq.out;clear hb) | (go_at_call 79;(with_reducible refine (ca_in.calls x.f0 0 (wrap64 ((l0_0.length : Int) - 1)) false _ H1.out).mono ?_);rintro e w1 ⟨rfl,hd⟩;have hb:=hd.below;clear hd;replace HB:=(bmv HB hb);replace BKg:=(kmv hb BKg);replace BKq:=(kmv hb BKq);(try clear hczg_0 hczg_1 hczg_2 hczg_3 hczg_4);obtain ⟨hczg_0,hczg_1,hczg_2,hczg_3,hczg_4⟩:=cO5 BKg.out;(try clear hczq_0 hczq_1);obtain ⟨hczq_0,hczq_1⟩:=cO2 BKq.out;clear hb))
  go_ret
  exact ⟨rfl,HB.out⟩
def ca_isBasin.f (l0_0 : List S126) (a0_1 : Int) (l0_2 : List S48) (a0_3 a0_4 : Int) : Option Bool:=
 (nz_Check.f l0_0 a0_1).bind fun t1=>if t1 = 0 then (ca_in.f (l0_2.length : Int) 1 6).bind fun t2=>(if t2 = true then (ca_isHeight.f a0_3).bind fun t3=>(if t3 = true then (ca_in.f a0_4 0 100).bind fun t4=>(if t4 = true then (anyM (ca_isBasin_1.f l0_0) l0_2).bind fun u=>some (!u) else some false) else some false) else some false) else some false
theorem ca_isBasin.calls (A0_0 : Option Addr) (c0_0 : Nat) (l0_0 : List S126) (a0_1 : Int) (A0_2 : Option Addr) (c0_2 : Nat) (l0_2 : List S48) (a0_3 a0_4 : Int) (r : Bool) (w : World) (hr0_0 : Kd.C k126 w A0_0 l0_0.length l0_0) (hc0_0 : l0_0.length≤c0_0) (hr0_2 : Kd.C k48 w A0_2 l0_2.length l0_2) (hc0_2 : l0_2.length≤c0_2) (h : ca_isBasin.f l0_0 a0_1 l0_2 a0_3 a0_4 = some r) :
 Calls Tryz.prog 64 #[.agg #[.slice A0_0 l0_0.length c0_0,.int .i64 a0_1,.slice A0_2 l0_2.length c0_2,.int .i64 a0_3,.int .i64 a0_4]] w fun e w'=>e = .returned (.bool r)∧Below w.heap.size w w':=by
 have hu:=Tryz.underlying27
 have hut:=Tryz.underlying24
 have hm : l0_2.length≤9223372036854775807:=Kd.C_max hr0_2
 have HR:=am hr0_0
 have HC:=am hc0_0
 have HR2:=am hr0_2
 have HC2:=am hc0_2
 have HB:=am (Below.refl w.heap.size w)
 clear hr0_0 hc0_0 hr0_2 hc0_2
 unfold ca_isBasin.f at h
 obtain ⟨t1,ht,h⟩:=obm h
 have H1:=am ht
 clear ht
 by_cases h1 : t1 = 0
 case neg =>
  rw [if_neg h1] at h
  obtain rfl:=Option.some.inj h
  clear h
  have b1 : (t1 == 0) = false:=beq_eq_false_iff_ne.2 h1
  clear h1
  go_enter Tryz.func64,Tryz.ntmps64
  go_wp2_with (first | ((refine gate_dst (N:=1) rfl ?_);(try (refine gate_guard (by rfl) ?_;dsimp only));refine box_event rfl (N:=1) rfl (cs:=#[.slice A0_0 l0_0.length c0_0,.int .i64 a0_1,.slice A0_2 l0_2.length c0_2,.int .i64 a0_3,.int .i64 a0_4]) (t:=27) ?hr ?_;(case hr=>go_simp;try rfl);intro g hg w2 hbox hb;replace HR:=(cmv HR hb);replace HR2:=(cmv HR2 hb);replace HB:=(bmv HB hb);clear hg;have BKg:=am hbox;clear hbox;(try clear hczg_0 hczg_1 hczg_2 hczg_3 hczg_4);obtain ⟨hczg_0,hczg_1,hczg_2,hczg_3,hczg_4⟩:=cO5 BKg.out;clear hb) | (go_at_call 103;(with_reducible refine (nz_Check.calls A0_0 c0_0 l0_0 a0_1 t1 _ HR.out HC.out H1.out).mono ?_);rintro e w1 ⟨rfl,hb⟩;replace HR:=(cmv HR hb);replace HR2:=(cmv HR2 hb);replace HB:=(bmv HB hb);replace BKg:=(kmv hb BKg);(try clear hczg_0 hczg_1 hczg_2 hczg_3 hczg_4);obtain ⟨hczg_0,hczg_1,hczg_2,hczg_3,hczg_4⟩:=cO5 BKg.out;clear hb))
  go_ret
  exact ⟨rfl,HB.out⟩
 subst h1
 rw [if_pos rfl] at h
 obtain ⟨t2,ht,h⟩:=obm h
 have H2:=am ht
 clear ht
 cases t2 with
 | false =>
  rw [if_neg (by decide)] at h
  obtain rfl:=Option.some.inj h
  clear h
  go_enter Tryz.func64,Tryz.ntmps64
  go_wp2_with (first | ((refine gate_dst (N:=1) rfl ?_);(try (refine gate_guard (by rfl) ?_;dsimp only));refine box_event rfl (N:=1) rfl (cs:=#[.slice A0_0 l0_0.length c0_0,.int .i64 a0_1,.slice A0_2 l0_2.length c0_2,.int .i64 a0_3,.int .i64 a0_4]) (t:=27) ?hr ?_;(case hr=>go_simp;try rfl);intro g hg w2 hbox hb;replace HR:=(cmv HR hb);replace HR2:=(cmv HR2 hb);replace HB:=(bmv HB hb);clear hg;have BKg:=am hbox;clear hbox;(try clear hczg_0 hczg_1 hczg_2 hczg_3 hczg_4);obtain ⟨hczg_0,hczg_1,hczg_2,hczg_3,hczg_4⟩:=cO5 BKg.out;clear hb) | (go_at_call 103;(with_reducible refine (nz_Check.calls A0_0 c0_0 l0_0 a0_1 0 _ HR.out HC.out H1.out).mono ?_);rintro e w1 ⟨rfl,hb⟩;replace HR:=(cmv HR hb);replace HR2:=(cmv HR2 hb);replace HB:=(bmv HB hb);replace BKg:=(kmv hb BKg);(try clear hczg_0 hczg_1 hczg_2 hczg_3 hczg_4);obtain ⟨hczg_0,hczg_1,hczg_2,hczg_3,hczg_4⟩:=cO5 BKg.out;clear hb) | (go_at_call 79;(with_reducible refine (ca_in.calls (l0_2.length : Int) 1 6 false _ H2.out).mono ?_);rintro e w1 ⟨rfl,hd⟩;have hb:=hd.below;clear hd;replace HR:=(cmv HR hb);replace HR2:=(cmv HR2 hb);replace HB:=(bmv HB hb);replace BKg:=(kmv hb BKg);(try clear hczg_0 hczg_1 hczg_2 hczg_3 hczg_4);obtain ⟨hczg_0,hczg_1,hczg_2,hczg_3,hczg_4⟩:=cO5 BKg.out;clear hb))
  go_ret
  exact ⟨rfl,HB.out⟩
 | true =>
  rw [if_pos rfl] at h
  obtain ⟨t3,ht,h⟩:=obm h
  have H3:=am ht
  clear ht
  cases t3 with
  | false =>
   rw [if_neg (by decide)] at h
   obtain rfl:=Option.some.inj h
   clear h
   go_enter Tryz.func64,Tryz.ntmps64
   go_wp2_with (first | ((refine gate_dst (N:=1) rfl ?_);(try (refine gate_guard (by rfl) ?_;dsimp only));refine box_event rfl (N:=1) rfl (cs:=#[.slice A0_0 l0_0.length c0_0,.int .i64 a0_1,.slice A0_2 l0_2.length c0_2,.int .i64 a0_3,.int .i64 a0_4]) (t:=27) ?hr ?_;(case hr=>go_simp;try rfl);intro g hg w2 hbox hb;replace HR:=(cmv HR hb);replace HR2:=(cmv HR2 hb);replace HB:=(bmv HB hb);clear hg;have BKg:=am hbox;clear hbox;(try clear hczg_0 hczg_1 hczg_2 hczg_3 hczg_4);obtain ⟨hczg_0,hczg_1,hczg_2,hczg_3,hczg_4⟩:=cO5 BKg.out;clear hb) | (go_at_call 103;(with_reducible refine (nz_Check.calls A0_0 c0_0 l0_0 a0_1 0 _ HR.out HC.out H1.out).mono ?_);rintro e w1 ⟨rfl,hb⟩;replace HR:=(cmv HR hb);replace HR2:=(cmv HR2 hb);replace HB:=(bmv HB hb);replace BKg:=(kmv hb BKg);(try clear hczg_0 hczg_1 hczg_2 hczg_3 hczg_4);obtain ⟨hczg_0,hczg_1,hczg_2,hczg_3,hczg_4⟩:=cO5 BKg.out;clear hb) | (go_at_call 79;(with_reducible refine (ca_in.calls (l0_2.length : Int) 1 6 true _ H2.out).mono ?_);rintro e w1 ⟨rfl,hd⟩;have hb:=hd.below;clear hd;replace HR:=(cmv HR hb);replace HR2:=(cmv HR2 hb);replace HB:=(bmv HB hb);replace BKg:=(kmv hb BKg);(try clear hczg_0 hczg_1 hczg_2 hczg_3 hczg_4);obtain ⟨hczg_0,hczg_1,hczg_2,hczg_3,hczg_4⟩:=cO5 BKg.out;clear hb) | (go_at_call 86;(with_reducible refine (ca_isHeight.calls a0_3 false _ H3.out).mono ?_);rintro e w1 ⟨rfl,hd⟩;have hb:=hd.below;clear hd;replace HR:=(cmv HR hb);replace HR2:=(cmv HR2 hb);replace HB:=(bmv HB hb);replace BKg:=(kmv hb BKg);(try clear hczg_0 hczg_1 hczg_2 hczg_3 hczg_4);obtain ⟨hczg_0,hczg_1,hczg_2,hczg_3,hczg_4⟩:=cO5 BKg.out;clear hb))
   go_ret
   exact ⟨rfl,HB.out⟩
  | true =>
   rw [if_pos rfl] at h
   obtain ⟨t4,ht,h⟩:=obm h
   have H4:=am ht
   clear ht
   cases t4 with
   | false =>
    rw [if_neg (by decide)] at h
    obtain rfl:=Option.some.inj h
    clear h
    go_enter Tryz.func64,Tryz.ntmps64
    go_wp2_with (first | ((refine gate_dst (N:=1) rfl ?_);(try (refine gate_guard (by rfl) ?_;dsimp only));refine box_event rfl (N:=1) rfl (cs:=#[.slice A0_0 l0_0.length c0_0,.int .i64 a0_1,.slice A0_2 l0_2.length c0_2,.int .i64 a0_3,.int .i64 a0_4]) (t:=27) ?hr ?_;(case hr=>go_simp;try rfl);intro g hg w2 hbox hb;replace HR:=(cmv HR hb);replace HR2:=(cmv HR2 hb);replace HB:=(bmv HB hb);clear hg;have BKg:=am hbox;clear hbox;(try clear hczg_0 hczg_1 hczg_2 hczg_3 hczg_4);obtain ⟨hczg_0,hczg_1,hczg_2,hczg_3,hczg_4⟩:=cO5 BKg.out;clear hb) | (go_at_call 103;(with_reducible refine (nz_Check.calls A0_0 c0_0 l0_0 a0_1 0 _ HR.out HC.out H1.out).mono ?_);rintro e w1 ⟨rfl,hb⟩;replace HR:=(cmv HR hb);replace HR2:=(cmv HR2 hb);replace HB:=(bmv HB hb);replace BKg:=(kmv hb BKg);(try clear hczg_0 hczg_1 hczg_2 hczg_3 hczg_4);obtain ⟨hczg_0,hczg_1,hczg_2,hczg_3,hczg_4⟩:=cO5 BKg.out;clear hb) | (go_at_call 79;(with_reducible refine (ca_in.calls (l0_2.length : Int) 1 6 true _ H2.out).mono ?_);rintro e w1 ⟨rfl,hd⟩;have hb:=hd.below;clear hd;replace HR:=(cmv HR hb);replace HR2:=(cmv HR2 hb);replace HB:=(bmv HB hb);replace BKg:=(kmv hb BKg);(try clear hczg_0 hczg_1 hczg_2 hczg_3 hczg_4);obtain ⟨hczg_0,hczg_1,hczg_2,hczg_3,hczg_4⟩:=cO5 BKg.out;clear hb) | (go_at_call 86;(with_reducible refine (ca_isHeight.calls a0_3 true _ H3.out).mono ?_);rintro e w1 ⟨rfl,hd⟩;have hb:=hd.below;clear hd;replace HR:=(cmv HR hb);replace HR2:=(cmv HR2 hb);replace HB:=(bmv HB hb);replace BKg:=(kmv hb BKg);(try clear hczg_0 hczg_1 hczg_2 hczg_3 hczg_4);obtain ⟨hczg_0,hczg_1,hczg_2,hczg_3,hczg_4⟩:=cO5 BKg.out;clear hb) | (go_at_call 79;(with_reducible refine (ca_in.calls a0_4 0 100 false _ H4.out).mono ?_);rintro e w1 ⟨rfl,hd⟩;have hb:=hd.below;clear hd;replace HR:=(cmv HR hb);replace HR2:=(cmv HR2 hb);replace HB:=(bmv HB hb);replace BKg:=(kmv hb BKg);(try clear hczg_0 hczg_1 hczg_2 hczg_3 hczg_4);obtain ⟨hczg_0,hczg_1,hczg_2,hczg_3,hczg_4⟩:=cO5 BKg.out;clear hb))
    go_ret
    exact ⟨rfl,HB.out⟩
   | true =>
    rw [if_pos rfl] at h
    obtain ⟨u,ht,h⟩:=obm h
    obtain rfl:=Option.some.inj h
    have H5:=am ht
    clear ht h
    go_enter Tryz.func64,Tryz.ntmps64
    go_wp2_with (first | ((refine gate_dst (N:=1) rfl ?_);(try (refine gate_guard (by rfl) ?_;dsimp only));refine box_event rfl (N:=1) rfl (cs:=#[.slice A0_0 l0_0.length c0_0,.int .i64 a0_1,.slice A0_2 l0_2.length c0_2,.int .i64 a0_3,.int .i64 a0_4]) (t:=27) ?hr ?_;(case hr=>go_simp;try rfl);intro g hg w2 hbox hb;replace HR:=(cmv HR hb);replace HR2:=(cmv HR2 hb);replace HB:=(bmv HB hb);clear hg;have BKg:=am hbox;clear hbox;(try clear hczg_0 hczg_1 hczg_2 hczg_3 hczg_4);obtain ⟨hczg_0,hczg_1,hczg_2,hczg_3,hczg_4⟩:=cO5 BKg.out;clear hb) | (go_at_call 103;(with_reducible refine (nz_Check.calls A0_0 c0_0 l0_0 a0_1 0 _ HR.out HC.out H1.out).mono ?_);rintro e w1 ⟨rfl,hb⟩;replace HR:=(cmv HR hb);replace HR2:=(cmv HR2 hb);replace HB:=(bmv HB hb);replace BKg:=(kmv hb BKg);(try clear hczg_0 hczg_1 hczg_2 hczg_3 hczg_4);obtain ⟨hczg_0,hczg_1,hczg_2,hczg_3,hczg_4⟩:=cO5 BKg.out;clear hb) | (go_at_call 79;(with_reducible refine (ca_in.calls (l0_2.length : Int) 1 6 true _ H2.out).mono ?_);rintro e w1 ⟨rfl,hd⟩;have hb:=hd.below;clear hd;replace HR:=(cmv HR hb);replace HR2:=(cmv HR2 hb);replace HB:=(bmv HB hb);replace BKg:=(kmv hb BKg);(try clear hczg_0 hczg_1 hczg_2 hczg_3 hczg_4);obtain ⟨hczg_0,hczg_1,hczg_2,hczg_3,hczg_4⟩:=cO5 BKg.out;clear hb) | (go_at_call 86;(with_reducible refine (ca_isHeight.calls a0_3 true _ H3.out).mono ?_);rintro e w1 ⟨rfl,hd⟩;have hb:=hd.below;clear hd;replace HR:=(cmv HR hb);replace HR2:=(cmv HR2 hb);replace HB:=(bmv HB hb);replace BKg:=(kmv hb BKg);(try clear hczg_0 hczg_1 hczg_2 hczg_3 hczg_4);obtain ⟨hczg_0,hczg_1,hczg_2,hczg_3,hczg_4⟩:=cO5 BKg.out;clear hb) | (go_at_call 79;(with_reducible refine (ca_in.calls a0_4 0 100 true _ H4.out).mono ?_);rintro e w1 ⟨rfl,hd⟩;have hb:=hd.below;clear hd;replace HR:=(cmv HR hb);replace HR2:=(cmv HR2 hb);replace HB:=(bmv HB hb);replace BKg:=(kmv hb BKg);(try clear hczg_0 hczg_1 hczg_2 hczg_3 hczg_4);obtain ⟨hczg_0,hczg_1,hczg_2,hczg_3,hczg_4⟩:=cO5 BKg.out;clear hb) | (go_at_call 104;refine (any_isBasin g (ca_isBasin_1.f l0_0) A0_2 c0_2 l0_2 u _ HR2.out (fun x b W hx hq hb=>ca_isBasin_1.calls g A0_0 c0_0 l0_0 a0_1 A0_2 c0_2 l0_2 a0_3 a0_4 x b W (blk_below BKg.out hb) hq) H5.out).mono ?_;rintro e w1 ⟨rfl,hb⟩;replace HR:=(cmv HR hb);replace HR2:=(cmv HR2 hb);replace HB:=(bmv HB hb);replace BKg:=(kmv hb BKg);(try clear hczg_0 hczg_1 hczg_2 hczg_3 hczg_4);obtain ⟨hczg_0,hczg_1,hczg_2,hczg_3,hczg_4⟩:=cO5 BKg.out;clear hb))
    go_ret
    exact ⟨rfl,HB.out⟩
section
attribute [local go_sem] max2_int min2_int max_two min_two
def ca_isChain_1.f (l0_0 : List (S126)) (a0_1 : Int) (l0_2 : List (S48)) (a0_3 : Int) (a0_4 : Int) : Option (Bool):=(ca_isBasin.f l0_0 a0_1 l0_2 a0_3 a0_4).bind fun t1079=>(some (!t1079))
theorem ca_isChain_1.calls (A0_0 : Option Addr) (c0_0 : Nat) (l0_0 : List (S126)) (a0_1 : Int) (A0_2 : Option Addr) (c0_2 : Nat) (l0_2 : List (S48)) (a0_3 : Int) (a0_4 : Int) (r : Bool) (w : World) (hr0_0 : Kd.C k126 w A0_0 l0_0.length l0_0) (hc0_0 : l0_0.length≤c0_0) (hr0_2 : Kd.C k48 w A0_2 l0_2.length l0_2) (hc0_2 : l0_2.length≤c0_2) (h : ca_isChain_1.f l0_0 a0_1 l0_2 a0_3 a0_4 = some r) :
 Calls Tryz.prog 117 #[.agg #[.slice A0_0 l0_0.length c0_0,.int .i64 a0_1,.slice A0_2 l0_2.length c0_2,.int .i64 a0_3,.int .i64 a0_4]] w fun e w'=>e = .returned (.bool r)∧Below w.heap.size w w':=by
 have hu27:=Tryz.underlying27
 have HR0_0:=am hr0_0
 have HC0_0:=am hc0_0
 clear hr0_0 hc0_0
 have HR0_2:=am hr0_2
 have HC0_2:=am hc0_2
 clear hr0_2 hc0_2
 have HB:=am (Below.refl w.heap.size w)
 have H : ((ca_isBasin.f l0_0 a0_1 l0_2 a0_3 a0_4).bind fun t1079=>(some (!t1079))) = some r:=h
 clear h
 replace H:=obm H
 obtain ⟨t1079,A20,H⟩:=H
 replace H : (some (!t1079)) = some r:=H
 have A2:=am A20
 clear A20
 obtain rfl:=Option.some.inj H
 go_enter Tryz.func117,Tryz.ntmps117
 go_wp2_with (first | ((refine gate_dst (N:=1) rfl ?_);refine box_event rfl (N:=1) rfl (cs:=#[.slice A0_0 l0_0.length c0_0,.int .i64 a0_1,.slice A0_2 l0_2.length c0_2,.int .i64 a0_3,.int .i64 a0_4]) (t:=27) ?hr ?_;(case hr=>go_simp;try rfl);intro gb1078 hg w3 hbox hb;have BK1078:=am (hbox);have GW1078:=am (ge_new (HB.out) hg);have GE1078:=am (ge_new (HB.out) hg);replace HB:=am (below_step (HB.out) hb);clear hb hbox hg;obtain ⟨hcz4_0,hcz4_1,hcz4_2,hcz4_3,hcz4_4⟩:=cO5 BK1078.out) | ((with_reducible refine gate_callee (f:=64) rfl ?_);refine goesL_ (some 4) rfl rfl Tryz.func64 (by kernel_rfl) rfl #[.agg #[.slice A0_0 l0_0.length c0_0,.int .i64 a0_1,.slice A0_2 l0_2.length c0_2,.int .i64 a0_3,.int .i64 a0_4]] rfl (by (try simp only [List.map_toArray,List.map_cons,List.map_nil]);first | done | rfl | (simp only [List.length_drop,List.length_take];rfl)) ?_;(with_reducible refine (ca_isBasin.calls _ _ l0_0 a0_1 _ _ l0_2 a0_3 a0_4 t1079 _ ?side1 ?side2 ?side3 ?side4 A2.out).mono ?_);(case side1=>exact kC HR0_0.out HB.out);(case side2=>exact HC0_0.out);(case side3=>exact kC HR0_2.out HB.out);(case side4=>exact HC0_2.out);rintro e w5 ⟨rfl,hb⟩;refine ⟨_,rfl,?_⟩;replace BK1078:=(kmv hb BK1078);replace HB:=am (below_step (HB.out) hb);(try clear hb);(try clear hb2);(try clear hk);(try clear hi)))
 go_ret
 exact ⟨by first | rfl | (simp [*]<;>rfl),HB.out⟩
end
def Pred_isChain (q : S27→Option Bool) (w : World) (xs : List S27) : Prop:=∀ (x : S27) (b : Bool) (W : World) (A0 : Option Addr) (c0 : Nat) (A2 : Option Addr) (c2 : Nat) ,x ∈ xs→q x = some b→Below w.heap.size w W→k126.C W A0 x.f0.f0.length x.f0.f0→x.f0.f0.length≤c0→k48.C W A2 x.f1.length x.f1→x.f1.length≤c2→
 Calls Tryz.prog 117 #[.agg #[.slice A0 x.f0.f0.length c0,.int .i64 x.f0.f1,.slice A2 x.f1.length c2,.int .i64 x.f2,.int .i64 x.f3]] W fun e W'=>e = .returned (.bool b)∧Below W.heap.size W W'
theorem idx_isChain (q : S27→Option Bool) (A : Option Addr) (c : Nat) (xs : List S27) (r : Int) (w : World) (hr : Kd.C k27 w A xs.length xs) (hp : Pred_isChain q w xs) (h : idxM q xs 0 = some r) :
 Calls Tryz.prog 132 #[.slice A xs.length c,.func (.func 117) #[] #[]] w fun e w'=>e = .returned (.int .i64 r)∧Below w.heap.size w w':=by
 have huE:=Tryz.underlying27
 have HR:=am hr
 have HP:=am hp
 have HQ:=am (show idxM q (xs.drop (0 : Int).toNat) 0 = some r from h)
 have hm : xs.length≤9223372036854775807:=Kd.C_max hr
 clear hr hp h
 go_enter Tryz.func132,Tryz.ntmps132
 go_wp2
 go_loopw [5,8] (fun v5 v8 w'=>∃ i : Int,0≤i∧i≤xs.length∧v8 = .int .i64 i∧Aside0 (idxM q (xs.drop i.toNat) i = some r)∧Aside0 (Below w.heap.size w w')) (fun _ v8 _=>xs.length - (intOf v8).toNat)
 case atStart=>exact ⟨0,by omega,by omega,rfl,HQ,⟨Below.refl _ _⟩⟩
 case round =>
  clear HQ
  obtain ⟨i,p1,hi,rfl,HQ,HB⟩:=hrel
  by_cases hlt : i < (xs.length : Int)
  case neg =>
   go_wp2
   go_ret
   exact ⟨ret_int_eq (idxM_end (by omega) HQ.out),HB.out⟩
  obtain ⟨ad,A0,c0,A2,c2,e1,hx0,hx1,hx2,hx3,hx4,hl0,hC0,hl2,hC2⟩:=at_T27 HR.out i p1 hlt
  cases e1
  replace hx0:=(HB.out.cell (wbl hx0)).trans hx0
  replace hx1:=(HB.out.cell (wbl hx1)).trans hx1
  replace hx2:=(HB.out.cell (wbl hx2)).trans hx2
  replace hx3:=(HB.out.cell (wbl hx3)).trans hx3
  replace hx4:=(HB.out.cell (wbl hx4)).trans hx4
  rcases idxM_step z27 p1 hlt HQ.out with ⟨hq,he⟩ | ⟨hq,hn⟩
  ·have H1:=am hq
   have X1:=am (getD_mem z27 p1 hlt)
   have H2:=am he
   clear hq he
   go_wp2_with (go_at_call 117;refine (HP.out (xs.getD i.toNat z27) _ _ _ _ _ _ X1.out H1.out HB.out (kC hC0 HB.out) hl0 (kC hC2 HB.out) hl2).mono ?_;rintro e W' ⟨rfl,hb⟩)
   go_ret
   exact ⟨ret_int_eq H2.out,below_then HB.out HB.out.size hb⟩
  ·have H1:=am hq
   have X1:=am (getD_mem z27 p1 hlt)
   have H2:=am hn
   clear hq hn
   go_wp2_with (go_at_call 117;refine (HP.out (xs.getD i.toNat z27) _ _ _ _ _ _ X1.out H1.out HB.out (kC hC0 HB.out) hl0 (kC hC2 HB.out) hl2).mono ?_;rintro e W' ⟨rfl,hb⟩)
   go_roundw
   case rel=>exact ⟨i + 1,by omega,by omega,by go_num,H2,⟨below_then HB.out HB.out.size hb⟩⟩
   case measure=>simp [intOf];omega
theorem any_isChain (q : S27→Option Bool) (A : Option Addr) (c : Nat) (xs : List S27) (r : Bool) (w : World) (hr : Kd.C k27 w A xs.length xs) (hp : Pred_isChain q w xs) (h : anyM q xs = some r) :
 Calls Tryz.prog 116 #[.slice A xs.length c,.func (.func 117) #[] #[]] w fun e w'=>e = .returned (.bool r)∧Below w.heap.size w w':=by
 obtain ⟨j,hj,hd⟩:=idxM_of_anyM q xs 0 r (by omega) h
 have H1:=am hj
 have H2:=am hd
 have HR:=am hr
 have HP:=am hp
 clear hr hp h hj hd
 go_enter Tryz.func116,Tryz.ntmps116
 go_wp2_with (go_at_call 132;refine (idx_isChain q _ _ xs j _ HR.out HP.out H1.out).mono ?_;rintro e W' ⟨rfl,hb⟩)
 go_ret
 exact ⟨ret_bool_eq H2.out,hb⟩
def cf_isChain.f (l0 : List S27) : Option Bool:=anyM (fun x=>ca_isChain_1.f x.f0.f0 x.f0.f1 x.f1 x.f2 x.f3) l0
theorem cf_isChain.calls (A0 : Option Addr) (c0 : Nat) (l0 : List S27) (r : Bool) (w : World) (hr0 : Kd.C k27 w A0 l0.length l0) (hc0 : l0.length≤c0) (h : cf_isChain.f l0 = some r) :
 Calls Tryz.prog 116 #[.slice A0 l0.length c0,.func (.func 117) #[] #[]] w fun e w'=>e = .returned (.bool r)∧Below w.heap.size w w':=
 any_isChain (fun x=>ca_isChain_1.f x.f0.f0 x.f0.f1 x.f1 x.f2 x.f3) A0 c0 l0 r w hr0 (fun x b W A0 c0 A2 c2 hx hq hb h0 h1 h2 h3=>(ca_isChain_1.calls _ _ _ _ _ _ _ _ _ b W h0 h1 h2 h3 hq).mono fun e W' ⟨he,hd⟩=>⟨he,hd⟩) h
end Go.Proofs.YtnnmnhpeblhiiaaGreatDoor.C

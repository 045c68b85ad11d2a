/- A part of the proof: the walks of the functions that it reaches. TIGHT. -/
import Derived.Test.YtnnmnhpeblhiiaaGreatDoorMS6
set_option linter.unusedSimpArgs false
set_option linter.unusedVariables false
namespace Go.Proofs.YtnnmnhpeblhiiaaGreatDoor.C
open Go.RowKit Go.Proofs.YtnnmnhpeblhiiaaGreatDoorW.PrintWords Go.Proofs.YtnnmnhpeblhiiaaGreatDoorW.PrintLast Go.Proofs.YtnnmnhpeblhiiaaGreatDoorW.PrintMore
set_option maxHeartbeats 16000000
set_option maxRecDepth 100000
section
attribute [local go_sem] zwg zwf zwm zwl
attribute [local go_sem high] eqA66
mutual
def q4_Chain.l0 : Nat→Int→List (S27)→List (S66)→Option (Bool)
 | 0,_,_,_=>none
 | k + 1,x3,x664000,x664001=>if x3 < (x664000.length : Int) then (if 0≤x3 then ((q4_Basin.f k ((zqo x664000 x3).f0.f0) ((zqo x664000 x3).f0.f1) ((zqo x664000 x3).f1) ((zqo x664000 x3).f2) ((zqo x664000 x3).f3)).bind fun t665=>(if t665 = true then (q4_Chain.l0 k (wrap64 (x3 + 1)) x664000 x664001) else (some false))) else (none)) else ((q4_in.f (x664000.length : Int) 1 4).bind fun t666=>(if t666 = true then (q4_Chain.j1 k ((x664001.length : Int) != (wrap64 ((x664000.length : Int) - 1))) x664000 x664001) else (q4_Chain.j1 k true x664000 x664001)))
def q4_Chain.j1 : Nat→Bool→List (S27)→List (S66)→Option (Bool)
 | 0,_,_,_=>none
 | k + 1,x35,x664000,x664001=>if x35 = true then (some false) else (q4_Chain.l1 k 0 x664000 x664001)
def q4_Chain.l1 : Nat→Int→List (S27)→List (S66)→Option (Bool)
 | 0,_,_,_=>none
 | k + 1,x4,x664000,x664001=>if x4 < (x664001.length : Int) then (if 0≤x4 then ((q4_in.f ((zqc x664001 x4).f0) 0 x4).bind fun t669=>(if t669 = true then (if 0≤((zqc x664001 x4).f0) then (if ((zqc x664001 x4).f0) < (x664000.length : Int) then ((q4_in.f ((zqc x664001 x4).f1) (-1) (wrap64 ((((zqo x664000 ((zqc x664001 x4).f0)).f1).length : Int) - 1))).bind fun t671=>(q4_Chain.j3 k x4 (!t671) x664000 x664001 ((zqc x664001 x4).f0) ((zqc x664001 x4).f1))) else (none)) else (none)) else (q4_Chain.j3 k x4 true x664000 x664001 ((zqc x664001 x4).f0) ((zqc x664001 x4).f1)))) else (none)) else (some true)
def q4_Chain.j3 : Nat→Int→Bool→List (S27)→List (S66)→Int→Int→Option (Bool)
 | 0,_,_,_,_,_,_=>none
 | k + 1,x4,x67,x664000,x664001,x669000,x669001=>if x67 = true then (some false) else (q4_Chain.l2 k x4 0 x664000 x664001 x669000 x669001)
def q4_Chain.l2 : Nat→Int→Int→List (S27)→List (S66)→Int→Int→Option (Bool)
 | 0,_,_,_,_,_,_=>none
 | k + 1,x4,x6,x664000,x664001,x669000,x669001=>if x6 < x4 then (if 0≤x6 then (if x6 < (x664001.length : Int) then (if (((zqc x664001 x6).f0) == x669000 && (((zqc x664001 x6).f1) == x669001)) = true then (some false) else (q4_Chain.l2 k x4 (wrap64 (x6 + 1)) x664000 x664001 x669000 x669001)) else (none)) else (none)) else (q4_Chain.l1 k (wrap64 (x4 + 1)) x664000 x664001)
end
def q4_Chain.f (k : Nat) (lA : List (S27)) (lC : List (S66)) : Option (Bool):=q4_Chain.l0 k 0 lA lC
theorem in_wr {a b c : Int} {r : Bool} (h : q4_in.f a b (wrap64 c) = some r) : q4_in.f a b (IntKind.i64.wrap c) = some r:=by rw [i64_w];exact h
theorem q4_Chain.calls (k : Nat) (AX : Option Addr) (c0_0 : Nat) (lA : List (S27)) (AZ : Option Addr) (cC : Nat) (lC : List (S66)) (r : Bool) (w : World) (hra : Kd.C k27 w AX lA.length lA) (hc0_0 : lA.length≤c0_0) (hr0_1 : Kd.C k66 w AZ lC.length lC) (hc0_1 : lC.length≤cC) (h : q4_Chain.f k lA lC = some r) :
 Calls Tryz.prog 31 #[.agg #[.slice AX lA.length c0_0,.slice AZ lC.length cC]] w fun e w'=>e = .returned (.bool r)∧Below w.heap.size w w':=by
 have hu59:=Tryz.underlying59
 have hu27:=Tryz.underlying27
 have hu66:=Tryz.underlying66
 have HRA:=am hra
 have HCA:=am hc0_0
 clear hra hc0_0
 have HRC:=am hr0_1
 have HCC:=am hc0_1
 clear hr0_1 hc0_1
 have HB:=am (Below.refl w.heap.size w)
 have H : (q4_Chain.l0 k 0 lA lC) = some r:=h
 clear h
 replace H':=am H
 go_enter Tryz.func31,Tryz.ntmps31
 go_wp2_with (first | ((refine zqm (N:=1) rfl ?_);(try (refine zqs (by rfl) ?_;dsimp only));refine zqk rfl (N:=1) rfl (cs:=#[.slice AX lA.length c0_0,.slice AZ lC.length cC]) (t:=59) ?hr ?_;(case hr=>go_simp;try rfl);intro gb663 hg w2 hbox hb;have BK663:=am (hbox);have GW663:=am (zqr (HB.out) hg);have GE663:=am (zqr (HB.out) hg);replace HB:=am (zqh (HB.out) hb);clear hb hbox hg))
 repeat (go_quiet (first | ((refine zqm (N:=1) rfl ?_);(try (refine zqs (by rfl) ?_;dsimp only));refine zqk rfl (N:=1) rfl (cs:=#[.slice AX lA.length c0_0,.slice AZ lC.length cC]) (t:=59) ?hr ?_;(case hr=>go_simp;try rfl);intro gb663 hg w2 hbox hb;have BK663:=am (hbox);have GW663:=am (zqr (by repeat (first | (with_reducible first | exact HB.out | apply zqf | apply zqa) | exact HB.out)) hg);have GE663:=am (zqr (by repeat (first | (with_reducible first | exact HB.out | apply zqf | apply zqa) | exact HB.out)) hg);replace HB:=am (zqh (by repeat (first | (with_reducible first | exact HB.out | apply zqf | apply zqa) | exact HB.out)) hb);clear hb hbox hg));try go_wp2_with (first | ((refine zqm (N:=1) rfl ?_);(try (refine zqs (by rfl) ?_;dsimp only));refine zqk rfl (N:=1) rfl (cs:=#[.slice AX lA.length c0_0,.slice AZ lC.length cC]) (t:=59) ?hr ?_;(case hr=>go_simp;try rfl);intro gb663 hg w2 hbox hb;have BK663:=am (hbox);have GW663:=am (zqr (by repeat (first | (with_reducible first | exact HB.out | apply zqf | apply zqa) | exact HB.out)) hg);have GE663:=am (zqr (by repeat (first | (with_reducible first | exact HB.out | apply zqf | apply zqa) | exact HB.out)) hg);replace HB:=am (zqh (by repeat (first | (with_reducible first | exact HB.out | apply zqf | apply zqa) | exact HB.out)) hb);clear hb hbox hg)))
 go_loopg [3] k (fun kq v3 w'=>∃ (x3_1 : Int),v3 = .int .i64 x3_1∧zqg (q4_Chain.l0 kq x3_1 lA lC = some r)∧zqg (kq≤k)∧zqg (w'.heap[gb663]? = some (.cells #[(.slice AX lA.length c0_0),(.slice AZ lC.length cC)] 59 (0,0)))∧zqg (Below w.heap.size w w'))
 case atStart=>exact ⟨(0),(by first | rfl | (simp;done) | (simp [*];done)),H',⟨Nat.le_refl _⟩,⟨BK663.out⟩,⟨HB.out⟩⟩
 case round =>
  clear H'
  obtain ⟨x3_1,rfl,HA,HK1,BK663,HB⟩:=hrel
  cases gk with
  | zero=>exact absurd HA.out (by simp [q4_Chain.l0])
  | succ k1 =>
   have H:=HA.out
   clear HA
   simp only [q4_Chain.l0] at H
   by_cases c3 : x3_1 < (lA.length : Int)
   ·rw [if_pos c3] at H
    have c3b0 : decide (x3_1 < (lA.length : Int)) = true:=decide_eq_true c3
    clear c3
    by_cases c4 : 0≤x3_1
    case neg =>
     rw [if_neg c4] at H
     exact absurd H (by simp)
    rw [if_pos c4] at H
    have c4b0 : decide (0≤x3_1) = true:=decide_eq_true c4
    clear c4
    replace H:=obm H
    obtain ⟨t665,A50,H⟩:=H
    replace H : (if t665 = true then (q4_Chain.l0 k1 (wrap64 (x3_1 + 1)) lA lC) else (some false)) = some r:=H
    have A5:=am A50
    clear A50
    by_cases c6 : t665 = true
    ·subst c6
     replace H : (q4_Chain.l0 k1 (wrap64 (x3_1 + 1)) lA lC) = some r:=by rw [if_pos rfl] at H;exact H
     replace H':=am H
     obtain ⟨hcz7_0,hcz7_1⟩:=cO2 BK663.out
     have p664 : 0≤(x3_1 : Int):=of_decide_eq_true (by assumption)
     have q664 : x3_1 < (lA.length : Int):=of_decide_eq_true (by assumption)
     obtain ⟨ad664,A664_0,c664_0,A664_2,c664_2,e664,hx664_0,hx664_1,hx664_2,hx664_3,hx664_4,hl664_0,hi664_0,hl664_2,hi664_2⟩:=zvf HRA.out x3_1 p664 q664
     cases e664
     replace hx664_0:=(HB.out.cell (wbl hx664_0)).trans hx664_0
     replace hx664_1:=(HB.out.cell (wbl hx664_1)).trans hx664_1
     replace hx664_2:=(HB.out.cell (wbl hx664_2)).trans hx664_2
     replace hx664_3:=(HB.out.cell (wbl hx664_3)).trans hx664_3
     replace hx664_4:=(HB.out.cell (wbl hx664_4)).trans hx664_4
     have HR664_0:=am hi664_0
     have HC664_0:=am hl664_0
     clear hi664_0 hl664_0
     have HR664_2:=am hi664_2
     have HC664_2:=am hl664_2
     clear hi664_2 hl664_2
     replace p664:=eq_true p664
     replace q664:=eq_true q664
     go_wp2_with (first | (go_at_call 15;(with_reducible refine (q4_Basin.calls k1 _ _ ((zqo lA x3_1).f0.f0) ((zqo lA x3_1).f0.f1) _ _ ((zqo lA x3_1).f1) ((zqo lA x3_1).f2) ((zqo lA x3_1).f3) true _ ?side1 ?side2 ?side3 ?side4 A5.out).mono ?_);(case side1=>exact kC HR664_0.out HB.out);(case side2=>exact HC664_0.out);(case side3=>exact kC HR664_2.out HB.out);(case side4=>exact HC664_2.out);rintro e w8 ⟨rfl,hb⟩;replace BK663:=(kmv hb BK663);replace HB:=am (zqh (HB.out) hb);(try clear hb);(try clear hb2);(try clear hk);(try clear hi)))
     repeat (go_quiet (first | (go_at_call 15;(with_reducible refine (q4_Basin.calls k1 _ _ ((zqo lA x3_1).f0.f0) ((zqo lA x3_1).f0.f1) _ _ ((zqo lA x3_1).f1) ((zqo lA x3_1).f2) ((zqo lA x3_1).f3) true _ ?side1 ?side2 ?side3 ?side4 A5.out).mono ?_);(case side1=>repeat (first | exact (kC HR664_0.out HB.out) | (with_reducible refine Kd.C_alloc ?_ _) | (with_reducible refine Kd.C_drewN ?_ _) | (with_reducible refine Kd.C_drew ?_)));(case side2=>exact HC664_0.out);(case side3=>repeat (first | exact (kC HR664_2.out HB.out) | (with_reducible refine Kd.C_alloc ?_ _) | (with_reducible refine Kd.C_drewN ?_ _) | (with_reducible refine Kd.C_drew ?_)));(case side4=>exact HC664_2.out);rintro e w8 ⟨rfl,hb⟩;replace BK663:=(kmv hb BK663);replace HB:=am (zqh (by repeat (first | (with_reducible first | exact HB.out | refine zqd ?_ GE663.out | apply zqf | apply zqa) | exact HB.out)) hb);(try clear hb);(try clear hb2);(try clear hk);(try clear hi)));try go_wp2_with (first | (go_at_call 15;(with_reducible refine (q4_Basin.calls k1 _ _ ((zqo lA x3_1).f0.f0) ((zqo lA x3_1).f0.f1) _ _ ((zqo lA x3_1).f1) ((zqo lA x3_1).f2) ((zqo lA x3_1).f3) true _ ?side1 ?side2 ?side3 ?side4 A5.out).mono ?_);(case side1=>repeat (first | exact (kC HR664_0.out HB.out) | (with_reducible refine Kd.C_alloc ?_ _) | (with_reducible refine Kd.C_drewN ?_ _) | (with_reducible refine Kd.C_drew ?_)));(case side2=>exact HC664_0.out);(case side3=>repeat (first | exact (kC HR664_2.out HB.out) | (with_reducible refine Kd.C_alloc ?_ _) | (with_reducible refine Kd.C_drewN ?_ _) | (with_reducible refine Kd.C_drew ?_)));(case side4=>exact HC664_2.out);rintro e w8 ⟨rfl,hb⟩;replace BK663:=(kmv hb BK663);replace HB:=am (zqh (by repeat (first | (with_reducible first | exact HB.out | refine zqd ?_ GE663.out | apply zqf | apply zqa) | exact HB.out)) hb);(try clear hb);(try clear hb2);(try clear hk);(try clear hi))))
     go_roundg k1
     case measure=>have:=HK1.out;omega
     case rel=>exact ⟨(wrap64 (x3_1 + 1)),(by first | rfl | (simp;done) | (simp [*];done)),H',⟨by have:=HK1.out;omega⟩,⟨BK663.out⟩,⟨HB.out⟩⟩
    ·replace c6:=Bool.eq_false_iff.mpr c6
     subst c6
     replace H : (some false) = some r:=by rw [if_neg (show ¬ (false = true) by decide)] at H;exact H
     obtain rfl:=Option.some.inj H
     obtain ⟨hcz9_0,hcz9_1⟩:=cO2 BK663.out
     have p664 : 0≤(x3_1 : Int):=of_decide_eq_true (by assumption)
     have q664 : x3_1 < (lA.length : Int):=of_decide_eq_true (by assumption)
     obtain ⟨ad664,A664_0,c664_0,A664_2,c664_2,e664,hx664_0,hx664_1,hx664_2,hx664_3,hx664_4,hl664_0,hi664_0,hl664_2,hi664_2⟩:=zvf HRA.out x3_1 p664 q664
     cases e664
     replace hx664_0:=(HB.out.cell (wbl hx664_0)).trans hx664_0
     replace hx664_1:=(HB.out.cell (wbl hx664_1)).trans hx664_1
     replace hx664_2:=(HB.out.cell (wbl hx664_2)).trans hx664_2
     replace hx664_3:=(HB.out.cell (wbl hx664_3)).trans hx664_3
     replace hx664_4:=(HB.out.cell (wbl hx664_4)).trans hx664_4
     have HR664_0:=am hi664_0
     have HC664_0:=am hl664_0
     clear hi664_0 hl664_0
     have HR664_2:=am hi664_2
     have HC664_2:=am hl664_2
     clear hi664_2 hl664_2
     replace p664:=eq_true p664
     replace q664:=eq_true q664
     go_wp2_with (first | (go_at_call 15;(with_reducible refine (q4_Basin.calls k1 _ _ ((zqo lA x3_1).f0.f0) ((zqo lA x3_1).f0.f1) _ _ ((zqo lA x3_1).f1) ((zqo lA x3_1).f2) ((zqo lA x3_1).f3) false _ ?side1 ?side2 ?side3 ?side4 A5.out).mono ?_);(case side1=>exact kC HR664_0.out HB.out);(case side2=>exact HC664_0.out);(case side3=>exact kC HR664_2.out HB.out);(case side4=>exact HC664_2.out);rintro e w10 ⟨rfl,hb⟩;replace BK663:=(kmv hb BK663);replace HB:=am (zqh (HB.out) hb);(try clear hb);(try clear hb2);(try clear hk);(try clear hi)))
     repeat (go_quiet (first | (go_at_call 15;(with_reducible refine (q4_Basin.calls k1 _ _ ((zqo lA x3_1).f0.f0) ((zqo lA x3_1).f0.f1) _ _ ((zqo lA x3_1).f1) ((zqo lA x3_1).f2) ((zqo lA x3_1).f3) false _ ?side1 ?side2 ?side3 ?side4 A5.out).mono ?_);(case side1=>repeat (first | exact (kC HR664_0.out HB.out) | (with_reducible refine Kd.C_alloc ?_ _) | (with_reducible refine Kd.C_drewN ?_ _) | (with_reducible refine Kd.C_drew ?_)));(case side2=>exact HC664_0.out);(case side3=>repeat (first | exact (kC HR664_2.out HB.out) | (with_reducible refine Kd.C_alloc ?_ _) | (with_reducible refine Kd.C_drewN ?_ _) | (with_reducible refine Kd.C_drew ?_)));(case side4=>exact HC664_2.out);rintro e w10 ⟨rfl,hb⟩;replace BK663:=(kmv hb BK663);replace HB:=am (zqh (by repeat (first | (with_reducible first | exact HB.out | refine zqd ?_ GE663.out | apply zqf | apply zqa) | exact HB.out)) hb);(try clear hb);(try clear hb2);(try clear hk);(try clear hi)));try go_wp2_with (first | (go_at_call 15;(with_reducible refine (q4_Basin.calls k1 _ _ ((zqo lA x3_1).f0.f0) ((zqo lA x3_1).f0.f1) _ _ ((zqo lA x3_1).f1) ((zqo lA x3_1).f2) ((zqo lA x3_1).f3) false _ ?side1 ?side2 ?side3 ?side4 A5.out).mono ?_);(case side1=>repeat (first | exact (kC HR664_0.out HB.out) | (with_reducible refine Kd.C_alloc ?_ _) | (with_reducible refine Kd.C_drewN ?_ _) | (with_reducible refine Kd.C_drew ?_)));(case side2=>exact HC664_0.out);(case side3=>repeat (first | exact (kC HR664_2.out HB.out) | (with_reducible refine Kd.C_alloc ?_ _) | (with_reducible refine Kd.C_drewN ?_ _) | (with_reducible refine Kd.C_drew ?_)));(case side4=>exact HC664_2.out);rintro e w10 ⟨rfl,hb⟩;replace BK663:=(kmv hb BK663);replace HB:=am (zqh (by repeat (first | (with_reducible first | exact HB.out | refine zqd ?_ GE663.out | apply zqf | apply zqa) | exact HB.out)) hb);(try clear hb);(try clear hb2);(try clear hk);(try clear hi))))
     go_ret
     exact ⟨by first | rfl | (simp [*]<;>rfl),HB.out⟩
   ·rw [if_neg c3] at H
    have c3b0 : decide (x3_1 < (lA.length : Int)) = false:=decide_eq_false c3
    clear c3
    have HC11:=am H
    clear H
    obtain ⟨hcz12_0,hcz12_1⟩:=cO2 BK663.out
    go_upto_region 6 with (fail)
    repeat (go_quiet (fail);go_upto_region 6 with (fail))
    go_cut [35] (fun v35 wc=>∃ (kq : Nat) (x35_10 : Bool),v35 = .bool x35_10∧zqg (q4_Chain.j1 kq x35_10 lA lC = some r)∧zqg (kq≤k1)∧zqg (wc.heap[gb663]? = some (.cells #[(.slice AX lA.length c0_0),(.slice AZ lC.length cC)] 59 (0,0)))∧zqg (Below w.heap.size w wc))
    case first =>
     have H:=HC11.out
     clear HC11
     replace H:=obm H
     obtain ⟨t666,A130,H⟩:=H
     replace H : (if t666 = true then (q4_Chain.j1 k1 ((lC.length : Int) != (wrap64 ((lA.length : Int) - 1))) lA lC) else (q4_Chain.j1 k1 true lA lC)) = some r:=H
     have A13:=am A130
     clear A130
     by_cases c14 : t666 = true
     ·subst c14
      replace H : (q4_Chain.j1 k1 ((lC.length : Int) != (wrap64 ((lA.length : Int) - 1))) lA lC) = some r:=by rw [if_pos rfl] at H;exact H
      replace H':=am H
      obtain ⟨hcz15_0,hcz15_1⟩:=cO2 BK663.out
      go_wp2_with (first | (go_at_call 54;(with_reducible refine (q4_in.calls (lA.length : Int) 1 4 true _ A13.out).mono ?_);rintro e w' ⟨rfl,⟨nd,rfl⟩⟩;(try first | exact ⟨rfl,_,World.drewN_drewN _ _ _⟩ | exact ⟨rfl,_,Eq.trans (World.drewN_drewN _ _ _) (congrArg (World.drewN _) (Nat.add_assoc _ _ _))⟩)))
      repeat (go_quiet (first | (go_at_call 54;(with_reducible refine (q4_in.calls (lA.length : Int) 1 4 true _ A13.out).mono ?_);rintro e w' ⟨rfl,⟨nd,rfl⟩⟩;(try first | exact ⟨rfl,_,World.drewN_drewN _ _ _⟩ | exact ⟨rfl,_,Eq.trans (World.drewN_drewN _ _ _) (congrArg (World.drewN _) (Nat.add_assoc _ _ _))⟩)));try go_wp2_with (first | (go_at_call 54;(with_reducible refine (q4_in.calls (lA.length : Int) 1 4 true _ A13.out).mono ?_);rintro e w' ⟨rfl,⟨nd,rfl⟩⟩;(try first | exact ⟨rfl,_,World.drewN_drewN _ _ _⟩ | exact ⟨rfl,_,Eq.trans (World.drewN_drewN _ _ _) (congrArg (World.drewN _) (Nat.add_assoc _ _ _))⟩))))
      go_meet
      case rel=>exact ⟨_,(((lC.length : Int) != (wrap64 ((lA.length : Int) - 1)))),(by first | rfl | (simp;done) | (simp [*];done)),H',⟨by have:=HK1.out;first | omega | exact Nat.le_refl _⟩,⟨BK663.out⟩,⟨zqa HB.out _⟩⟩
     ·replace c14:=Bool.eq_false_iff.mpr c14
      subst c14
      replace H : (q4_Chain.j1 k1 true lA lC) = some r:=by rw [if_neg (show ¬ (false = true) by decide)] at H;exact H
      replace H':=am H
      obtain ⟨hcz16_0,hcz16_1⟩:=cO2 BK663.out
      go_wp2_with (first | (go_at_call 54;(with_reducible refine (q4_in.calls (lA.length : Int) 1 4 false _ A13.out).mono ?_);rintro e w' ⟨rfl,⟨nd,rfl⟩⟩;(try first | exact ⟨rfl,_,World.drewN_drewN _ _ _⟩ | exact ⟨rfl,_,Eq.trans (World.drewN_drewN _ _ _) (congrArg (World.drewN _) (Nat.add_assoc _ _ _))⟩)))
      repeat (go_quiet (first | (go_at_call 54;(with_reducible refine (q4_in.calls (lA.length : Int) 1 4 false _ A13.out).mono ?_);rintro e w' ⟨rfl,⟨nd,rfl⟩⟩;(try first | exact ⟨rfl,_,World.drewN_drewN _ _ _⟩ | exact ⟨rfl,_,Eq.trans (World.drewN_drewN _ _ _) (congrArg (World.drewN _) (Nat.add_assoc _ _ _))⟩)));try go_wp2_with (first | (go_at_call 54;(with_reducible refine (q4_in.calls (lA.length : Int) 1 4 false _ A13.out).mono ?_);rintro e w' ⟨rfl,⟨nd,rfl⟩⟩;(try first | exact ⟨rfl,_,World.drewN_drewN _ _ _⟩ | exact ⟨rfl,_,Eq.trans (World.drewN_drewN _ _ _) (congrArg (World.drewN _) (Nat.add_assoc _ _ _))⟩))))
      go_meet
      case rel=>exact ⟨_,(true),(by first | rfl | (simp;done) | (simp [*];done)),H',⟨by have:=HK1.out;first | omega | exact Nat.le_refl _⟩,⟨BK663.out⟩,⟨zqa HB.out _⟩⟩
    case rest =>
     clear HC11
     obtain ⟨kq,x35_10,rfl,HA,HJ10,BK663,HB⟩:=hcut
     cases kq with
     | zero=>exact absurd HA.out (by simp [q4_Chain.j1])
     | succ kj10 =>
      have H:=HA.out
      clear HA
      simp only [q4_Chain.j1] at H
      by_cases c17 : x35_10 = true
      ·subst c17
       replace H : (some false) = some r:=by rw [if_pos rfl] at H;exact H
       obtain rfl:=Option.some.inj H
       go_wp2
       repeat (go_quiet (fail);try go_wp2)
       go_ret
       exact ⟨by first | rfl | (simp [*]<;>rfl),HB.out⟩
      ·replace c17:=Bool.eq_false_iff.mpr c17
       subst c17
       replace H : (q4_Chain.l1 kj10 0 lA lC) = some r:=by rw [if_neg (show ¬ (false = true) by decide)] at H;exact H
       replace H':=am H
       go_wp2
       repeat (go_quiet (fail);try go_wp2)
       go_loopg [4] kj10 (fun kq v4 w'=>∃ (x4_3 : Int),v4 = .int .i64 x4_3∧zqg (q4_Chain.l1 kq x4_3 lA lC = some r)∧zqg (kq≤kj10)∧zqg (w'.heap[gb663]? = some (.cells #[(.slice AX lA.length c0_0),(.slice AZ lC.length cC)] 59 (0,0)))∧zqg (Below w.heap.size w w'))
       case atStart=>exact ⟨(0),(by first | rfl | (simp;done) | (simp [*];done)),H',⟨Nat.le_refl _⟩,⟨BK663.out⟩,⟨HB.out⟩⟩
       case round =>
        clear H'
        obtain ⟨x4_3,rfl,HA,HK3,BK663,HB⟩:=hrel
        cases gk with
        | zero=>exact absurd HA.out (by simp [q4_Chain.l1])
        | succ k3 =>
         have H:=HA.out
         clear HA
         simp only [q4_Chain.l1] at H
         by_cases c18 : x4_3 < (lC.length : Int)
         case neg =>
          rw [if_neg c18] at H
          have c18b0 : decide (x4_3 < (lC.length : Int)) = false:=decide_eq_false c18
          clear c18
          obtain rfl:=Option.some.inj H
          obtain ⟨hcz46_0,hcz46_1⟩:=cO2 BK663.out
          go_wp2
          repeat (go_quiet (fail);try go_wp2)
          go_ret
          exact ⟨by first | rfl | (simp [*]<;>rfl),HB.out⟩
         rw [if_pos c18] at H
         have c18b0 : decide (x4_3 < (lC.length : Int)) = true:=decide_eq_true c18
         clear c18
         by_cases c19 : 0≤x4_3
         case neg =>
          rw [if_neg c19] at H
          exact absurd H (by simp)
         rw [if_pos c19] at H
         have c19b0 : decide (0≤x4_3) = true:=decide_eq_true c19
         clear c19
         have HC20:=am H
         clear H
         obtain ⟨hcz21_0,hcz21_1⟩:=cO2 BK663.out
         have p667 : 0≤(x4_3 : Int):=of_decide_eq_true (by assumption)
         have q667 : x4_3 < (lC.length : Int):=of_decide_eq_true (by assumption)
         obtain ⟨ad667,e667,hx667_0,hx667_1⟩:=zg5 HRC.out x4_3 p667 q667
         cases e667
         replace hx667_0:=(HB.out.cell (wbl hx667_0)).trans hx667_0
         replace hx667_1:=(HB.out.cell (wbl hx667_1)).trans hx667_1
         replace p667:=eq_true p667
         replace q667:=eq_true q667
         go_upto_region 12 with (first | ((refine zqm (N:=5) rfl ?_);(try (refine zqs (by rfl) ?_;dsimp only));refine zqk rfl (N:=5) rfl (cs:=#[.int .i64 0,.int .i64 0]) (t:=66) ?hr ?_;(case hr=>go_simp;try rfl);intro gb668 hg w22 hbox hb;have BK668:=am (hbox);have GW668:=am (zqr (HB.out) hg);have GE668:=am (zqr (HB.out) hg);have NB663_668:=am (zv4 BK663.out hg);have NB668_663:=am (zvk BK663.out hg);replace BK663:=(kmv hb BK663);replace HB:=am (zqh (HB.out) hb);clear hb hbox hg;have hnb23:=NB668_663.out;have hnc23:=NB663_668.out;obtain ⟨hcz24_0,hcz24_1⟩:=cO2 BK668.out;have hfz24_0:=zqe BK668.out 0;have hfz24_1:=zqe BK668.out 1))
         repeat (go_quiet (first | ((refine zqm (N:=5) rfl ?_);(try (refine zqs (by rfl) ?_;dsimp only));refine zqk rfl (N:=5) rfl (cs:=#[.int .i64 0,.int .i64 0]) (t:=66) ?hr ?_;(case hr=>go_simp;try rfl);intro gb668 hg w22 hbox hb;have BK668:=am (hbox);have GW668:=am (zqr (by repeat (first | (with_reducible first | exact HB.out | refine zqd ?_ GE663.out | apply zqf | apply zqa) | exact HB.out)) hg);have GE668:=am (zqr (by repeat (first | (with_reducible first | exact HB.out | refine zqd ?_ GE663.out | apply zqf | apply zqa) | exact HB.out)) hg);have NB663_668:=am (zv4 BK663.out hg);have NB668_663:=am (zvk BK663.out hg);replace BK663:=(kmv hb BK663);replace HB:=am (zqh (by repeat (first | (with_reducible first | exact HB.out | refine zqd ?_ GE663.out | apply zqf | apply zqa) | exact HB.out)) hb);clear hb hbox hg;have hnb23:=NB668_663.out;have hnc23:=NB663_668.out;obtain ⟨hcz24_0,hcz24_1⟩:=cO2 BK668.out;have hfz24_0:=zqe BK668.out 0;have hfz24_1:=zqe BK668.out 1));go_upto_region 12 with (first | ((refine zqm (N:=5) rfl ?_);(try (refine zqs (by rfl) ?_;dsimp only));refine zqk rfl (N:=5) rfl (cs:=#[.int .i64 0,.int .i64 0]) (t:=66) ?hr ?_;(case hr=>go_simp;try rfl);intro gb668 hg w22 hbox hb;have BK668:=am (hbox);have GW668:=am (zqr (by repeat (first | (with_reducible first | exact HB.out | refine zqd ?_ GE663.out | apply zqf | apply zqa) | exact HB.out)) hg);have GE668:=am (zqr (by repeat (first | (with_reducible first | exact HB.out | refine zqd ?_ GE663.out | apply zqf | apply zqa) | exact HB.out)) hg);have NB663_668:=am (zv4 BK663.out hg);have NB668_663:=am (zvk BK663.out hg);replace BK663:=(kmv hb BK663);replace HB:=am (zqh (by repeat (first | (with_reducible first | exact HB.out | refine zqd ?_ GE663.out | apply zqf | apply zqa) | exact HB.out)) hb);clear hb hbox hg;have hnb23:=NB668_663.out;have hnc23:=NB663_668.out;obtain ⟨hcz24_0,hcz24_1⟩:=cO2 BK668.out;have hfz24_0:=zqe BK668.out 0;have hfz24_1:=zqe BK668.out 1)))
         (try simp only [Act.put,List.setIfInBounds_toArray,List.set_cons_zero,List.set_cons_succ])
         go_cut [67] (fun v67 wc=>∃ (kq : Nat) (x67_19 : Bool),v67 = .bool x67_19∧zqg (q4_Chain.j3 kq x4_3 x67_19 lA lC ((zqc lC x4_3).f0) ((zqc lC x4_3).f1) = some r)∧zqg (kq≤k3)∧zqg (wc.heap[gb663]? = some (.cells #[(.slice AX lA.length c0_0),(.slice (some ad667) lC.length cC)] 59 (0,0)))∧zqg (wc.heap[gb668]? = some (.cells #[.int .i64 ((zqc lC x4_3).f0),.int .i64 ((zqc lC x4_3).f1)] 66 (0,0)))∧zqg (Below w.heap.size w wc))
         case first =>
          have H:=HC20.out
          clear HC20
          replace H:=obm H
          obtain ⟨t669,A250,H⟩:=H
          replace H : (if t669 = true then (if 0≤((zqc lC x4_3).f0) then (if ((zqc lC x4_3).f0) < (lA.length : Int) then ((q4_in.f ((zqc lC x4_3).f1) (-1) (wrap64 ((((zqo lA ((zqc lC x4_3).f0)).f1).length : Int) - 1))).bind fun t671=>(q4_Chain.j3 k3 x4_3 (!t671) lA lC ((zqc lC x4_3).f0) ((zqc lC x4_3).f1))) else (none)) else (none)) else (q4_Chain.j3 k3 x4_3 true lA lC ((zqc lC x4_3).f0) ((zqc lC x4_3).f1))) = some r:=H
          have A25:=am A250
          clear A250
          by_cases c26 : t669 = true
          case neg =>
           replace c26:=Bool.eq_false_iff.mpr c26
           subst c26
           replace H : (q4_Chain.j3 k3 x4_3 true lA lC ((zqc lC x4_3).f0) ((zqc lC x4_3).f1)) = some r:=by rw [if_neg (show ¬ (false = true) by decide)] at H;exact H
           replace H':=am H
           have hnb33:=NB668_663.out
           have hnc33:=NB663_668.out
           obtain ⟨hcz34_0,hcz34_1⟩:=cO2 BK668.out
           have hfz34_0:=zqe BK668.out 0
           have hfz34_1:=zqe BK668.out 1
           go_wp2_with (first | (go_at_call 54;(with_reducible refine (q4_in.calls ((zqc lC x4_3).f0) 0 x4_3 false _ A25.out).mono ?_);rintro e w' ⟨rfl,⟨nd,rfl⟩⟩;(try first | exact ⟨rfl,_,World.drewN_drewN _ _ _⟩ | exact ⟨rfl,_,Eq.trans (World.drewN_drewN _ _ _) (congrArg (World.drewN _) (Nat.add_assoc _ _ _))⟩)))
           repeat (go_quiet (first | (go_at_call 54;(with_reducible refine (q4_in.calls ((zqc lC x4_3).f0) 0 x4_3 false _ A25.out).mono ?_);rintro e w' ⟨rfl,⟨nd,rfl⟩⟩;(try first | exact ⟨rfl,_,World.drewN_drewN _ _ _⟩ | exact ⟨rfl,_,Eq.trans (World.drewN_drewN _ _ _) (congrArg (World.drewN _) (Nat.add_assoc _ _ _))⟩)));try go_wp2_with (first | (go_at_call 54;(with_reducible refine (q4_in.calls ((zqc lC x4_3).f0) 0 x4_3 false _ A25.out).mono ?_);rintro e w' ⟨rfl,⟨nd,rfl⟩⟩;(try first | exact ⟨rfl,_,World.drewN_drewN _ _ _⟩ | exact ⟨rfl,_,Eq.trans (World.drewN_drewN _ _ _) (congrArg (World.drewN _) (Nat.add_assoc _ _ _))⟩))))
           go_meet
           case rel=>exact ⟨_,(true),(by first | rfl | (simp;done) | (simp [*];done)),H',⟨by have:=HK1.out;have:=HJ10.out;have:=HK3.out;first | omega | exact Nat.le_refl _⟩,⟨(zq5 (zq5 BK663.out NB663_668.out _) NB663_668.out _)⟩,⟨(zwb (cs:=#[.int .i64 ((zqc lC x4_3).f0),.int .i64 0]) (zwb (cs:=#[.int .i64 0,.int .i64 0]) BK668.out 0 _ rfl) 1 _ rfl)⟩,⟨by repeat (first | (with_reducible first | exact HB.out | refine zqd ?_ (zqg.out (by assumption)) | apply zqf | apply zqa) | exact HB.out)⟩⟩
          subst c26
          replace H : (if 0≤((zqc lC x4_3).f0) then (if ((zqc lC x4_3).f0) < (lA.length : Int) then ((q4_in.f ((zqc lC x4_3).f1) (-1) (wrap64 ((((zqo lA ((zqc lC x4_3).f0)).f1).length : Int) - 1))).bind fun t671=>(q4_Chain.j3 k3 x4_3 (!t671) lA lC ((zqc lC x4_3).f0) ((zqc lC x4_3).f1))) else (none)) else (none)) = some r:=by rw [if_pos rfl] at H;exact H
          by_cases c27 : 0≤((zqc lC x4_3).f0)
          case neg =>
           rw [if_neg c27] at H
           exact absurd H (by simp)
          rw [if_pos c27] at H
          have c27b0 : decide (0≤((zqc lC x4_3).f0)) = true:=decide_eq_true c27
          clear c27
          (first | rw [c27b0] | (simp only [i64_w,i32_w];rw [c27b0]) | skip)
          by_cases c28 : ((zqc lC x4_3).f0) < (lA.length : Int)
          case neg =>
           rw [if_neg c28] at H
           exact absurd H (by simp)
          rw [if_pos c28] at H
          have c28b0 : decide (((zqc lC x4_3).f0) < (lA.length : Int)) = true:=decide_eq_true c28
          clear c28
          replace H:=obm H
          obtain ⟨t671,A290,H⟩:=H
          replace H : (q4_Chain.j3 k3 x4_3 (!t671) lA lC ((zqc lC x4_3).f0) ((zqc lC x4_3).f1)) = some r:=H
          have A29:=am A290
          clear A290
          replace H':=am H
          have hnb30:=NB668_663.out
          have hnc30:=NB663_668.out
          obtain ⟨hcz31_0,hcz31_1⟩:=cO2 BK668.out
          have hfz31_0:=zqe BK668.out 0
          have hfz31_1:=zqe BK668.out 1
          go_wp2_with (first | (go_at_call 54;(with_reducible refine (q4_in.calls ((zqc lC x4_3).f0) 0 x4_3 true _ A25.out).mono ?_);rintro e w' ⟨rfl,⟨nd,rfl⟩⟩;(try first | exact ⟨rfl,_,World.drewN_drewN _ _ _⟩ | exact ⟨rfl,_,Eq.trans (World.drewN_drewN _ _ _) (congrArg (World.drewN _) (Nat.add_assoc _ _ _))⟩);obtain ⟨hcz32_0,hcz32_1⟩:=cO2 BK663.out;have p670 : 0≤(((zqc lC x4_3).f0) : Int):=of_decide_eq_true (by assumption);have q670 : ((zqc lC x4_3).f0) < (lA.length : Int):=of_decide_eq_true (by assumption);obtain ⟨ad670,A670_0,c670_0,A670_2,c670_2,e670,hx670_0,hx670_1,hx670_2,hx670_3,hx670_4,hl670_0,hi670_0,hl670_2,hi670_2⟩:=zvf HRA.out ((zqc lC x4_3).f0) p670 q670;cases e670;have hn670_0 : ad670.block ≠ gb668:=Nat.ne_of_lt (Nat.lt_of_lt_of_le (by have:=World.block_lt_of_cell? _ _ hx670_0;first | rwa [zqi] at this | exact this) GW668.out);have hn670_1 : ad670.block ≠ gb668:=Nat.ne_of_lt (Nat.lt_of_lt_of_le (by have:=World.block_lt_of_cell? _ _ hx670_0;first | rwa [zqi] at this | exact this) GW668.out);replace hx670_0:=(HB.out.cell (wbl hx670_0)).trans hx670_0;replace hx670_1:=(HB.out.cell (wbl hx670_1)).trans hx670_1;replace hx670_2:=(HB.out.cell (wbl hx670_2)).trans hx670_2;replace hx670_3:=(HB.out.cell (wbl hx670_3)).trans hx670_3;replace hx670_4:=(HB.out.cell (wbl hx670_4)).trans hx670_4;have HR670_0:=am hi670_0;have HC670_0:=am hl670_0;clear hi670_0 hl670_0;have HR670_2:=am hi670_2;have HC670_2:=am hl670_2;clear hi670_2 hl670_2;replace hx670_0:=(zqw (p:=⟨gb668,0,none⟩) (by first | (rw [zqi];exact hn670_0) | (show (Addr.add _ _).block ≠ _;rw [zqi];exact hn670_0) | exact hn670_0) (.int .i64 ((zqc lC x4_3).f0))).trans hx670_0;replace hx670_1:=(zqw (p:=⟨gb668,0,none⟩) (by first | (rw [zqi];exact hn670_0) | (show (Addr.add _ _).block ≠ _;rw [zqi];exact hn670_0) | exact hn670_0) (.int .i64 ((zqc lC x4_3).f0))).trans hx670_1;replace hx670_2:=(zqw (p:=⟨gb668,0,none⟩) (by first | (rw [zqi];exact hn670_0) | (show (Addr.add _ _).block ≠ _;rw [zqi];exact hn670_0) | exact hn670_0) (.int .i64 ((zqc lC x4_3).f0))).trans hx670_2;replace hx670_3:=(zqw (p:=⟨gb668,0,none⟩) (by first | (rw [zqi];exact hn670_0) | (show (Addr.add _ _).block ≠ _;rw [zqi];exact hn670_0) | exact hn670_0) (.int .i64 ((zqc lC x4_3).f0))).trans hx670_3;replace hx670_4:=(zqw (p:=⟨gb668,0,none⟩) (by first | (rw [zqi];exact hn670_0) | (show (Addr.add _ _).block ≠ _;rw [zqi];exact hn670_0) | exact hn670_0) (.int .i64 ((zqc lC x4_3).f0))).trans hx670_4;replace hx670_0:=(zqw (p:=⟨gb668,1,none⟩) (by first | (rw [zqi];exact hn670_1) | (show (Addr.add _ _).block ≠ _;rw [zqi];exact hn670_1) | exact hn670_1) (.int .i64 ((zqc lC x4_3).f1))).trans hx670_0;replace hx670_1:=(zqw (p:=⟨gb668,1,none⟩) (by first | (rw [zqi];exact hn670_1) | (show (Addr.add _ _).block ≠ _;rw [zqi];exact hn670_1) | exact hn670_1) (.int .i64 ((zqc lC x4_3).f1))).trans hx670_1;replace hx670_2:=(zqw (p:=⟨gb668,1,none⟩) (by first | (rw [zqi];exact hn670_1) | (show (Addr.add _ _).block ≠ _;rw [zqi];exact hn670_1) | exact hn670_1) (.int .i64 ((zqc lC x4_3).f1))).trans hx670_2;replace hx670_3:=(zqw (p:=⟨gb668,1,none⟩) (by first | (rw [zqi];exact hn670_1) | (show (Addr.add _ _).block ≠ _;rw [zqi];exact hn670_1) | exact hn670_1) (.int .i64 ((zqc lC x4_3).f1))).trans hx670_3;replace hx670_4:=(zqw (p:=⟨gb668,1,none⟩) (by first | (rw [zqi];exact hn670_1) | (show (Addr.add _ _).block ≠ _;rw [zqi];exact hn670_1) | exact hn670_1) (.int .i64 ((zqc lC x4_3).f1))).trans hx670_4;(try have hy670_0:=fun (n_ : Nat)=>(show ((((w22.drewN n_).setCell ⟨gb668,0,none⟩ (.int .i64 ((zqc lC x4_3).f0))).setCell ⟨gb668,1,none⟩ (.int .i64 ((zqc lC x4_3).f1)))).cell? _ = some _ from hx670_0));(try have hy670_1:=fun (n_ : Nat)=>(show ((((w22.drewN n_).setCell ⟨gb668,0,none⟩ (.int .i64 ((zqc lC x4_3).f0))).setCell ⟨gb668,1,none⟩ (.int .i64 ((zqc lC x4_3).f1)))).cell? _ = some _ from hx670_1));(try have hy670_2:=fun (n_ : Nat)=>(show ((((w22.drewN n_).setCell ⟨gb668,0,none⟩ (.int .i64 ((zqc lC x4_3).f0))).setCell ⟨gb668,1,none⟩ (.int .i64 ((zqc lC x4_3).f1)))).cell? _ = some _ from hx670_2));(try have hy670_3:=fun (n_ : Nat)=>(show ((((w22.drewN n_).setCell ⟨gb668,0,none⟩ (.int .i64 ((zqc lC x4_3).f0))).setCell ⟨gb668,1,none⟩ (.int .i64 ((zqc lC x4_3).f1)))).cell? _ = some _ from hx670_3));(try have hy670_4:=fun (n_ : Nat)=>(show ((((w22.drewN n_).setCell ⟨gb668,0,none⟩ (.int .i64 ((zqc lC x4_3).f0))).setCell ⟨gb668,1,none⟩ (.int .i64 ((zqc lC x4_3).f1)))).cell? _ = some _ from hx670_4));clear hn670_0;clear hn670_1;replace p670:=eq_true p670;replace q670:=eq_true q670) | (go_at_call 54;(with_reducible refine (q4_in.calls ((zqc lC x4_3).f1) (-1) (IntKind.i64.wrap ((((zqo lA ((zqc lC x4_3).f0)).f1).length : Int) - 1)) t671 _ (in_wr A29.out)).mono ?_);rintro e w' ⟨rfl,⟨nd,rfl⟩⟩;(try first | exact ⟨rfl,_,World.drewN_drewN _ _ _⟩ | exact ⟨rfl,_,Eq.trans (World.drewN_drewN _ _ _) (congrArg (World.drewN _) (Nat.add_assoc _ _ _))⟩)))
          repeat (go_quiet (first | (go_at_call 54;(with_reducible refine (q4_in.calls ((zqc lC x4_3).f0) 0 x4_3 true _ A25.out).mono ?_);rintro e w' ⟨rfl,⟨nd,rfl⟩⟩;(try first | exact ⟨rfl,_,World.drewN_drewN _ _ _⟩ | exact ⟨rfl,_,Eq.trans (World.drewN_drewN _ _ _) (congrArg (World.drewN _) (Nat.add_assoc _ _ _))⟩);obtain ⟨hcz32_0,hcz32_1⟩:=cO2 BK663.out;have p670 : 0≤(((zqc lC x4_3).f0) : Int):=of_decide_eq_true (by assumption);have q670 : ((zqc lC x4_3).f0) < (lA.length : Int):=of_decide_eq_true (by assumption);obtain ⟨ad670,A670_0,c670_0,A670_2,c670_2,e670,hx670_0,hx670_1,hx670_2,hx670_3,hx670_4,hl670_0,hi670_0,hl670_2,hi670_2⟩:=zvf HRA.out ((zqc lC x4_3).f0) p670 q670;cases e670;have hn670_0 : ad670.block ≠ gb668:=Nat.ne_of_lt (Nat.lt_of_lt_of_le (by have:=World.block_lt_of_cell? _ _ hx670_0;first | rwa [zqi] at this | exact this) GW668.out);have hn670_1 : ad670.block ≠ gb668:=Nat.ne_of_lt (Nat.lt_of_lt_of_le (by have:=World.block_lt_of_cell? _ _ hx670_0;first | rwa [zqi] at this | exact this) GW668.out);replace hx670_0:=(HB.out.cell (wbl hx670_0)).trans hx670_0;replace hx670_1:=(HB.out.cell (wbl hx670_1)).trans hx670_1;replace hx670_2:=(HB.out.cell (wbl hx670_2)).trans hx670_2;replace hx670_3:=(HB.out.cell (wbl hx670_3)).trans hx670_3;replace hx670_4:=(HB.out.cell (wbl hx670_4)).trans hx670_4;have HR670_0:=am hi670_0;have HC670_0:=am hl670_0;clear hi670_0 hl670_0;have HR670_2:=am hi670_2;have HC670_2:=am hl670_2;clear hi670_2 hl670_2;replace hx670_0:=(zqw (p:=⟨gb668,0,none⟩) (by first | (rw [zqi];exact hn670_0) | (show (Addr.add _ _).block ≠ _;rw [zqi];exact hn670_0) | exact hn670_0) (.int .i64 ((zqc lC x4_3).f0))).trans hx670_0;replace hx670_1:=(zqw (p:=⟨gb668,0,none⟩) (by first | (rw [zqi];exact hn670_0) | (show (Addr.add _ _).block ≠ _;rw [zqi];exact hn670_0) | exact hn670_0) (.int .i64 ((zqc lC x4_3).f0))).trans hx670_1;replace hx670_2:=(zqw (p:=⟨gb668,0,none⟩) (by first | (rw [zqi];exact hn670_0) | (show (Addr.add _ _).block ≠ _;rw [zqi];exact hn670_0) | exact hn670_0) (.int .i64 ((zqc lC x4_3).f0))).trans hx670_2;replace hx670_3:=(zqw (p:=⟨gb668,0,none⟩) (by first | (rw [zqi];exact hn670_0) | (show (Addr.add _ _).block ≠ _;rw [zqi];exact hn670_0) | exact hn670_0) (.int .i64 ((zqc lC x4_3).f0))).trans hx670_3;replace hx670_4:=(zqw (p:=⟨gb668,0,none⟩) (by first | (rw [zqi];exact hn670_0) | (show (Addr.add _ _).block ≠ _;rw [zqi];exact hn670_0) | exact hn670_0) (.int .i64 ((zqc lC x4_3).f0))).trans hx670_4;replace hx670_0:=(zqw (p:=⟨gb668,1,none⟩) (by first | (rw [zqi];exact hn670_1) | (show (Addr.add _ _).block ≠ _;rw [zqi];exact hn670_1) | exact hn670_1) (.int .i64 ((zqc lC x4_3).f1))).trans hx670_0;replace hx670_1:=(zqw (p:=⟨gb668,1,none⟩) (by first | (rw [zqi];exact hn670_1) | (show (Addr.add _ _).block ≠ _;rw [zqi];exact hn670_1) | exact hn670_1) (.int .i64 ((zqc lC x4_3).f1))).trans hx670_1;replace hx670_2:=(zqw (p:=⟨gb668,1,none⟩) (by first | (rw [zqi];exact hn670_1) | (show (Addr.add _ _).block ≠ _;rw [zqi];exact hn670_1) | exact hn670_1) (.int .i64 ((zqc lC x4_3).f1))).trans hx670_2;replace hx670_3:=(zqw (p:=⟨gb668,1,none⟩) (by first | (rw [zqi];exact hn670_1) | (show (Addr.add _ _).block ≠ _;rw [zqi];exact hn670_1) | exact hn670_1) (.int .i64 ((zqc lC x4_3).f1))).trans hx670_3;replace hx670_4:=(zqw (p:=⟨gb668,1,none⟩) (by first | (rw [zqi];exact hn670_1) | (show (Addr.add _ _).block ≠ _;rw [zqi];exact hn670_1) | exact hn670_1) (.int .i64 ((zqc lC x4_3).f1))).trans hx670_4;(try have hy670_0:=fun (n_ : Nat)=>(show ((((w22.drewN n_).setCell ⟨gb668,0,none⟩ (.int .i64 ((zqc lC x4_3).f0))).setCell ⟨gb668,1,none⟩ (.int .i64 ((zqc lC x4_3).f1)))).cell? _ = some _ from hx670_0));(try have hy670_1:=fun (n_ : Nat)=>(show ((((w22.drewN n_).setCell ⟨gb668,0,none⟩ (.int .i64 ((zqc lC x4_3).f0))).setCell ⟨gb668,1,none⟩ (.int .i64 ((zqc lC x4_3).f1)))).cell? _ = some _ from hx670_1));(try have hy670_2:=fun (n_ : Nat)=>(show ((((w22.drewN n_).setCell ⟨gb668,0,none⟩ (.int .i64 ((zqc lC x4_3).f0))).setCell ⟨gb668,1,none⟩ (.int .i64 ((zqc lC x4_3).f1)))).cell? _ = some _ from hx670_2));(try have hy670_3:=fun (n_ : Nat)=>(show ((((w22.drewN n_).setCell ⟨gb668,0,none⟩ (.int .i64 ((zqc lC x4_3).f0))).setCell ⟨gb668,1,none⟩ (.int .i64 ((zqc lC x4_3).f1)))).cell? _ = some _ from hx670_3));(try have hy670_4:=fun (n_ : Nat)=>(show ((((w22.drewN n_).setCell ⟨gb668,0,none⟩ (.int .i64 ((zqc lC x4_3).f0))).setCell ⟨gb668,1,none⟩ (.int .i64 ((zqc lC x4_3).f1)))).cell? _ = some _ from hx670_4));clear hn670_0;clear hn670_1;replace p670:=eq_true p670;replace q670:=eq_true q670) | (go_at_call 54;(with_reducible refine (q4_in.calls ((zqc lC x4_3).f1) (-1) (IntKind.i64.wrap ((((zqo lA ((zqc lC x4_3).f0)).f1).length : Int) - 1)) t671 _ (in_wr A29.out)).mono ?_);rintro e w' ⟨rfl,⟨nd,rfl⟩⟩;(try first | exact ⟨rfl,_,World.drewN_drewN _ _ _⟩ | exact ⟨rfl,_,Eq.trans (World.drewN_drewN _ _ _) (congrArg (World.drewN _) (Nat.add_assoc _ _ _))⟩)));try go_wp2_with (first | (go_at_call 54;(with_reducible refine (q4_in.calls ((zqc lC x4_3).f0) 0 x4_3 true _ A25.out).mono ?_);rintro e w' ⟨rfl,⟨nd,rfl⟩⟩;(try first | exact ⟨rfl,_,World.drewN_drewN _ _ _⟩ | exact ⟨rfl,_,Eq.trans (World.drewN_drewN _ _ _) (congrArg (World.drewN _) (Nat.add_assoc _ _ _))⟩);obtain ⟨hcz32_0,hcz32_1⟩:=cO2 BK663.out;have p670 : 0≤(((zqc lC x4_3).f0) : Int):=of_decide_eq_true (by assumption);have q670 : ((zqc lC x4_3).f0) < (lA.length : Int):=of_decide_eq_true (by assumption);obtain ⟨ad670,A670_0,c670_0,A670_2,c670_2,e670,hx670_0,hx670_1,hx670_2,hx670_3,hx670_4,hl670_0,hi670_0,hl670_2,hi670_2⟩:=zvf HRA.out ((zqc lC x4_3).f0) p670 q670;cases e670;have hn670_0 : ad670.block ≠ gb668:=Nat.ne_of_lt (Nat.lt_of_lt_of_le (by have:=World.block_lt_of_cell? _ _ hx670_0;first | rwa [zqi] at this | exact this) GW668.out);have hn670_1 : ad670.block ≠ gb668:=Nat.ne_of_lt (Nat.lt_of_lt_of_le (by have:=World.block_lt_of_cell? _ _ hx670_0;first | rwa [zqi] at this | exact this) GW668.out);replace hx670_0:=(HB.out.cell (wbl hx670_0)).trans hx670_0;replace hx670_1:=(HB.out.cell (wbl hx670_1)).trans hx670_1;replace hx670_2:=(HB.out.cell (wbl hx670_2)).trans hx670_2;replace hx670_3:=(HB.out.cell (wbl hx670_3)).trans hx670_3;replace hx670_4:=(HB.out.cell (wbl hx670_4)).trans hx670_4;have HR670_0:=am hi670_0;have HC670_0:=am hl670_0;clear hi670_0 hl670_0;have HR670_2:=am hi670_2;have HC670_2:=am hl670_2;clear hi670_2 hl670_2;replace hx670_0:=(zqw (p:=⟨gb668,0,none⟩) (by first | (rw [zqi];exact hn670_0) | (show (Addr.add _ _).block ≠ _;rw [zqi];exact hn670_0) | exact hn670_0) (.int .i64 ((zqc lC x4_3).f0))).trans hx670_0;replace hx670_1:=(zqw (p:=⟨gb668,0,none⟩) (by first | (rw [zqi];exact hn670_0) | (show (Addr.add _ _).block ≠ _;rw [zqi];exact hn670_0) | exact hn670_0) (.int .i64 ((zqc lC x4_3).f0))).trans hx670_1;replace hx670_2:=(zqw (p:=⟨gb668,0,none⟩) (by first | (rw [zqi];exact hn670_0) | (show (Addr.add _ _).block ≠ _;rw [zqi];exact hn670_0) | exact hn670_0) (.int .i64 ((zqc lC x4_3).f0))).trans hx670_2;replace hx670_3:=(zqw (p:=⟨gb668,0,none⟩) (by first | (rw [zqi];exact hn670_0) | (show (Addr.add _ _).block ≠ _;rw [zqi];exact hn670_0) | exact hn670_0) (.int .i64 ((zqc lC x4_3).f0))).trans hx670_3;replace hx670_4:=(zqw (p:=⟨gb668,0,none⟩) (by first | (rw [zqi];exact hn670_0) | (show (Addr.add _ _).block ≠ _;rw [zqi];exact hn670_0) | exact hn670_0) (.int .i64 ((zqc lC x4_3).f0))).trans hx670_4;replace hx670_0:=(zqw (p:=⟨gb668,1,none⟩) (by first | (rw [zqi];exact hn670_1) | (show (Addr.add _ _).block ≠ _;rw [zqi];exact hn670_1) | exact hn670_1) (.int .i64 ((zqc lC x4_3).f1))).trans hx670_0;replace hx670_1:=(zqw (p:=⟨gb668,1,none⟩) (by first | (rw [zqi];exact hn670_1) | (show (Addr.add _ _).block ≠ _;rw [zqi];exact hn670_1) | exact hn670_1) (.int .i64 ((zqc lC x4_3).f1))).trans hx670_1;replace hx670_2:=(zqw (p:=⟨gb668,1,none⟩) (by first | (rw [zqi];exact hn670_1) | (show (Addr.add _ _).block ≠ _;rw [zqi];exact hn670_1) | exact hn670_1) (.int .i64 ((zqc lC x4_3).f1))).trans hx670_2;replace hx670_3:=(zqw (p:=⟨gb668,1,none⟩) (by first | (rw [zqi];exact hn670_1) | (show (Addr.add _ _).block ≠ _;rw [zqi];exact hn670_1) | exact hn670_1) (.int .i64 ((zqc lC x4_3).f1))).trans hx670_3;replace hx670_4:=(zqw (p:=⟨gb668,1,none⟩) (by first | (rw [zqi];exact hn670_1) | (show (Addr.add _ _).block ≠ _;rw [zqi];exact hn670_1) | exact hn670_1) (.int .i64 ((zqc lC x4_3).f1))).trans hx670_4;(try have hy670_0:=fun (n_ : Nat)=>(show ((((w22.drewN n_).setCell ⟨gb668,0,none⟩ (.int .i64 ((zqc lC x4_3).f0))).setCell ⟨gb668,1,none⟩ (.int .i64 ((zqc lC x4_3).f1)))).cell? _ = some _ from hx670_0));(try have hy670_1:=fun (n_ : Nat)=>(show ((((w22.drewN n_).setCell ⟨gb668,0,none⟩ (.int .i64 ((zqc lC x4_3).f0))).setCell ⟨gb668,1,none⟩ (.int .i64 ((zqc lC x4_3).f1)))).cell? _ = some _ from hx670_1));(try have hy670_2:=fun (n_ : Nat)=>(show ((((w22.drewN n_).setCell ⟨gb668,0,none⟩ (.int .i64 ((zqc lC x4_3).f0))).setCell ⟨gb668,1,none⟩ (.int .i64 ((zqc lC x4_3).f1)))).cell? _ = some _ from hx670_2));(try have hy670_3:=fun (n_ : Nat)=>(show ((((w22.drewN n_).setCell ⟨gb668,0,none⟩ (.int .i64 ((zqc lC x4_3).f0))).setCell ⟨gb668,1,none⟩ (.int .i64 ((zqc lC x4_3).f1)))).cell? _ = some _ from hx670_3));(try have hy670_4:=fun (n_ : Nat)=>(show ((((w22.drewN n_).setCell ⟨gb668,0,none⟩ (.int .i64 ((zqc lC x4_3).f0))).setCell ⟨gb668,1,none⟩ (.int .i64 ((zqc lC x4_3).f1)))).cell? _ = some _ from hx670_4));clear hn670_0;clear hn670_1;replace p670:=eq_true p670;replace q670:=eq_true q670) | (go_at_call 54;(with_reducible refine (q4_in.calls ((zqc lC x4_3).f1) (-1) (IntKind.i64.wrap ((((zqo lA ((zqc lC x4_3).f0)).f1).length : Int) - 1)) t671 _ (in_wr A29.out)).mono ?_);rintro e w' ⟨rfl,⟨nd,rfl⟩⟩;(try first | exact ⟨rfl,_,World.drewN_drewN _ _ _⟩ | exact ⟨rfl,_,Eq.trans (World.drewN_drewN _ _ _) (congrArg (World.drewN _) (Nat.add_assoc _ _ _))⟩))))
          go_meet
          case rel=>exact ⟨_,(!t671),(by first | rfl | (simp;done) | (simp [*];done)),H',⟨by have:=HK1.out;have:=HJ10.out;have:=HK3.out;first | omega | exact Nat.le_refl _⟩,⟨(zq5 (zq5 BK663.out NB663_668.out _) NB663_668.out _)⟩,⟨(zwb (cs:=#[.int .i64 ((zqc lC x4_3).f0),.int .i64 0]) (zwb (cs:=#[.int .i64 0,.int .i64 0]) BK668.out 0 _ rfl) 1 _ rfl)⟩,⟨by repeat (first | (with_reducible first | exact HB.out | refine zqd ?_ (zqg.out (by assumption)) | apply zqf | apply zqa) | exact HB.out)⟩⟩
         case rest =>
          clear HC20
          obtain ⟨kq,x67_19,rfl,HA,HJ19,BK663,BK668,HB⟩:=hcut
          cases kq with
          | zero=>exact absurd HA.out (by simp [q4_Chain.j3])
          | succ kj19 =>
           have H:=HA.out
           clear HA
           simp only [q4_Chain.j3] at H
           by_cases c35 : x67_19 = true
           ·subst c35
            replace H : (some false) = some r:=by rw [if_pos rfl] at H;exact H
            obtain rfl:=Option.some.inj H
            go_wp2
            repeat (go_quiet (fail);try go_wp2)
            go_ret
            exact ⟨by first | rfl | (simp [*]<;>rfl),HB.out⟩
           ·replace c35:=Bool.eq_false_iff.mpr c35
            subst c35
            replace H : (q4_Chain.l2 kj19 x4_3 0 lA lC ((zqc lC x4_3).f0) ((zqc lC x4_3).f1)) = some r:=by rw [if_neg (show ¬ (false = true) by decide)] at H;exact H
            replace H':=am H
            go_wp2
            repeat (go_quiet (fail);try go_wp2)
            go_loopg [6] kj19 (fun kq v6 w'=>∃ (x6_5 : Int),v6 = .int .i64 x6_5∧zqg (q4_Chain.l2 kq x4_3 x6_5 lA lC ((zqc lC x4_3).f0) ((zqc lC x4_3).f1) = some r)∧zqg (kq≤kj19)∧zqg (w'.heap[gb663]? = some (.cells #[(.slice AX lA.length c0_0),(.slice (some ad667) lC.length cC)] 59 (0,0)))∧zqg (w'.heap[gb668]? = some (.cells #[.int .i64 ((zqc lC x4_3).f0),.int .i64 ((zqc lC x4_3).f1)] 66 (0,0)))∧zqg (Below w.heap.size w w'))
            case atStart=>exact ⟨(0),(by first | rfl | (simp;done) | (simp [*];done)),H',⟨Nat.le_refl _⟩,⟨BK663.out⟩,⟨BK668.out⟩,⟨HB.out⟩⟩
            case round =>
             clear H'
             obtain ⟨x6_5,rfl,HA,HK5,BK663,BK668,HB⟩:=hrel
             cases gk with
             | zero=>exact absurd HA.out (by simp [q4_Chain.l2])
             | succ k5 =>
              have H:=HA.out
              clear HA
              simp only [q4_Chain.l2] at H
              by_cases c36 : x6_5 < x4_3
              case neg =>
               rw [if_neg c36] at H
               have c36b0 : decide (x6_5 < x4_3) = false:=decide_eq_false c36
               clear c36
               replace H':=am H
               go_wp2
               repeat (go_quiet (fail);try go_wp2)
               go_roundg k5
               case measure=>have:=HK1.out;have:=HJ10.out;have:=HK3.out;have:=HJ19.out;have:=HK5.out;omega
               case rel=>exact ⟨(wrap64 (x4_3 + 1)),(by first | rfl | (simp;done) | (simp [*];done)),H',⟨by have:=HK1.out;have:=HJ10.out;have:=HK3.out;have:=HJ19.out;have:=HK5.out;omega⟩,⟨BK663.out⟩,⟨HB.out⟩⟩
              rw [if_pos c36] at H
              have c36b0 : decide (x6_5 < x4_3) = true:=decide_eq_true c36
              clear c36
              by_cases c37 : 0≤x6_5
              case neg =>
               rw [if_neg c37] at H
               exact absurd H (by simp)
              rw [if_pos c37] at H
              have c37b0 : decide (0≤x6_5) = true:=decide_eq_true c37
              clear c37
              by_cases c38 : x6_5 < (lC.length : Int)
              case neg =>
               rw [if_neg c38] at H
               exact absurd H (by simp)
              rw [if_pos c38] at H
              have c38b0 : decide (x6_5 < (lC.length : Int)) = true:=decide_eq_true c38
              clear c38
              by_cases c39 : (((zqc lC x6_5).f0) == ((zqc lC x4_3).f0) && (((zqc lC x6_5).f1) == ((zqc lC x4_3).f1))) = true
              ·rw [if_pos c39] at H
               have c39b0 : (((zqc lC x6_5).f0) == ((zqc lC x4_3).f0) && (((zqc lC x6_5).f1) == ((zqc lC x4_3).f1))) = true:=c39
               (try (have c39b1 : decide (((zqc lC x6_5).f0) = ((zqc lC x4_3).f0) && (((zqc lC x6_5).f1) == ((zqc lC x4_3).f1))) = true:=by simpa using c39))
               (try (have c39b2 : (((zqc lC x6_5).f0) == ((zqc lC x4_3).f0) && (((zqc lC x6_5).f1) == ((zqc lC x4_3).f1))) = true:=by simpa using c39))
               clear c39
               obtain rfl:=Option.some.inj H
               have hnb40:=NB663_668.out
               have hnc40:=NB668_663.out
               obtain ⟨hcz41_0,hcz41_1⟩:=cO2 BK663.out
               have p672 : 0≤(x6_5 : Int):=of_decide_eq_true (by assumption)
               have q672 : x6_5 < (lC.length : Int):=of_decide_eq_true (by assumption)
               obtain ⟨ad672,e672,hx672_0,hx672_1⟩:=zg5 HRC.out x6_5 p672 q672
               obtain rfl : ad667 = ad672:=(by injection e672)
               replace hx672_0:=(HB.out.cell (wbl hx672_0)).trans hx672_0
               replace hx672_1:=(HB.out.cell (wbl hx672_1)).trans hx672_1
               replace p672:=eq_true p672
               replace q672:=eq_true q672
               obtain ⟨hcz42_0,hcz42_1⟩:=cO2 BK668.out
               have hfz42_0:=zqe BK668.out 0
               have hfz42_1:=zqe BK668.out 1
               go_wp2
               repeat (go_quiet (fail);try go_wp2)
               go_ret
               exact ⟨by first | rfl | (simp [*]<;>rfl),zqa HB.out _⟩
              ·rw [if_neg c39] at H
               have c39b0 : (((zqc lC x6_5).f0) == ((zqc lC x4_3).f0) && (((zqc lC x6_5).f1) == ((zqc lC x4_3).f1))) = false:=by simpa using c39
               (try (have c39b1 : decide (((zqc lC x6_5).f0) = ((zqc lC x4_3).f0) && (((zqc lC x6_5).f1) == ((zqc lC x4_3).f1))) = false:=by simpa using c39))
               (try (have c39b2 : (((zqc lC x6_5).f0) == ((zqc lC x4_3).f0) && (((zqc lC x6_5).f1) == ((zqc lC x4_3).f1))) = false:=by simpa using c39))
               (try (have c39b3 : ¬ (((zqc lC x6_5).f0) = ((zqc lC x4_3).f0) && (((zqc lC x6_5).f1) == ((zqc lC x4_3).f1))):=by simpa using c39))
               clear c39
               replace H':=am H
               have hnb43:=NB663_668.out
               have hnc43:=NB668_663.out
               obtain ⟨hcz44_0,hcz44_1⟩:=cO2 BK663.out
               have p672 : 0≤(x6_5 : Int):=of_decide_eq_true (by assumption)
               have q672 : x6_5 < (lC.length : Int):=of_decide_eq_true (by assumption)
               obtain ⟨ad672,e672,hx672_0,hx672_1⟩:=zg5 HRC.out x6_5 p672 q672
               obtain rfl : ad667 = ad672:=(by injection e672)
               replace hx672_0:=(HB.out.cell (wbl hx672_0)).trans hx672_0
               replace hx672_1:=(HB.out.cell (wbl hx672_1)).trans hx672_1
               replace p672:=eq_true p672
               replace q672:=eq_true q672
               obtain ⟨hcz45_0,hcz45_1⟩:=cO2 BK668.out
               have hfz45_0:=zqe BK668.out 0
               have hfz45_1:=zqe BK668.out 1
               go_wp2
               repeat (go_quiet (fail);try go_wp2)
               go_roundg k5
               case measure=>have:=HK1.out;have:=HJ10.out;have:=HK3.out;have:=HJ19.out;have:=HK5.out;omega
               case rel=>exact ⟨(wrap64 (x6_5 + 1)),(by first | rfl | (simp;done) | (simp [*];done)),H',⟨by have:=HK1.out;have:=HJ10.out;have:=HK3.out;have:=HJ19.out;have:=HK5.out;omega⟩,⟨BK663.out⟩,⟨BK668.out⟩,⟨zqa HB.out _⟩⟩
end
section
attribute [local go_sem] zwg zwf zwm zwl
def q4_Nozzle.f (lA : List (S27)) (lC : List (S66)) (a1 : Int) (a2 : Int) : Option (Bool):=(q4_in.f a1 0 (wrap64 ((lA.length : Int) - 1))).bind fun t711=>(if t711 = true then (if 0≤a1 then (if a1 < (lA.length : Int) then ((q4_in.f a2 0 (wrap64 ((((zqo lA a1).f1).length : Int) - 1))).bind fun t713=>(some t713)) else (none)) else (none)) else (some false))
theorem q4_Nozzle.calls (AX : Option Addr) (c0_0 : Nat) (lA : List (S27)) (AZ : Option Addr) (cC : Nat) (lC : List (S66)) (a1 : Int) (a2 : Int) (r : Bool) (w : World) (hra : Kd.C k27 w AX lA.length lA) (hc0_0 : lA.length≤c0_0) (hr0_1 : Kd.C k66 w AZ lC.length lC) (hc0_1 : lC.length≤cC) (h : q4_Nozzle.f lA lC a1 a2 = some r) :
 Calls Tryz.prog 36 #[.agg #[.slice AX lA.length c0_0,.slice AZ lC.length cC],.int .i64 a1,.int .i64 a2] w fun e w'=>e = .returned (.bool r)∧Below w.heap.size w w':=by
 have hu59:=Tryz.underlying59
 have HRA:=am hra
 have HCA:=am hc0_0
 clear hra hc0_0
 have HRC:=am hr0_1
 have HCC:=am hc0_1
 clear hr0_1 hc0_1
 have HB:=am (Below.refl w.heap.size w)
 have H : ((q4_in.f a1 0 (wrap64 ((lA.length : Int) - 1))).bind fun t711=>(if t711 = true then (if 0≤a1 then (if a1 < (lA.length : Int) then ((q4_in.f a2 0 (wrap64 ((((zqo lA a1).f1).length : Int) - 1))).bind fun t713=>(some t713)) else (none)) else (none)) else (some false))) = some r:=h
 clear h
 replace H:=obm H
 obtain ⟨t711,A40,H⟩:=H
 replace H : (if t711 = true then (if 0≤a1 then (if a1 < (lA.length : Int) then ((q4_in.f a2 0 (wrap64 ((((zqo lA a1).f1).length : Int) - 1))).bind fun t713=>(some t713)) else (none)) else (none)) else (some false)) = some r:=H
 have A4:=am A40
 clear A40
 by_cases c5 : t711 = true
 case neg =>
  replace c5:=Bool.eq_false_iff.mpr c5
  subst c5
  replace H : (some false) = some r:=by rw [if_neg (show ¬ (false = true) by decide)] at H;exact H
  obtain rfl:=Option.some.inj H
  go_enter Tryz.func36,Tryz.ntmps36
  go_wp2_with (first | ((refine zqm (N:=3) rfl ?_);(try (refine zqs (by rfl) ?_;dsimp only));refine zqk rfl (N:=3) rfl (cs:=#[.slice AX lA.length c0_0,.slice AZ lC.length cC]) (t:=59) ?hr ?_;(case hr=>go_simp;try rfl);intro gb710 hg w11 hbox hb;have BK710:=am (hbox);have GW710:=am (zqr (HB.out) hg);have GE710:=am (zqr (HB.out) hg);replace HB:=am (zqh (HB.out) hb);clear hb hbox hg;obtain ⟨hcz12_0,hcz12_1⟩:=cO2 BK710.out) | ((with_reducible refine zqq (f:=54) rfl ?_);refine zq8 (some 12) rfl rfl Tryz.func54 (by kernel_rfl) rfl #[.int .i64 a1,.int .i64 0,.int .i64 (wrap64 ((lA.length : Int) - 1))] rfl (by (try simp only [List.map_toArray,List.map_cons,List.map_nil]);first | done | rfl | (simp only [List.length_drop,List.length_take];rfl)) ?_;(with_reducible refine (q4_in.calls a1 0 (wrap64 ((lA.length : Int) - 1)) false _ A4.out).mono ?_);rintro e w' ⟨rfl,⟨nd,rfl⟩⟩;refine ⟨_,rfl,?_⟩))
  go_ret
  exact ⟨by first | rfl | (simp [*]<;>rfl),zqa HB.out _⟩
 subst c5
 replace H : (if 0≤a1 then (if a1 < (lA.length : Int) then ((q4_in.f a2 0 (wrap64 ((((zqo lA a1).f1).length : Int) - 1))).bind fun t713=>(some t713)) else (none)) else (none)) = some r:=by rw [if_pos rfl] at H;exact H
 by_cases c6 : 0≤a1
 case neg =>
  rw [if_neg c6] at H
  exact absurd H (by simp)
 rw [if_pos c6] at H
 have c6b0 : decide (0≤a1) = true:=decide_eq_true c6
 clear c6
 by_cases c7 : a1 < (lA.length : Int)
 case neg =>
  rw [if_neg c7] at H
  exact absurd H (by simp)
 rw [if_pos c7] at H
 have c7b0 : decide (a1 < (lA.length : Int)) = true:=decide_eq_true c7
 clear c7
 replace H:=obm H
 obtain ⟨t713,A80,H⟩:=H
 replace H : (some t713) = some r:=H
 have A8:=am A80
 clear A80
 obtain rfl:=Option.some.inj H
 go_enter Tryz.func36,Tryz.ntmps36
 go_wp2_with (first | ((refine zqm (N:=3) rfl ?_);(try (refine zqs (by rfl) ?_;dsimp only));refine zqk rfl (N:=3) rfl (cs:=#[.slice AX lA.length c0_0,.slice AZ lC.length cC]) (t:=59) ?hr ?_;(case hr=>go_simp;try rfl);intro gb710 hg w9 hbox hb;have BK710:=am (hbox);have GW710:=am (zqr (HB.out) hg);have GE710:=am (zqr (HB.out) hg);replace HB:=am (zqh (HB.out) hb);clear hb hbox hg;obtain ⟨hcz10_0,hcz10_1⟩:=cO2 BK710.out) | ((with_reducible refine zqq (f:=54) rfl ?_);refine zq8 (some 12) rfl rfl Tryz.func54 (by kernel_rfl) rfl #[.int .i64 a1,.int .i64 0,.int .i64 (wrap64 ((lA.length : Int) - 1))] rfl (by (try simp only [List.map_toArray,List.map_cons,List.map_nil]);first | done | rfl | (simp only [List.length_drop,List.length_take];rfl)) ?_;(with_reducible refine (q4_in.calls a1 0 (wrap64 ((lA.length : Int) - 1)) true _ A4.out).mono ?_);rintro e w' ⟨rfl,⟨nd,rfl⟩⟩;refine ⟨_,rfl,?_⟩;have p712 : 0≤(a1 : Int):=of_decide_eq_true (by assumption);have q712 : a1 < (lA.length : Int):=of_decide_eq_true (by assumption);obtain ⟨ad712,A712_0,c712_0,A712_2,c712_2,e712,hx712_0,hx712_1,hx712_2,hx712_3,hx712_4,hl712_0,hi712_0,hl712_2,hi712_2⟩:=zvf HRA.out a1 p712 q712;cases e712;replace hx712_0:=(HB.out.cell (wbl hx712_0)).trans hx712_0;replace hx712_1:=(HB.out.cell (wbl hx712_1)).trans hx712_1;replace hx712_2:=(HB.out.cell (wbl hx712_2)).trans hx712_2;replace hx712_3:=(HB.out.cell (wbl hx712_3)).trans hx712_3;replace hx712_4:=(HB.out.cell (wbl hx712_4)).trans hx712_4;have HR712_0:=am hi712_0;have HC712_0:=am hl712_0;clear hi712_0 hl712_0;have HR712_2:=am hi712_2;have HC712_2:=am hl712_2;clear hi712_2 hl712_2;replace p712:=eq_true p712;replace q712:=eq_true q712) | (go_at_call 54;(with_reducible refine (q4_in.calls a2 0 (wrap64 ((((zqo lA a1).f1).length : Int) - 1)) t713 _ A8.out).mono ?_);rintro e w' ⟨rfl,⟨nd,rfl⟩⟩))
 go_ret
 exact ⟨by first | rfl | (simp [*]<;>rfl),zqa HB.out _⟩
def q4_Out.l0 : Nat→Int→List Int→Int→List (S126)→Int→List (S48)→Int→Int→Option (List Int × Int)
 | 0,_,_,_,_,_,_,_,_=>none
 | k + 1,x1,x6,x7,x497000,x497001,x497002,x497003,x497004=>if x7 < (x497002.length : Int) then (if 0≤x7 then (if 0≤((zqt x497002 x7).f0) then (if ((zqt x497002 x7).f0) < (x497000.length : Int) then (if x6.length < 17592186044416 then (q4_Out.l0 k x1 (x6 ++ [wrap64 (Int.tdiv (wrap64 (((zq2 x497000 ((zqt x497002 x7).f0)).f2) * (mn 5 (mx 0 (wrap64 (x1 - ((zqt x497002 x7).f1))))))) 5)]) (wrap64 (x7 + 1)) x497000 x497001 x497002 x497003 x497004) else (none)) else (none)) else (none)) else (none)) else (some (x6,wrap64 (x497004 * (mx 0 (wrap64 (x1 - x497003))))))
def q4_Out.f (k : Nat) (lA : List (S126)) (aA : Int) (lB : List (S48)) (a0_3 : Int) (aC : Int) (a1 : Int) : Option (List Int × Int):=q4_Out.l0 k a1 ([] : List Int) 0 lA aA lB a0_3 aC
def q4_Out.T6 : Bool × List (List Nat × List Nat):=(true,[([],[]),([],[]),([1],[1]),([2],[2]),([],[]),([4],[4]),([3,5],[3,5]),([6],[6]),([7],[7]),([],[]),([],[]),([10],[10]),([9,11],[9,11]),([12],[12]),([13],[13]),([8,14],[8,14]),([15],[15]),([16],[16]),([0,17],[0,17]),([18,18,0,1,2,3,4,5,6,7,8,9,10,11,12,13,14,15,16,17,18],[0,18])])
def q4_Out.B6 : List Nat:=[0,0,2,6,0,16,62,126,254,0,0,1024,3584,7680,15872,32766,65534,131070,262143,524287]
theorem q4_Out.tab6 : rtab .any (opsOf Tryz.f44 6) = q4_Out.T6:=by kernel_rfl
theorem q4_Out.bits6 : zks q4_Out.T6.2 q4_Out.B6 = true:=by kernel_rfl
def q4_Out.T7 : Bool × List (List Nat × List Nat):=(true,[([],[]),([],[]),([1],[1]),([],[]),([],[]),([4],[4]),([3,5],[3,5]),([6],[6]),([2,7],[2,7]),([0,0],[0]),([8,9,0,1,2,3,4,5,6,7,8,9],[8])])
def q4_Out.B7 : List Nat:=[0,0,2,0,0,16,56,120,254,1,1023]
theorem q4_Out.tab7 : rtab .any (opsOf Tryz.f44 7) = q4_Out.T7:=by kernel_rfl
theorem q4_Out.bits7 : zks q4_Out.T7.2 q4_Out.B7 = true:=by kernel_rfl
theorem q4_Out.calls (k : Nat) (AX : Option Addr) (c0_0 : Nat) (lA : List (S126)) (aA : Int) (AY : Option Addr) (cB : Nat) (lB : List (S48)) (a0_3 : Int) (aC : Int) (a1 : Int) (r1 : List Int) (r2 : Int) (w : World) (hra : Kd.C k126 w AX lA.length lA) (hc0_0 : lA.length≤c0_0) (hrb : Kd.C k48 w AY lB.length lB) (hcb : lB.length≤cB) (h : q4_Out.f k lA aA lB a0_3 aC a1 = some (r1,r2)) :
 Calls Tryz.prog 44 #[.agg #[.slice AX lA.length c0_0,.int .i64 aA,.slice AY lB.length cB,.int .i64 a0_3,.int .i64 aC],.int .i64 a1] w fun e w'=>∃ v0_ : Value,e = .returned (.tuple #[v0_,.int .i64 r2])∧Kd.R (Kd.int .i64) 3 w' w.heap.size (fun _=>True) v0_ r1∧Below w.heap.size w w':=by
 have hu27:=Tryz.underlying27
 have hu48:=Tryz.underlying48
 have HRA:=am hra
 have HCA:=am hc0_0
 clear hra hc0_0
 have HRB:=am hrb
 have HCB:=am hcb
 clear hrb hcb
 have HB:=am (Below.refl w.heap.size w)
 have H : (q4_Out.l0 k a1 ([] : List Int) 0 lA aA lB a0_3 aC) = some (r1,r2):=h
 clear h
 replace H':=am H
 go_enter Tryz.func44,Tryz.ntmps44
 go_wp2_with (first | ((refine zqm (N:=2) rfl ?_);refine zqk rfl (N:=2) rfl (cs:=#[.slice AX lA.length c0_0,.int .i64 aA,.slice AY lB.length cB,.int .i64 a0_3,.int .i64 aC]) (t:=27) ?hr ?_;(case hr=>go_simp;try rfl);intro gb496 hg w3 hbox hb;have BK496:=am (hbox);have GW496:=am (zqr (HB.out) hg);have GE496:=am (zqr (HB.out) hg);replace HB:=am (zqh (HB.out) hb);clear hb hbox hg))
 go_loopg [6,7] k (fun kq v6 v7 w'=>∃ (x6_1 : List Int) (x7_1 : Int),v7 = .int .i64 x7_1∧zqg (q4_Out.l0 kq a1 x6_1 x7_1 lA aA lB a0_3 aC = some (r1,r2))∧zqg (kq≤k)∧zqg (Kd.R (Kd.int .i64) 3 w' w.heap.size (fun _=>True) v6 x6_1)∧zqg (w'.heap[gb496]? = some (.cells #[(.slice AX lA.length c0_0),.int .i64 aA,(.slice AY lB.length cB),.int .i64 a0_3,.int .i64 aC] 27 (0,0)))∧zqg (Below w.heap.size w w'))
 case atStart=>exact ⟨(([] : List Int)),(0),(by first | rfl | (simp;done) | (simp [*];done)),H',⟨Nat.le_refl _⟩,⟨by first | exact Kd.R_nil _ _ _ _ _ | exact Kd.N_nil _ _ _ _ _ | exact Kd.V_nil _ _ _ _ _ | exact Kd.Q_nil _ _ _ _ _ | exact Kd.S_nil _ _ _ _ _⟩,⟨BK496.out⟩,⟨HB.out⟩⟩
 case round =>
  clear H'
  obtain ⟨x6_1,x7_1,rfl,HA,HK1,HO_6,BK496,HB⟩:=hrel
  cases gk with
  | zero=>exact absurd HA.out (by simp [q4_Out.l0])
  | succ k1 =>
   have H:=HA.out
   clear HA
   simp only [q4_Out.l0] at H
   by_cases c4 : x7_1 < (lB.length : Int)
   case neg =>
    rw [if_neg c4] at H
    have c4b0 : decide (x7_1 < (lB.length : Int)) = false:=decide_eq_false c4
    clear c4
    obtain ⟨ji18,hji18⟩ : ∃ j_ : Int,(mx 0 (wrap64 (a1 - a0_3))) = j_:=⟨_,rfl⟩
    replace H : (some (x6_1,wrap64 (aC * (ji18)))) = some (r1,r2):=by first | (rw [hji18] at H;exact H) | (simp only [hji18] at H ⊢;exact H)
    (try (have hji18l : 0≤ji18:=by (rw [← hji18];unfold mx;(repeat' split)<;>omega)))
    (try (have hji18m : 0≤ji18:=by omega))
    have hji18_ : (if 0 < (wrap64 (a1 - a0_3)) then (wrap64 (a1 - a0_3)) else 0) = ji18:=hji18
    simp only [Option.some.injEq,Prod.mk.injEq] at H
    obtain ⟨rfl,rfl⟩:=H
    obtain ⟨hcz19_0,hcz19_1,hcz19_2,hcz19_3,hcz19_4⟩:=cO5 BK496.out
    try go_wp2
    replace HO_6:=am (Kd.R_drew HO_6.out)
    replace BK496:=am (zqj BK496.out)
    replace HB:=am (zwe HB.out)
    refine zk8 (n:=11) (S:=fun w'=>w'.cell? ⟨gb496,0,none⟩ = some (.slice AX lA.length c0_0)∧w'.cell? ⟨gb496,1,none⟩ = some (.int .i64 aA)∧w'.cell? ⟨gb496,2,none⟩ = some (.slice AY lB.length cB)∧w'.cell? ⟨gb496,3,none⟩ = some (.int .i64 a0_3)∧w'.cell? ⟨gb496,4,none⟩ = some (.int .i64 aC)) (ds:=[]) (ba 11 0) (by kernel_rfl) rfl rfl ⟨(zqb BK496.out 0).trans rfl,(zqb BK496.out 1).trans rfl,(zqb BK496.out 2).trans rfl,(zqb BK496.out 3).trans rfl,(zqb BK496.out 4).trans rfl⟩ (fun hHeld=>?_);refine zby q4_Out.tab7 q4_Out.bits7 (fun HT_ HW_=>?_)
    generalize wr.drew = w20 at HO_6 BK496 HB hHeld ⊢
    refine pure_ (i:=0) (N:=some 40) (v:=?_) (a':=?_) (ba 11 1) rfl rfl (zwh HT_.out (by kernel_rfl)) (fun _ _ _ h=>h) (Or.inl ⟨by rfl,?_⟩) ?_ ?_
    rotate_left
    ·intro w'
     go_simp
     with_reducible rfl
    rotate_left
    ·simp only [Act.put,NRM]
     rfl
    refine pure_ (i:=1) (N:=some 41) (v:=?_) (a':=?_) (ba 11 3) rfl rfl (zwh HT_.out (by kernel_rfl)) (fun _ _ _ h=>h) (Or.inl ⟨by rfl,?_⟩) ?_ ?_
    rotate_left
    ·intro w'
     go_simp
     with_reducible rfl
    rotate_left
    ·simp only [Act.put,NRM]
     rfl
    refine pure_ (i:=3) (N:=some 43) (v:=?_) (a':=?_) (ba 11 11) rfl rfl (zwh HT_.out (by kernel_rfl)) (fun _ _ _ h=>h) (Or.inl ⟨by rfl,?_⟩) ?_ ?_
    rotate_left
    ·intro w'
     go_simp
     with_reducible rfl
    rotate_left
    ·simp only [Act.put,NRM]
     rfl
    refine pure_ (i:=4) (N:=some 44) (v:=?_) (a':=?_) (ba 11 27) rfl rfl (zwh HT_.out (by kernel_rfl)) (fun _ _ _ h=>h) (Or.inl ⟨by rfl,?_⟩) ?_ ?_
    rotate_left
    ·intro w'
     go_simp
     with_reducible rfl
    rotate_left
    ·simp only [Act.put,NRM]
     rfl
    refine pure_ (i:=9) (N:=some 4) (v:=?_) (a':=?_) (ba 11 539) rfl rfl (zwh HT_.out (by kernel_rfl)) (fun _ _ _ h=>h) (Or.inl ⟨by rfl,?_⟩) ?_ ?_
    rotate_left
    ·intro w'
     go_simp
     with_reducible rfl
    rotate_left
    ·simp only [Act.put,NRM]
     rfl
    refine take_ (i:=2) (N:=some 42) (v:=?_) (a':=?_) (ba 11 543) rfl rfl (zv3 HT_.out HW_.out (by kernel_rfl)) (fun _ _ _ h=>h) (Or.inl ⟨by rfl,?_⟩) hHeld ?_ ?_
    rotate_left
    ·rintro w' ⟨s0,s1,s2,s3,s4⟩
     go_simp
     with_reducible rfl
    rotate_left
    ·simp only [Act.put,NRM]
     rfl
    refine take_ (i:=5) (N:=some 45) (v:=?_) (a':=?_) (ba 11 575) rfl rfl (zv3 HT_.out HW_.out (by kernel_rfl)) (fun _ _ _ h=>h) (Or.inl ⟨by rfl,?_⟩) hHeld ?_ ?_
    rotate_left
    ·rintro w' ⟨s0,s1,s2,s3,s4⟩
     go_simp
     with_reducible rfl
    rotate_left
    ·simp only [Act.put,NRM]
     rfl
    refine pure_ (i:=6) (N:=some 46) (v:=?_) (a':=?_) (ba 11 639) rfl rfl (zwh HT_.out (by kernel_rfl)) (fun _ _ _ h=>h) (Or.inl ⟨by rfl,?_⟩) ?_ ?_
    rotate_left
    ·intro w'
     go_simp
     with_reducible rfl
    rotate_left
    ·simp only [Act.put,NRM]
     rfl
    refine pure_ (i:=7) (N:=some 47) (v:=?_) (a':=?_) (ba 11 767) rfl rfl (zwh HT_.out (by kernel_rfl)) (fun _ _ _ h=>h) (Or.inl ⟨by rfl,?_⟩) ?_ ?_
    rotate_left
    ·intro w'
     go_simp
     with_reducible rfl
    rotate_left
    ·simp only [Act.put,NRM]
     rfl
    refine pure_ (i:=8) (N:=some 48) (v:=?_) (a':=?_) (ba 11 1023) rfl rfl (zwh HT_.out (by kernel_rfl)) (fun _ _ _ h=>h) (Or.inl ⟨by rfl,?_⟩) ?_ ?_
    rotate_left
    ·intro w'
     go_simp
     with_reducible rfl
    rotate_left
    ·simp only [Act.put,NRM]
     rfl
    refine pure_ (i:=10) (N:=some 5) (v:=?_) (a':=?_) (ba 11 2047) rfl rfl (zwh HT_.out (by kernel_rfl)) (fun _ _ _ h=>h) (Or.inl ⟨by rfl,?_⟩) ?_ ?_
    rotate_left
    ·intro w'
     go_simp
     with_reducible rfl
    rotate_left
    ·simp only [Act.put,NRM]
     rfl
    refine done_ (done_of HT_.out (by kernel_rfl)) ?_
    try go_wp2
    go_ret2
    exact ⟨_,by first | rfl | (simp [errW_none,errW_some]<;>rfl) | (simp only [← hji18];first | rfl | (simp [errW_none,errW_some]<;>rfl)) | (simp [*,errW_none,errW_some]<;>rfl),by (with_reducible repeat (first | apply Kd.R_alloc | apply Kd.R_drewN | apply Kd.R_drew));exact HO_6.out,HB.out⟩
   rw [if_pos c4] at H
   have c4b0 : decide (x7_1 < (lB.length : Int)) = true:=decide_eq_true c4
   clear c4
   by_cases c5 : 0≤x7_1
   case neg =>
    rw [if_neg c5] at H
    exact absurd H (by simp)
   rw [if_pos c5] at H
   have c5b0 : decide (0≤x7_1) = true:=decide_eq_true c5
   clear c5
   by_cases c6 : 0≤((zqt lB x7_1).f0)
   case neg =>
    rw [if_neg c6] at H
    exact absurd H (by simp)
   rw [if_pos c6] at H
   have c6b0 : decide (0≤((zqt lB x7_1).f0)) = true:=decide_eq_true c6
   clear c6
   by_cases c7 : ((zqt lB x7_1).f0) < (lA.length : Int)
   case neg =>
    rw [if_neg c7] at H
    exact absurd H (by simp)
   rw [if_pos c7] at H
   have c7b0 : decide (((zqt lB x7_1).f0) < (lA.length : Int)) = true:=decide_eq_true c7
   clear c7
   obtain ⟨ji8,hji8⟩ : ∃ j_ : Int,(mx 0 (wrap64 (a1 - ((zqt lB x7_1).f1)))) = j_:=⟨_,rfl⟩
   replace H : (if x6_1.length < 17592186044416 then (q4_Out.l0 k1 a1 (x6_1 ++ [wrap64 (Int.tdiv (wrap64 (((zq2 lA ((zqt lB x7_1).f0)).f2) * (mn 5 (ji8)))) 5)]) (wrap64 (x7_1 + 1)) lA aA lB a0_3 aC) else (none)) = some (r1,r2):=by first | (rw [hji8] at H;exact H) | (simp only [hji8] at H ⊢;exact H)
   have hji8_ : (if 0 < (wrap64 (a1 - ((zqt lB x7_1).f1))) then (wrap64 (a1 - ((zqt lB x7_1).f1))) else 0) = ji8:=hji8
   obtain ⟨ji9,hji9⟩ : ∃ j_ : Int,(mn 5 (ji8)) = j_:=⟨_,rfl⟩
   replace H : (if x6_1.length < 17592186044416 then (q4_Out.l0 k1 a1 (x6_1 ++ [wrap64 (Int.tdiv (wrap64 (((zq2 lA ((zqt lB x7_1).f0)).f2) * (ji9))) 5)]) (wrap64 (x7_1 + 1)) lA aA lB a0_3 aC) else (none)) = some (r1,r2):=by first | (rw [hji9] at H;exact H) | (simp only [hji9] at H ⊢;exact H)
   have hji9_ : (if (ji8) < 5 then (ji8) else 5) = ji9:=hji9
   by_cases c10 : x6_1.length < 17592186044416
   case neg =>
    rw [if_neg c10] at H
    exact absurd H (by simp)
   rw [if_pos c10] at H
   have LMc10:=am c10
   clear c10
   obtain ⟨y500,hy500⟩ : ∃ y_ : List Int,y_ = (x6_1 ++ [wrap64 (Int.tdiv (wrap64 (((zq2 lA ((zqt lB x7_1).f0)).f2) * (ji9))) 5)]):=⟨_,rfl⟩
   replace H : (q4_Out.l0 k1 a1 y500 (wrap64 (x7_1 + 1)) lA aA lB a0_3 aC) = some (r1,r2):=by first | (rw [hy500];with_reducible exact H) | (have H2_:=(Option.bind_some _ _).symm.trans H;rw [hy500];with_reducible exact H2_) | (have H2_:=(Option.bind_some _ _).symm.trans H;with_reducible exact H2_) | with_reducible exact H | (rw [hy500];exact H) | exact H
   have Ny500:=am hy500
   clear hy500
   replace H':=am H
   obtain ⟨hcz11_0,hcz11_1,hcz11_2,hcz11_3,hcz11_4⟩:=cO5 BK496.out
   have p497 : 0≤(x7_1 : Int):=of_decide_eq_true (by assumption)
   have q497 : x7_1 < (lB.length : Int):=of_decide_eq_true (by assumption)
   obtain ⟨ad497,e497,hx497_0,hx497_1⟩:=zxk HRB.out x7_1 p497 q497
   cases e497
   replace hx497_0:=(HB.out.cell (wbl hx497_0)).trans hx497_0
   replace hx497_1:=(HB.out.cell (wbl hx497_1)).trans hx497_1
   replace p497:=eq_true p497
   replace q497:=eq_true q497
   try go_wp2_with (first | ((refine zqm (N:=8) rfl ?_);refine zqk rfl (N:=8) rfl (cs:=#[.int .i64 0,.int .i64 0]) (t:=48) ?hr ?_;(case hr=>go_simp;try rfl);intro gb498 hg w12 hbox hb;have BK498:=am (hbox);have GW498:=am (zqr (HB.out) hg);have GE498:=am (zqr (HB.out) hg);have NB496_498:=am (zv4 BK496.out hg);have NB498_496:=am (zvk BK496.out hg);replace HO_6:=am (Kd.R_below HO_6.out hb);replace BK496:=(kmv hb BK496);replace HB:=am (zqh (HB.out) hb);clear hb hbox hg;have hnb13:=NB498_496.out;have hnc13:=NB496_498.out;obtain ⟨hcz14_0,hcz14_1⟩:=cO2 BK498.out;have hfz14_0:=zqe BK498.out 0;have hfz14_1:=zqe BK498.out 1))
   have n0_ : zqg (Kd.R (Kd.int .i64) 3 ((w12.setCell ⟨gb498,0,none⟩ (.int .i64 ((zqt lB x7_1).f0))).setCell ⟨gb498,1,none⟩ (.int .i64 ((zqt lB x7_1).f1))) w.heap.size (fun _=>True) u6 x6_1):=⟨by (with_reducible repeat (first | apply Kd.R_alloc | apply Kd.R_drewN | apply Kd.R_drew));exact Kd.R_mono (Kd.R_far (p:=⟨gb498,1,none⟩) (Kd.R_far (p:=⟨gb498,0,none⟩) (Kd.R_types HO_6.out BK498.out (by decide)) (fun _ hk=>hk.2) (.int .i64 ((zqt lB x7_1).f0))) (fun _ hk=>hk.2) (.int .i64 ((zqt lB x7_1).f1))) (fun _ hk=>trivial)⟩
   have n1_ : zqg (((w12.setCell ⟨gb498,0,none⟩ (.int .i64 ((zqt lB x7_1).f0))).setCell ⟨gb498,1,none⟩ (.int .i64 ((zqt lB x7_1).f1))).heap[gb496]? = some (.cells #[.slice AX lA.length c0_0,.int .i64 aA,.slice (some ad497) lB.length cB,.int .i64 a0_3,.int .i64 aC] 27 (0,0))):=⟨(zq5 (zq5 BK496.out NB496_498.out _) NB496_498.out _)⟩
   have n2_ : zqg (((w12.setCell ⟨gb498,0,none⟩ (.int .i64 ((zqt lB x7_1).f0))).setCell ⟨gb498,1,none⟩ (.int .i64 ((zqt lB x7_1).f1))).heap[gb498]? = some (.cells #[.int .i64 ((zqt lB x7_1).f0),.int .i64 ((zqt lB x7_1).f1)] 48 (0,0))):=⟨(zwb (cs:=#[.int .i64 ((zqt lB x7_1).f0),.int .i64 0]) (zwb (cs:=#[.int .i64 0,.int .i64 0]) BK498.out 0 _ rfl) 1 _ rfl)⟩
   have n3_ : zqg (Below w.heap.size w ((w12.setCell ⟨gb498,0,none⟩ (.int .i64 ((zqt lB x7_1).f0))).setCell ⟨gb498,1,none⟩ (.int .i64 ((zqt lB x7_1).f1)))):=⟨by repeat (first | (with_reducible first | exact HB.out | refine zqd ?_ (zqg.out (by assumption)) | apply zqf | apply zqa) | exact HB.out)⟩
   (try clear HO_6)
   (try clear BK496)
   (try clear BK498)
   (try clear HB)
   generalize ((w12.setCell ⟨gb498,0,none⟩ (.int .i64 ((zqt lB x7_1).f0))).setCell ⟨gb498,1,none⟩ (.int .i64 ((zqt lB x7_1).f1))) = w15 at n0_ n1_ n2_ n3_ ⊢
   have HO_6:=n0_
   have BK496:=n1_
   have BK498:=n2_
   have HB:=n3_
   clear n0_ n1_ n2_ n3_
   replace HO_6:=am (Kd.R_drew HO_6.out)
   replace BK496:=am (zqj BK496.out)
   replace BK498:=am (zqj BK498.out)
   replace HB:=am (zwe HB.out)
   have p499 : 0≤(((zqt lB x7_1).f0) : Int):=of_decide_eq_true (by assumption)
   have q499 : ((zqt lB x7_1).f0) < (lA.length : Int):=of_decide_eq_true (by assumption)
   obtain ⟨ad499,e499,hx499_0,hx499_1,hx499_2⟩:=zk5 HRA.out ((zqt lB x7_1).f0) p499 q499
   have hw499_2:=hx499_2
   have hw499_1:=hx499_1
   have hw499_0:=hx499_0
   cases e499
   replace hx499_0:=(HB.out.cell (wbl hx499_0)).trans hx499_0
   replace hx499_1:=(HB.out.cell (wbl hx499_1)).trans hx499_1
   replace hx499_2:=(HB.out.cell (wbl hx499_2)).trans hx499_2
   replace p499:=eq_true p499
   replace q499:=eq_true q499
   refine zk8 (n:=20) (S:=fun w'=>w'.cell? ⟨gb496,0,none⟩ = some (.slice (some ad499) lA.length c0_0)∧w'.cell? ⟨gb496,1,none⟩ = some (.int .i64 aA)∧w'.cell? ⟨gb496,2,none⟩ = some (.slice (some ad497) lB.length cB)∧w'.cell? ⟨gb496,3,none⟩ = some (.int .i64 a0_3)∧w'.cell? ⟨gb496,4,none⟩ = some (.int .i64 aC)∧w'.cell? ⟨gb498,0,none⟩ = some (.int .i64 ((zqt lB x7_1).f0))∧w'.cell? ⟨gb498,1,none⟩ = some (.int .i64 ((zqt lB x7_1).f1))∧w'.cell? (ad499.add ((((zqt lB x7_1).f0)).toNat * 3)) = some (.int .i64 ((zq2 lA ((zqt lB x7_1).f0)).f0))∧w'.cell? ⟨(ad499.add ((((zqt lB x7_1).f0)).toNat * 3)).block,(ad499.add ((((zqt lB x7_1).f0)).toNat * 3)).off + 1,none⟩ = some (.int .i64 ((zq2 lA ((zqt lB x7_1).f0)).f1))∧w'.cell? ⟨(ad499.add ((((zqt lB x7_1).f0)).toNat * 3)).block,(ad499.add ((((zqt lB x7_1).f0)).toNat * 3)).off + 2,none⟩ = some (.int .i64 ((zq2 lA ((zqt lB x7_1).f0)).f2))) (ds:=[]) (ba 20 0) (by kernel_rfl) rfl rfl ⟨(zqb BK496.out 0).trans rfl,(zqb BK496.out 1).trans rfl,(zqb BK496.out 2).trans rfl,(zqb BK496.out 3).trans rfl,(zqb BK496.out 4).trans rfl,(zqb BK498.out 0).trans rfl,(zqb BK498.out 1).trans rfl,((HB.out.cell (wbl hw499_0)).trans hw499_0),((HB.out.cell (wbl hw499_1)).trans hw499_1),((HB.out.cell (wbl hw499_2)).trans hw499_2)⟩ (fun hHeld=>?_);refine zby q4_Out.tab6 q4_Out.bits6 (fun HT_ HW_=>?_)
   generalize w15.drew = w16 at HO_6 BK496 BK498 HB hx499_0 hx499_1 hx499_2 hHeld ⊢
   refine pure_ (i:=0) (N:=some 21) (v:=?_) (a':=?_) (ba 20 1) rfl rfl (zwh HT_.out (by kernel_rfl)) (fun _ _ _ h=>h) (Or.inl ⟨by rfl,?_⟩) ?_ ?_
   rotate_left
   ·intro w'
    go_simp
    with_reducible rfl
   rotate_left
   ·simp only [Act.put,NRM]
    rfl
   refine pure_ (i:=1) (N:=some 22) (v:=?_) (a':=?_) (ba 20 3) rfl rfl (zwh HT_.out (by kernel_rfl)) (fun _ _ _ h=>h) (Or.inl ⟨by rfl,?_⟩) ?_ ?_
   rotate_left
   ·intro w'
    go_simp
    with_reducible rfl
   rotate_left
   ·simp only [Act.put,NRM]
    rfl
   refine pure_ (i:=2) (N:=some 23) (v:=?_) (a':=?_) (ba 20 7) rfl rfl (zwh HT_.out (by kernel_rfl)) (fun _ _ _ h=>h) (Or.inl ⟨by rfl,?_⟩) ?_ ?_
   rotate_left
   ·intro w'
    go_simp
    with_reducible rfl
   rotate_left
   ·simp only [Act.put,NRM]
    rfl
   refine pure_ (i:=4) (N:=some 25) (v:=?_) (a':=?_) (ba 20 23) rfl rfl (zwh HT_.out (by kernel_rfl)) (fun _ _ _ h=>h) (Or.inl ⟨by rfl,?_⟩) ?_ ?_
   rotate_left
   ·intro w'
    go_simp
    with_reducible rfl
   rotate_left
   ·simp only [Act.put,NRM]
    rfl
   refine pure_ (i:=9) (N:=some 30) (v:=?_) (a':=?_) (ba 20 535) rfl rfl (zwh HT_.out (by kernel_rfl)) (fun _ _ _ h=>h) (Or.inl ⟨by rfl,?_⟩) ?_ ?_
   rotate_left
   ·intro w'
    go_simp
    with_reducible rfl
   rotate_left
   ·simp only [Act.put,NRM]
    rfl
   refine pure_ (i:=10) (N:=some 31) (v:=?_) (a':=?_) (ba 20 1559) rfl rfl (zwh HT_.out (by kernel_rfl)) (fun _ _ _ h=>h) (Or.inl ⟨by rfl,?_⟩) ?_ ?_
   rotate_left
   ·intro w'
    go_simp
    with_reducible rfl
   rotate_left
   ·simp only [Act.put,NRM]
    rfl
   refine take_ (i:=3) (N:=some 24) (v:=?_) (a':=?_) (ba 20 1567) rfl rfl (zv3 HT_.out HW_.out (by kernel_rfl)) (fun _ _ _ h=>h) (Or.inl ⟨by rfl,?_⟩) hHeld ?_ ?_
   rotate_left
   ·rintro w' ⟨s0,s1,s2,s3,s4,s5,s6,s7,s8,s9⟩
    go_simp
    with_reducible rfl
   rotate_left
   ·simp only [Act.put,NRM]
    rfl
   refine take_ (i:=5) (N:=some 26) (v:=?_) (a':=?_) (ba 20 1599) rfl rfl (zv3 HT_.out HW_.out (by kernel_rfl)) (fun _ _ _ h=>h) (Or.inl ⟨by rfl,?_⟩) hHeld ?_ ?_
   rotate_left
   ·rintro w' ⟨s0,s1,s2,s3,s4,s5,s6,s7,s8,s9⟩
    go_simp
    with_reducible rfl
   rotate_left
   ·simp only [Act.put,NRM]
    rfl
   refine pure_ (i:=6) (N:=some 27) (v:=?_) (a':=?_) (ba 20 1663) rfl rfl (zwh HT_.out (by kernel_rfl)) (fun _ _ _ h=>h) (Or.inl ⟨by rfl,?_⟩) ?_ ?_
   rotate_left
   ·intro w'
    go_simp
    with_reducible rfl
   rotate_left
   ·simp only [Act.put,NRM]
    rfl
   refine pure_ (i:=7) (N:=some 28) (v:=?_) (a':=?_) (ba 20 1791) rfl rfl (zwh HT_.out (by kernel_rfl)) (fun _ _ _ h=>h) (Or.inl ⟨by rfl,?_⟩) ?_ ?_
   rotate_left
   ·intro w'
    go_simp
    with_reducible rfl
   rotate_left
   ·simp only [Act.put,NRM]
    rfl
   refine take_ (i:=8) (N:=some 29) (v:=?_) (a':=?_) (ba 20 2047) rfl rfl (zv3 HT_.out HW_.out (by kernel_rfl)) (fun _ _ _ h=>h) (Or.inl ⟨by rfl,?_⟩) hHeld ?_ ?_
   rotate_left
   ·rintro w' ⟨s0,s1,s2,s3,s4,s5,s6,s7,s8,s9⟩
    go_simp
    with_reducible rfl
   rotate_left
   ·simp only [Act.put,NRM]
    rfl
   refine take_ (i:=11) (N:=some 32) (v:=?_) (a':=?_) (ba 20 4095) rfl rfl (zv3 HT_.out HW_.out (by kernel_rfl)) (fun _ _ _ h=>h) (Or.inl ⟨by rfl,?_⟩) hHeld ?_ ?_
   rotate_left
   ·rintro w' ⟨s0,s1,s2,s3,s4,s5,s6,s7,s8,s9⟩
    go_simp
    with_reducible rfl
   rotate_left
   ·simp only [Act.put,NRM]
    rfl
   refine pure_ (i:=12) (N:=some 33) (v:=?_) (a':=?_) (ba 20 8191) rfl rfl (zwh HT_.out (by kernel_rfl)) (fun _ _ _ h=>h) (Or.inl ⟨by rfl,?_⟩) ?_ ?_
   rotate_left
   ·intro w'
    go_simp
    with_reducible rfl
   rotate_left
   ·simp only [Act.put,NRM]
    rfl
   refine pure_ (i:=13) (N:=some 34) (v:=?_) (a':=?_) (ba 20 16383) rfl rfl (zwh HT_.out (by kernel_rfl)) (fun _ _ _ h=>h) (Or.inl ⟨by rfl,?_⟩) ?_ ?_
   rotate_left
   ·intro w'
    go_simp
    with_reducible rfl
   rotate_left
   ·simp only [Act.put,NRM]
    rfl
   refine pure_ (i:=14) (N:=some 35) (v:=?_) (a':=?_) (ba 20 32767) rfl rfl (zwh HT_.out (by kernel_rfl)) (fun _ _ _ h=>h) (Or.inl ⟨by rfl,?_⟩) ?_ ?_
   rotate_left
   ·intro w'
    go_simp
    with_reducible rfl
   rotate_left
   ·simp only [Act.put,NRM]
    rfl
   refine pure_ (i:=15) (N:=some 36) (v:=?_) (a':=?_) (ba 20 65535) rfl rfl (zwh HT_.out (by kernel_rfl)) (fun _ _ _ h=>h) (Or.inl ⟨by rfl,?_⟩) ?_ ?_
   rotate_left
   ·intro w'
    go_simp
    with_reducible rfl
   rotate_left
   ·simp only [Act.put,NRM]
    rfl
   refine pure_ (i:=16) (N:=some 37) (v:=?_) (a':=?_) (ba 20 131071) rfl rfl (zwh HT_.out (by kernel_rfl)) (fun _ _ _ h=>h) (Or.inl ⟨by rfl,?_⟩) ?_ ?_
   rotate_left
   ·intro w'
    go_simp
    with_reducible rfl
   rotate_left
   ·simp only [Act.put,NRM]
    rfl
   refine one_ (i:=17) (N:=some 38) (ba 20 262143) rfl rfl (one_of HT_.out (by kernel_rfl)) (by decide) (fun K hK=>?_)
   refine value_ (w1:=?_) (v:=?_) (by rfl) rfl ?_ ?_
   rotate_left 2
   ·go_simp
    constructor
    ·rfl
    ·rfl
   refine hK.out _ _ ⟨(zqb (zql BK496.out _) 0).trans rfl,(zqb (zql BK496.out _) 1).trans rfl,(zqb (zql BK496.out _) 2).trans rfl,(zqb (zql BK496.out _) 3).trans rfl,(zqb (zql BK496.out _) 4).trans rfl,(zqb (zql BK498.out _) 0).trans rfl,(zqb (zql BK498.out _) 1).trans rfl,(World.cell?_alloc_lt _ _ _ (World.block_lt_of_cell? _ _ (((HB.out.cell (wbl hw499_0)).trans hw499_0)))).trans (((HB.out.cell (wbl hw499_0)).trans hw499_0)),(World.cell?_alloc_lt _ _ _ (World.block_lt_of_cell? _ _ (((HB.out.cell (wbl hw499_1)).trans hw499_1)))).trans (((HB.out.cell (wbl hw499_1)).trans hw499_1)),(World.cell?_alloc_lt _ _ _ (World.block_lt_of_cell? _ _ (((HB.out.cell (wbl hw499_2)).trans hw499_2)))).trans (((HB.out.cell (wbl hw499_2)).trans hw499_2))⟩ (fun hHeld=>?_)
   clear hK K
   refine norm_ (a':=?_) ?_ ?_
   rotate_left
   ·show Act.put _ (some 38) _ = _
    simp only [Act.put,NRM]
    rfl
   refine one_ (i:=18) (N:=some 39) (ba 20 524287) rfl rfl (one_of HT_.out (by kernel_rfl)) (by decide) (fun K hK=>?_)
   refine Kd.R_append_step (Kd.int .i64) (w0:=w) w.heap.size (by rfl) (.tmp 21) (.tmp 38) 28 3 (.int .i64 0) 8 rfl Tryz.underlying28 info3 rfl (by decide) (by omega) u6 x6_1 (wrap64 (Int.tdiv (wrap64 (((zq2 lA ((zqt lB x7_1).f0)).f2) * (ji9))) 5)) [.int .i64 (wrap64 (Int.tdiv (wrap64 (((zq2 lA ((zqt lB x7_1).f0)).f2) * (ji9))) 5))] (fun _=>True) (fun _=>False) rfl rfl ?aP (fun _ hk=>hk.elim) ?aF ?aO ?aB ?aS ?aL ?_
   (case aP=>exact rfl)
   (case aB=>exact (HB.out))
   (case aF=>exact (fun _ _=>trivial))
   (case aO=>exact HO_6.out)
   (case aS=>exact (zqv (HB.out)))
   (case aL=>have:=LMc10.out;omega)
   intro v501 w17 ho hb hg hat
   rw [← Ny500.out] at ho
   have n0_:=am (zqx (g:=gb496) (o:=.cells #[.slice (some ad499) lA.length c0_0,.int .i64 aA,.slice (some ad497) lB.length cB,.int .i64 a0_3,.int .i64 aC] 27 (0,0)) BK496.out hg (Kd.R_ne HO_6.out BK496.out (by decide)))
   have n1_:=am (zqx (g:=gb498) (o:=.cells #[.int .i64 ((zqt lB x7_1).f0),.int .i64 ((zqt lB x7_1).f1)] 48 (0,0)) BK498.out hg (Kd.R_ne HO_6.out BK498.out (by decide)))
   have n2_:=am (hb)
   have n3_:=am (ho)
   clear BK496
   clear BK498
   clear HB
   clear HO_6
   have BK496:=n0_
   have BK498:=n1_
   have HB:=n2_
   have HO502:=n3_
   clear n0_ n1_ n2_ n3_
   clear ho hb hg hat
   refine hK.out _ _ ⟨(zqb BK496.out 0).trans rfl,(zqb BK496.out 1).trans rfl,(zqb BK496.out 2).trans rfl,(zqb BK496.out 3).trans rfl,(zqb BK496.out 4).trans rfl,(zqb BK498.out 0).trans rfl,(zqb BK498.out 1).trans rfl,((HB.out.cell (wbl hw499_0)).trans hw499_0),((HB.out.cell (wbl hw499_1)).trans hw499_1),((HB.out.cell (wbl hw499_2)).trans hw499_2)⟩ (fun hHeld=>?_)
   clear hK K
   refine norm_ (a':=?_) ?_ ?_
   rotate_left
   ·show Act.put _ (some 39) _ = _
    simp only [Act.put,NRM]
    rfl
   refine pure_ (i:=19) (N:=some 6) (v:=?_) (a':=?_) (ba 20 1048575) rfl rfl (zwh HT_.out (by kernel_rfl)) (fun _ _ _ h=>h) (Or.inl ⟨by rfl,?_⟩) ?_ ?_
   rotate_left
   ·intro w'
    go_simp
    with_reducible rfl
   rotate_left
   ·simp only [Act.put,NRM]
    rfl
   refine done_ (done_of HT_.out (by kernel_rfl)) ?_
   try go_wp2
   go_roundg k1
   case measure=>have:=HK1.out;omega
   case rel=>exact ⟨(y500),(wrap64 (x7_1 + 1)),(by first | rfl | (simp;done) | (simp [*];done)),H',⟨by have:=HK1.out;omega⟩,⟨by (with_reducible repeat (first | apply Kd.R_alloc | apply Kd.R_drewN | apply Kd.R_drew));exact HO502.out⟩,⟨BK496.out⟩,⟨HB.out⟩⟩
def q4_Total.l0 : Nat→List Int→Int→Int→Option (Int)
 | 0,_,_,_=>none
 | k + 1,x5,x6,x7=>if x7 < (x5.length : Int) then (if 0≤x7 then (q4_Total.l0 k x5 (wrap64 (x6 + (rd x5 x7))) (wrap64 (x7 + 1))) else (none)) else (some x6)
def q4_Total.f (k : Nat) (lA : List (S126)) (aA : Int) (lB : List (S48)) (a0_3 : Int) (aC : Int) (a1 : Int) : Option (Int):=(q4_Out.f k lA aA lB a0_3 aC a1).bind fun bt504=>(q4_Total.l0 k bt504.1 bt504.2 0)
theorem q4_Total.calls (k : Nat) (AX : Option Addr) (c0_0 : Nat) (lA : List (S126)) (aA : Int) (AY : Option Addr) (cB : Nat) (lB : List (S48)) (a0_3 : Int) (aC : Int) (a1 : Int) (r : Int) (w : World) (hra : Kd.C k126 w AX lA.length lA) (hc0_0 : lA.length≤c0_0) (hrb : Kd.C k48 w AY lB.length lB) (hcb : lB.length≤cB) (h : q4_Total.f k lA aA lB a0_3 aC a1 = some r) :
 Calls Tryz.prog 114 #[.agg #[.slice AX lA.length c0_0,.int .i64 aA,.slice AY lB.length cB,.int .i64 a0_3,.int .i64 aC],.int .i64 a1] w fun e w'=>e = .returned (.int .i64 r)∧Below w.heap.size w w':=by
 have hu27:=Tryz.underlying27
 have HRA:=am hra
 have HCA:=am hc0_0
 clear hra hc0_0
 have HRB:=am hrb
 have HCB:=am hcb
 clear hrb hcb
 have HB:=am (Below.refl w.heap.size w)
 have H : ((q4_Out.f k lA aA lB a0_3 aC a1).bind fun bt504=>(q4_Total.l0 k bt504.1 bt504.2 0)) = some r:=h
 clear h
 replace H:=obm H
 obtain ⟨⟨t504,t507⟩,A30,H⟩:=H
 replace H : (q4_Total.l0 k t504 t507 0) = some r:=H
 have A3:=am A30
 clear A30
 replace H':=am H
 go_enter Tryz.func114,Tryz.ntmps114
 go_wp2_with (first | ((refine zqm (N:=2) rfl ?_);refine zqk rfl (N:=2) rfl (cs:=#[.slice AX lA.length c0_0,.int .i64 aA,.slice AY lB.length cB,.int .i64 a0_3,.int .i64 aC]) (t:=27) ?hr ?_;(case hr=>go_simp;try rfl);intro gb503 hg w4 hbox hb;have BK503:=am (hbox);have GW503:=am (zqr (HB.out) hg);have GE503:=am (zqr (HB.out) hg);replace HB:=am (zqh (HB.out) hb);clear hb hbox hg;obtain ⟨hcz5_0,hcz5_1,hcz5_2,hcz5_3,hcz5_4⟩:=cO5 BK503.out) | ((with_reducible refine zqq (f:=44) rfl ?_);refine zq8 (some 11) rfl rfl Tryz.func44 (by kernel_rfl) rfl #[.agg #[.slice AX lA.length c0_0,.int .i64 aA,.slice AY lB.length cB,.int .i64 a0_3,.int .i64 aC],.int .i64 a1] rfl (by (try simp only [List.map_toArray,List.map_cons,List.map_nil]);first | done | rfl | (simp only [List.length_drop,List.length_take];rfl)) ?_;(refine (q4_Out.calls k _ _ lA aA _ _ lB a0_3 aC a1 t504 t507 _ ?side1 ?side2 ?side3 ?side4 A3.out).mono ?_);(case side1=>exact kC HRA.out HB.out);(case side2=>exact HCA.out);(case side3=>exact kC HRB.out HB.out);(case side4=>exact HCB.out);rintro e w6 ⟨v505,rfl,ho0,hb⟩;refine ⟨_,rfl,?_⟩;have HO506:=am (Kd.R_lower ho0 (zqv (HB.out)));replace BK503:=(kmv hb BK503);replace HB:=am (zqh (HB.out) hb);(try clear hb);(try clear hb2);(try clear hk);(try clear hi);(try clear ho0)))
 go_loopg [6,7] k (fun kq v6 v7 w'=>∃ (x6_1 : Int) (x7_1 : Int),v6 = .int .i64 x6_1∧v7 = .int .i64 x7_1∧zqg (q4_Total.l0 kq t504 x6_1 x7_1 = some r)∧zqg (kq≤k)∧zqg (Kd.R (Kd.int .i64) 3 w' w.heap.size (fun _=>True) v505 t504)∧zqg (w'.heap[gb503]? = some (.cells #[(.slice AX lA.length c0_0),.int .i64 aA,(.slice AY lB.length cB),.int .i64 a0_3,.int .i64 aC] 27 (0,0)))∧zqg (Below w.heap.size w w'))
 case atStart=>exact ⟨(t507),(0),(by first | rfl | (simp;done) | (simp [*];done)),(by first | rfl | (simp;done) | (simp [*];done)),H',⟨Nat.le_refl _⟩,⟨by (with_reducible repeat (first | apply Kd.R_alloc | apply Kd.R_drewN | apply Kd.R_drew));exact HO506.out⟩,⟨BK503.out⟩,⟨HB.out⟩⟩
 case round =>
  clear H'
  obtain ⟨x6_1,x7_1,rfl,rfl,HA,HK1,HO_5,BK503,HB⟩:=hrel
  cases gk with
  | zero=>exact absurd HA.out (by simp [q4_Total.l0])
  | succ k1 =>
   have H:=HA.out
   clear HA
   simp only [q4_Total.l0] at H
   by_cases c7 : x7_1 < (t504.length : Int)
   case neg =>
    rw [if_neg c7] at H
    have c7b0 : decide (x7_1 < (t504.length : Int)) = false:=decide_eq_false c7
    clear c7
    obtain rfl:=Option.some.inj H
    obtain ⟨Ao10,co10,eo10⟩:=Kd.R_slice HO_5.out
    subst eo10
    go_wp2
    go_ret
    exact ⟨by first | rfl | (simp [*]<;>rfl),HB.out⟩
   rw [if_pos c7] at H
   have c7b0 : decide (x7_1 < (t504.length : Int)) = true:=decide_eq_true c7
   clear c7
   by_cases c8 : 0≤x7_1
   case neg =>
    rw [if_neg c8] at H
    exact absurd H (by simp)
   rw [if_pos c8] at H
   have c8b0 : decide (0≤x7_1) = true:=decide_eq_true c8
   clear c8
   replace H':=am H
   obtain ⟨Ao9,co9,eo9⟩:=Kd.R_slice HO_5.out
   subst eo9
   have p508 : 0≤(x7_1 : Int):=of_decide_eq_true (by assumption)
   have q508 : x7_1 < (t504.length : Int):=of_decide_eq_true (by assumption)
   obtain ⟨ad508,e508,hx508_0⟩:=Kd.at_int (Kd.R_reads' HO_5.out).2.2 x7_1 p508 q508
   cases e508
   replace p508:=eq_true p508
   replace q508:=eq_true q508
   go_wp2
   go_roundg k1
   case measure=>have:=HK1.out;omega
   case rel=>exact ⟨(wrap64 (x6_1 + (rd t504 x7_1))),(wrap64 (x7_1 + 1)),(by first | rfl | (simp;done) | (simp [*];done)),(by first | rfl | (simp;done) | (simp [*];done)),H',⟨by have:=HK1.out;omega⟩,⟨by (with_reducible repeat (first | apply Kd.R_alloc | apply Kd.R_drewN | apply Kd.R_drew));exact HO_5.out⟩,⟨BK503.out⟩,⟨HB.out⟩⟩
def q4_Stands.l0 : Nat→Int→Int→List (S126)→Int→List (S48)→Int→Int→Option (Int)
 | 0,_,_,_,_,_,_,_=>none
 | k + 1,x1,x5,x510000,x510001,x510002,x510003,x510004=>(q4_Total.f k x510000 x510001 x510002 x510003 x510004 x5).bind fun t510=>(if t510 > x1 then (q4_Stands.l0 k x1 (wrap64 (x5 - 1)) x510000 x510001 x510002 x510003 x510004) else (some x5))
def q4_Stands.f (k : Nat) (lA : List (S126)) (aA : Int) (lB : List (S48)) (a0_3 : Int) (aC : Int) (a1 : Int) : Option (Int):=q4_Stands.l0 k a1 40 lA aA lB a0_3 aC
theorem q4_Stands.calls (k : Nat) (AX : Option Addr) (c0_0 : Nat) (lA : List (S126)) (aA : Int) (AY : Option Addr) (cB : Nat) (lB : List (S48)) (a0_3 : Int) (aC : Int) (a1 : Int) (r : Int) (w : World) (hra : Kd.C k126 w AX lA.length lA) (hc0_0 : lA.length≤c0_0) (hrb : Kd.C k48 w AY lB.length lB) (hcb : lB.length≤cB) (h : q4_Stands.f k lA aA lB a0_3 aC a1 = some r) :
 Calls Tryz.prog 113 #[.agg #[.slice AX lA.length c0_0,.int .i64 aA,.slice AY lB.length cB,.int .i64 a0_3,.int .i64 aC],.int .i64 a1] w fun e w'=>e = .returned (.int .i64 r)∧Below w.heap.size w w':=by
 have hu27:=Tryz.underlying27
 have HRA:=am hra
 have HCA:=am hc0_0
 clear hra hc0_0
 have HRB:=am hrb
 have HCB:=am hcb
 clear hrb hcb
 have HB:=am (Below.refl w.heap.size w)
 have H : (q4_Stands.l0 k a1 40 lA aA lB a0_3 aC) = some r:=h
 clear h
 replace H':=am H
 go_enter Tryz.func113,Tryz.ntmps113
 go_wp2_with (first | ((refine zqm (N:=2) rfl ?_);refine zqk rfl (N:=2) rfl (cs:=#[.slice AX lA.length c0_0,.int .i64 aA,.slice AY lB.length cB,.int .i64 a0_3,.int .i64 aC]) (t:=27) ?hr ?_;(case hr=>go_simp;try rfl);intro gb509 hg w3 hbox hb;have BK509:=am (hbox);have GW509:=am (zqr (HB.out) hg);have GE509:=am (zqr (HB.out) hg);replace HB:=am (zqh (HB.out) hb);clear hb hbox hg))
 go_loopg [5] k (fun kq v5 w'=>∃ (x5_1 : Int),v5 = .int .i64 x5_1∧zqg (q4_Stands.l0 kq a1 x5_1 lA aA lB a0_3 aC = some r)∧zqg (kq≤k)∧zqg (w'.heap[gb509]? = some (.cells #[(.slice AX lA.length c0_0),.int .i64 aA,(.slice AY lB.length cB),.int .i64 a0_3,.int .i64 aC] 27 (0,0)))∧zqg (Below w.heap.size w w'))
 case atStart=>exact ⟨(40),(by first | rfl | (simp;done) | (simp [*];done)),H',⟨Nat.le_refl _⟩,⟨BK509.out⟩,⟨HB.out⟩⟩
 case round =>
  clear H'
  obtain ⟨x5_1,rfl,HA,HK1,BK509,HB⟩:=hrel
  cases gk with
  | zero=>exact absurd HA.out (by simp [q4_Stands.l0])
  | succ k1 =>
   have H:=HA.out
   clear HA
   simp only [q4_Stands.l0] at H
   replace H:=obm H
   obtain ⟨t510,A40,H⟩:=H
   replace H : (if t510 > a1 then (q4_Stands.l0 k1 a1 (wrap64 (x5_1 - 1)) lA aA lB a0_3 aC) else (some x5_1)) = some r:=H
   have A4:=am A40
   clear A40
   by_cases c5 : t510 > a1
   ·rw [if_pos c5] at H
    have c5b0 : decide (a1 < t510) = true:=decide_eq_true c5
    clear c5
    replace H':=am H
    obtain ⟨hcz6_0,hcz6_1,hcz6_2,hcz6_3,hcz6_4⟩:=cO5 BK509.out
    go_wp2_with (first | ((with_reducible refine zqq (f:=114) rfl ?_);refine zq8 (some 8) rfl rfl Tryz.func114 (by kernel_rfl) rfl #[.agg #[.slice AX lA.length c0_0,.int .i64 aA,.slice AY lB.length cB,.int .i64 a0_3,.int .i64 aC],.int .i64 x5_1] rfl (by (try simp only [List.map_toArray,List.map_cons,List.map_nil]);first | done | rfl | (simp only [List.length_drop,List.length_take];rfl)) ?_;(refine (q4_Total.calls k1 _ _ lA aA _ _ lB a0_3 aC x5_1 t510 _ ?side1 ?side2 ?side3 ?side4 A4.out).mono ?_);(case side1=>exact kC HRA.out HB.out);(case side2=>exact HCA.out);(case side3=>exact kC HRB.out HB.out);(case side4=>exact HCB.out);rintro e w7 ⟨rfl,hb⟩;refine ⟨_,rfl,?_⟩;replace BK509:=(kmv hb BK509);replace HB:=am (zqh (HB.out) hb);(try clear hb);(try clear hb2);(try clear hk);(try clear hi)))
    go_roundg k1
    case measure=>have:=HK1.out;omega
    case rel=>exact ⟨(wrap64 (x5_1 - 1)),(by first | rfl | (simp;done) | (simp [*];done)),H',⟨by have:=HK1.out;omega⟩,⟨BK509.out⟩,⟨HB.out⟩⟩
   ·rw [if_neg c5] at H
    have c5b0 : decide (a1 < t510) = false:=decide_eq_false c5
    clear c5
    obtain rfl:=Option.some.inj H
    obtain ⟨hcz8_0,hcz8_1,hcz8_2,hcz8_3,hcz8_4⟩:=cO5 BK509.out
    go_wp2_with (first | ((with_reducible refine zqq (f:=114) rfl ?_);refine zq8 (some 8) rfl rfl Tryz.func114 (by kernel_rfl) rfl #[.agg #[.slice AX lA.length c0_0,.int .i64 aA,.slice AY lB.length cB,.int .i64 a0_3,.int .i64 aC],.int .i64 x5_1] rfl (by (try simp only [List.map_toArray,List.map_cons,List.map_nil]);first | done | rfl | (simp only [List.length_drop,List.length_take];rfl)) ?_;(refine (q4_Total.calls k1 _ _ lA aA _ _ lB a0_3 aC x5_1 t510 _ ?side1 ?side2 ?side3 ?side4 A4.out).mono ?_);(case side1=>exact kC HRA.out HB.out);(case side2=>exact HCA.out);(case side3=>exact kC HRB.out HB.out);(case side4=>exact HCB.out);rintro e w9 ⟨rfl,hb⟩;refine ⟨_,rfl,?_⟩;replace BK509:=(kmv hb BK509);replace HB:=am (zqh (HB.out) hb);(try clear hb);(try clear hb2);(try clear hk);(try clear hi)))
    go_ret
    exact ⟨by first | rfl | (simp [*]<;>rfl),HB.out⟩
end
end Go.Proofs.YtnnmnhpeblhiiaaGreatDoor.C

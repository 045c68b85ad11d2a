/- A part of the proof: the walks of the functions that it reaches. TIGHT. -/
import Derived.Test.YtnnmnhpeblhiiaaGreatDoorML16
set_option linter.unusedSimpArgs false
set_option linter.unusedVariables false
namespace Go.Proofs.YtnnmnhpeblhiiaaGreatDoor.C
open Go.RowKit Go.Proofs.YtnnmnhpeblhiiaaGreatDoorW.PrintWords Go.Proofs.YtnnmnhpeblhiiaaGreatDoorW.PrintLast Go.Proofs.YtnnmnhpeblhiiaaGreatDoorW.PrintMore
set_option maxHeartbeats 16000000
set_option maxRecDepth 100000
section
attribute [local go_sem] zwa zq9 zwf zwe
def q4_Shares.l0 : Nat→List Int→Int→Int→List Int→Int→Option (List Int × Int)
 | 0,_,_,_,_,_=>none
 | k + 1,x7,x8,x9,x10,x12=>if x12 < (x7.length : Int) then (if 0≤x12 then (if x12 < (x10.length : Int) then (q4_Shares.l0 k (x7.set (x12 : Int).toNat (wrap64 ((rd x7 x12) + (mn x9 (wrap64 ((rd x10 x12) - (rd x7 x12))))))) x8 (wrap64 (x9 - (mn x9 (wrap64 ((rd x10 x12) - (rd x7 x12)))))) x10 (wrap64 (x12 + 1))) else (none)) else (none)) else (some (x7,wrap64 (x8 + x9)))
def q4_Shares.f (k : Nat) (lA : List (S126)) (aA : Int) (lB : List (S48)) (a0_3 : Int) (aC : Int) (a1 : Int) : Option (List Int × Int):=(q4_Stands.f k lA aA lB a0_3 aC a1).bind fun t512=>((q4_Out.f k lA aA lB a0_3 aC t512).bind fun bt513=>((q4_Total.f k lA aA lB a0_3 aC t512).bind fun t517=>(if t512 < 40 then ((q4_Out.f k lA aA lB a0_3 aC (wrap64 (t512 + 1))).bind fun bt518=>(q4_Shares.l0 k bt513.1 bt513.2 (wrap64 (a1 - t517)) bt518.1 0)) else (some (bt513.1,wrap64 (bt513.2 + (wrap64 (a1 - t517))))))))
theorem q4_Shares.calls (k : Nat) (AX : Option Addr) (c0_0 : Nat) (lA : List (S126)) (aA : Int) (AY : Option Addr) (cB : Nat) (lB : List (S48)) (a0_3 : Int) (aC : Int) (a1 : Int) (r1 : List Int) (r2 : Int) (w : World) (hra : Kd.C k126 w AX lA.length lA) (hc0_0 : lA.length≤c0_0) (hrb : Kd.C k48 w AY lB.length lB) (hcb : lB.length≤cB) (h : q4_Shares.f k lA aA lB a0_3 aC a1 = some (r1,r2)) :
 Calls Tryz.prog 74 #[.agg #[.slice AX lA.length c0_0,.int .i64 aA,.slice AY lB.length cB,.int .i64 a0_3,.int .i64 aC],.int .i64 a1] w fun e w'=>∃ v0_ : Value,e = .returned (.tuple #[v0_,.int .i64 r2])∧Kd.R (Kd.int .i64) 3 w' w.heap.size (fun _=>True) v0_ r1∧Below w.heap.size w w':=by
 have hu27:=Tryz.underlying27
 have HRA:=am hra
 have HCA:=am hc0_0
 clear hra hc0_0
 have HRB:=am hrb
 have HCB:=am hcb
 clear hrb hcb
 have HB:=am (Below.refl w.heap.size w)
 have H : ((q4_Stands.f k lA aA lB a0_3 aC a1).bind fun t512=>((q4_Out.f k lA aA lB a0_3 aC t512).bind fun bt513=>((q4_Total.f k lA aA lB a0_3 aC t512).bind fun t517=>(if t512 < 40 then ((q4_Out.f k lA aA lB a0_3 aC (wrap64 (t512 + 1))).bind fun bt518=>(q4_Shares.l0 k bt513.1 bt513.2 (wrap64 (a1 - t517)) bt518.1 0)) else (some (bt513.1,wrap64 (bt513.2 + (wrap64 (a1 - t517))))))))) = some (r1,r2):=h
 clear h
 replace H:=obm H
 obtain ⟨t512,A30,H⟩:=H
 replace H : ((q4_Out.f k lA aA lB a0_3 aC t512).bind fun bt513=>((q4_Total.f k lA aA lB a0_3 aC t512).bind fun t517=>(if t512 < 40 then ((q4_Out.f k lA aA lB a0_3 aC (wrap64 (t512 + 1))).bind fun bt518=>(q4_Shares.l0 k bt513.1 bt513.2 (wrap64 (a1 - t517)) bt518.1 0)) else (some (bt513.1,wrap64 (bt513.2 + (wrap64 (a1 - t517)))))))) = some (r1,r2):=H
 have A3:=am A30
 clear A30
 replace H:=obm H
 obtain ⟨⟨t513,t516⟩,A40,H⟩:=H
 replace H : ((q4_Total.f k lA aA lB a0_3 aC t512).bind fun t517=>(if t512 < 40 then ((q4_Out.f k lA aA lB a0_3 aC (wrap64 (t512 + 1))).bind fun bt518=>(q4_Shares.l0 k t513 t516 (wrap64 (a1 - t517)) bt518.1 0)) else (some (t513,wrap64 (t516 + (wrap64 (a1 - t517))))))) = some (r1,r2):=H
 have A4:=am A40
 clear A40
 replace H:=obm H
 obtain ⟨t517,A50,H⟩:=H
 replace H : (if t512 < 40 then ((q4_Out.f k lA aA lB a0_3 aC (wrap64 (t512 + 1))).bind fun bt518=>(q4_Shares.l0 k t513 t516 (wrap64 (a1 - t517)) bt518.1 0)) else (some (t513,wrap64 (t516 + (wrap64 (a1 - t517)))))) = some (r1,r2):=H
 have A5:=am A50
 clear A50
 by_cases c6 : t512 < 40
 case neg =>
  rw [if_neg c6] at H
  have c6b0 : decide (t512 < 40) = false:=decide_eq_false c6
  clear c6
  simp only [Option.some.injEq,Prod.mk.injEq] at H
  obtain ⟨rfl,rfl⟩:=H
  go_enter Tryz.func74,Tryz.ntmps74
  go_wp2_with (first | ((refine zqn (N:=2) rfl ?_);refine zqm rfl (N:=2) rfl (cs:=#[.slice AX lA.length c0_0,.int .i64 aA,.slice AY lB.length cB,.int .i64 a0_3,.int .i64 aC]) (t:=27) ?hr ?_;(case hr=>go_simp;try rfl);intro gb511 hg w27 hbox hb;have BK511:=am (hbox);have GW511:=am (zqq (HB.out) hg);have GE511:=am (zqq (HB.out) hg);replace HB:=am (zqb (HB.out) hb);clear hb hbox hg;obtain ⟨hcz28_0,hcz28_1,hcz28_2,hcz28_3,hcz28_4⟩:=cO5 BK511.out) | (go_at_call 113;(with_reducible refine (q4_Stands.calls k _ _ lA aA _ _ lB a0_3 aC a1 t512 _ ?side1 ?side2 ?side3 ?side4 A3.out).mono ?_);(case side1=>exact kC HRA.out HB.out);(case side2=>exact HCA.out);(case side3=>exact kC HRB.out HB.out);(case side4=>exact HCB.out);rintro e w29 ⟨rfl,hb⟩;replace BK511:=(kmv hb BK511);replace HB:=am (zqb (HB.out) hb);(try clear hb);(try clear hb2);(try clear hk);(try clear hi);obtain ⟨hcz30_0,hcz30_1,hcz30_2,hcz30_3,hcz30_4⟩:=cO5 BK511.out) | (go_at_call 44;(with_reducible refine (q4_Out.calls k _ _ lA aA _ _ lB a0_3 aC t512 t513 t516 _ ?side1 ?side2 ?side3 ?side4 A4.out).mono ?_);(case side1=>exact kC HRA.out HB.out);(case side2=>exact HCA.out);(case side3=>exact kC HRB.out HB.out);(case side4=>exact HCB.out);rintro e w31 ⟨v514,rfl,ho0,hb⟩;have HO515:=am (Kd.R_lower ho0 (zqr (HB.out)));replace BK511:=(kmv hb BK511);replace HB:=am (zqb (HB.out) hb);(try clear hb);(try clear hb2);(try clear hk);(try clear hi);(try clear ho0);obtain ⟨hcz32_0,hcz32_1,hcz32_2,hcz32_3,hcz32_4⟩:=cO5 BK511.out) | (go_at_call 114;(with_reducible refine (q4_Total.calls k _ _ lA aA _ _ lB a0_3 aC t512 t517 _ ?side1 ?side2 ?side3 ?side4 A5.out).mono ?_);(case side1=>exact kC HRA.out HB.out);(case side2=>exact HCA.out);(case side3=>exact kC HRB.out HB.out);(case side4=>exact HCB.out);rintro e w33 ⟨rfl,hb⟩;replace HO515:=am (Kd.R_below HO515.out hb);replace BK511:=(kmv hb BK511);replace HB:=am (zqb (HB.out) hb);(try clear hb);(try clear hb2);(try clear hk);(try clear hi)))
  repeat (go_quiet (first | ((refine zqn (N:=2) rfl ?_);refine zqm rfl (N:=2) rfl (cs:=#[.slice AX lA.length c0_0,.int .i64 aA,.slice AY lB.length cB,.int .i64 a0_3,.int .i64 aC]) (t:=27) ?hr ?_;(case hr=>go_simp;try rfl);intro gb511 hg w27 hbox hb;have BK511:=am (hbox);have GW511:=am (zqq (by repeat (first | (with_reducible first | exact HB.out | apply zqc | apply zqa) | exact HB.out)) hg);have GE511:=am (zqq (by repeat (first | (with_reducible first | exact HB.out | apply zqc | apply zqa) | exact HB.out)) hg);replace HB:=am (zqb (by repeat (first | (with_reducible first | exact HB.out | apply zqc | apply zqa) | exact HB.out)) hb);clear hb hbox hg;obtain ⟨hcz28_0,hcz28_1,hcz28_2,hcz28_3,hcz28_4⟩:=cO5 BK511.out) | (go_at_call 113;(with_reducible refine (q4_Stands.calls k _ _ lA aA _ _ lB a0_3 aC a1 t512 _ ?side1 ?side2 ?side3 ?side4 A3.out).mono ?_);(case side1=>repeat (first | exact (kC HRA.out HB.out) | (with_reducible refine Kd.C_alloc ?_ _) | (with_reducible refine Kd.C_drewN ?_ _) | (with_reducible refine Kd.C_drew ?_)));(case side2=>exact HCA.out);(case side3=>repeat (first | exact (kC HRB.out HB.out) | (with_reducible refine Kd.C_alloc ?_ _) | (with_reducible refine Kd.C_drewN ?_ _) | (with_reducible refine Kd.C_drew ?_)));(case side4=>exact HCB.out);rintro e w29 ⟨rfl,hb⟩;replace BK511:=(kmv hb BK511);replace HB:=am (zqb (by repeat (first | (with_reducible first | exact HB.out | refine zqf ?_ GE511.out | apply zqc | apply zqa) | exact HB.out)) hb);(try clear hb);(try clear hb2);(try clear hk);(try clear hi);obtain ⟨hcz30_0,hcz30_1,hcz30_2,hcz30_3,hcz30_4⟩:=cO5 BK511.out) | (go_at_call 44;(with_reducible refine (q4_Out.calls k _ _ lA aA _ _ lB a0_3 aC t512 t513 t516 _ ?side1 ?side2 ?side3 ?side4 A4.out).mono ?_);(case side1=>repeat (first | exact (kC HRA.out HB.out) | (with_reducible refine Kd.C_alloc ?_ _) | (with_reducible refine Kd.C_drewN ?_ _) | (with_reducible refine Kd.C_drew ?_)));(case side2=>exact HCA.out);(case side3=>repeat (first | exact (kC HRB.out HB.out) | (with_reducible refine Kd.C_alloc ?_ _) | (with_reducible refine Kd.C_drewN ?_ _) | (with_reducible refine Kd.C_drew ?_)));(case side4=>exact HCB.out);rintro e w31 ⟨v514,rfl,ho0,hb⟩;have HO515:=am (Kd.R_lower ho0 (zqr (by repeat (first | (with_reducible first | exact HB.out | refine zqf ?_ GE511.out | apply zqc | apply zqa) | exact HB.out))));replace BK511:=(kmv hb BK511);replace HB:=am (zqb (by repeat (first | (with_reducible first | exact HB.out | refine zqf ?_ GE511.out | apply zqc | apply zqa) | exact HB.out)) hb);(try clear hb);(try clear hb2);(try clear hk);(try clear hi);(try clear ho0);obtain ⟨hcz32_0,hcz32_1,hcz32_2,hcz32_3,hcz32_4⟩:=cO5 BK511.out) | (go_at_call 114;(with_reducible refine (q4_Total.calls k _ _ lA aA _ _ lB a0_3 aC t512 t517 _ ?side1 ?side2 ?side3 ?side4 A5.out).mono ?_);(case side1=>repeat (first | exact (kC HRA.out HB.out) | (with_reducible refine Kd.C_alloc ?_ _) | (with_reducible refine Kd.C_drewN ?_ _) | (with_reducible refine Kd.C_drew ?_)));(case side2=>exact HCA.out);(case side3=>repeat (first | exact (kC HRB.out HB.out) | (with_reducible refine Kd.C_alloc ?_ _) | (with_reducible refine Kd.C_drewN ?_ _) | (with_reducible refine Kd.C_drew ?_)));(case side4=>exact HCB.out);rintro e w33 ⟨rfl,hb⟩;replace HO515:=am (Kd.R_below HO515.out hb);replace BK511:=(kmv hb BK511);replace HB:=am (zqb (by repeat (first | (with_reducible first | exact HB.out | refine zqf ?_ GE511.out | apply zqc | apply zqa) | exact HB.out)) hb);(try clear hb);(try clear hb2);(try clear hk);(try clear hi)));try go_wp2_with (first | ((refine zqn (N:=2) rfl ?_);refine zqm rfl (N:=2) rfl (cs:=#[.slice AX lA.length c0_0,.int .i64 aA,.slice AY lB.length cB,.int .i64 a0_3,.int .i64 aC]) (t:=27) ?hr ?_;(case hr=>go_simp;try rfl);intro gb511 hg w27 hbox hb;have BK511:=am (hbox);have GW511:=am (zqq (by repeat (first | (with_reducible first | exact HB.out | apply zqc | apply zqa) | exact HB.out)) hg);have GE511:=am (zqq (by repeat (first | (with_reducible first | exact HB.out | apply zqc | apply zqa) | exact HB.out)) hg);replace HB:=am (zqb (by repeat (first | (with_reducible first | exact HB.out | apply zqc | apply zqa) | exact HB.out)) hb);clear hb hbox hg;obtain ⟨hcz28_0,hcz28_1,hcz28_2,hcz28_3,hcz28_4⟩:=cO5 BK511.out) | (go_at_call 113;(with_reducible refine (q4_Stands.calls k _ _ lA aA _ _ lB a0_3 aC a1 t512 _ ?side1 ?side2 ?side3 ?side4 A3.out).mono ?_);(case side1=>repeat (first | exact (kC HRA.out HB.out) | (with_reducible refine Kd.C_alloc ?_ _) | (with_reducible refine Kd.C_drewN ?_ _) | (with_reducible refine Kd.C_drew ?_)));(case side2=>exact HCA.out);(case side3=>repeat (first | exact (kC HRB.out HB.out) | (with_reducible refine Kd.C_alloc ?_ _) | (with_reducible refine Kd.C_drewN ?_ _) | (with_reducible refine Kd.C_drew ?_)));(case side4=>exact HCB.out);rintro e w29 ⟨rfl,hb⟩;replace BK511:=(kmv hb BK511);replace HB:=am (zqb (by repeat (first | (with_reducible first | exact HB.out | refine zqf ?_ GE511.out | apply zqc | apply zqa) | exact HB.out)) hb);(try clear hb);(try clear hb2);(try clear hk);(try clear hi);obtain ⟨hcz30_0,hcz30_1,hcz30_2,hcz30_3,hcz30_4⟩:=cO5 BK511.out) | (go_at_call 44;(with_reducible refine (q4_Out.calls k _ _ lA aA _ _ lB a0_3 aC t512 t513 t516 _ ?side1 ?side2 ?side3 ?side4 A4.out).mono ?_);(case side1=>repeat (first | exact (kC HRA.out HB.out) | (with_reducible refine Kd.C_alloc ?_ _) | (with_reducible refine Kd.C_drewN ?_ _) | (with_reducible refine Kd.C_drew ?_)));(case side2=>exact HCA.out);(case side3=>repeat (first | exact (kC HRB.out HB.out) | (with_reducible refine Kd.C_alloc ?_ _) | (with_reducible refine Kd.C_drewN ?_ _) | (with_reducible refine Kd.C_drew ?_)));(case side4=>exact HCB.out);rintro e w31 ⟨v514,rfl,ho0,hb⟩;have HO515:=am (Kd.R_lower ho0 (zqr (by repeat (first | (with_reducible first | exact HB.out | refine zqf ?_ GE511.out | apply zqc | apply zqa) | exact HB.out))));replace BK511:=(kmv hb BK511);replace HB:=am (zqb (by repeat (first | (with_reducible first | exact HB.out | refine zqf ?_ GE511.out | apply zqc | apply zqa) | exact HB.out)) hb);(try clear hb);(try clear hb2);(try clear hk);(try clear hi);(try clear ho0);obtain ⟨hcz32_0,hcz32_1,hcz32_2,hcz32_3,hcz32_4⟩:=cO5 BK511.out) | (go_at_call 114;(with_reducible refine (q4_Total.calls k _ _ lA aA _ _ lB a0_3 aC t512 t517 _ ?side1 ?side2 ?side3 ?side4 A5.out).mono ?_);(case side1=>repeat (first | exact (kC HRA.out HB.out) | (with_reducible refine Kd.C_alloc ?_ _) | (with_reducible refine Kd.C_drewN ?_ _) | (with_reducible refine Kd.C_drew ?_)));(case side2=>exact HCA.out);(case side3=>repeat (first | exact (kC HRB.out HB.out) | (with_reducible refine Kd.C_alloc ?_ _) | (with_reducible refine Kd.C_drewN ?_ _) | (with_reducible refine Kd.C_drew ?_)));(case side4=>exact HCB.out);rintro e w33 ⟨rfl,hb⟩;replace HO515:=am (Kd.R_below HO515.out hb);replace BK511:=(kmv hb BK511);replace HB:=am (zqb (by repeat (first | (with_reducible first | exact HB.out | refine zqf ?_ GE511.out | apply zqc | apply zqa) | exact HB.out)) hb);(try clear hb);(try clear hb2);(try clear hk);(try clear hi))))
  go_ret2
  exact ⟨_,by first | rfl | (simp [*]<;>rfl),by (with_reducible repeat (first | apply Kd.R_alloc | apply Kd.R_drewN | apply Kd.R_drew));exact HO515.out,HB.out⟩
 rw [if_pos c6] at H
 have c6b0 : decide (t512 < 40) = true:=decide_eq_true c6
 clear c6
 replace H:=obm H
 obtain ⟨⟨t518,t521⟩,A70,H⟩:=H
 replace H : (q4_Shares.l0 k t513 t516 (wrap64 (a1 - t517)) t518 0) = some (r1,r2):=H
 have A7:=am A70
 clear A70
 replace H':=am H
 go_enter Tryz.func74,Tryz.ntmps74
 go_wp2_with (first | ((refine zqn (N:=2) rfl ?_);refine zqm rfl (N:=2) rfl (cs:=#[.slice AX lA.length c0_0,.int .i64 aA,.slice AY lB.length cB,.int .i64 a0_3,.int .i64 aC]) (t:=27) ?hr ?_;(case hr=>go_simp;try rfl);intro gb511 hg w8 hbox hb;have BK511:=am (hbox);have GW511:=am (zqq (HB.out) hg);have GE511:=am (zqq (HB.out) hg);replace HB:=am (zqb (HB.out) hb);clear hb hbox hg;obtain ⟨hcz9_0,hcz9_1,hcz9_2,hcz9_3,hcz9_4⟩:=cO5 BK511.out) | (go_at_call 113;(with_reducible refine (q4_Stands.calls k _ _ lA aA _ _ lB a0_3 aC a1 t512 _ ?side1 ?side2 ?side3 ?side4 A3.out).mono ?_);(case side1=>exact kC HRA.out HB.out);(case side2=>exact HCA.out);(case side3=>exact kC HRB.out HB.out);(case side4=>exact HCB.out);rintro e w10 ⟨rfl,hb⟩;replace BK511:=(kmv hb BK511);replace HB:=am (zqb (HB.out) hb);(try clear hb);(try clear hb2);(try clear hk);(try clear hi);obtain ⟨hcz11_0,hcz11_1,hcz11_2,hcz11_3,hcz11_4⟩:=cO5 BK511.out) | (go_at_call 44;(with_reducible refine (q4_Out.calls k _ _ lA aA _ _ lB a0_3 aC t512 t513 t516 _ ?side1 ?side2 ?side3 ?side4 A4.out).mono ?_);(case side1=>exact kC HRA.out HB.out);(case side2=>exact HCA.out);(case side3=>exact kC HRB.out HB.out);(case side4=>exact HCB.out);rintro e w12 ⟨v514,rfl,ho0,hb⟩;have HO515:=am (Kd.R_lower ho0 (zqr (HB.out)));replace BK511:=(kmv hb BK511);replace HB:=am (zqb (HB.out) hb);(try clear hb);(try clear hb2);(try clear hk);(try clear hi);(try clear ho0);obtain ⟨hcz13_0,hcz13_1,hcz13_2,hcz13_3,hcz13_4⟩:=cO5 BK511.out) | (go_at_call 114;(with_reducible refine (q4_Total.calls k _ _ lA aA _ _ lB a0_3 aC t512 t517 _ ?side1 ?side2 ?side3 ?side4 A5.out).mono ?_);(case side1=>exact kC HRA.out HB.out);(case side2=>exact HCA.out);(case side3=>exact kC HRB.out HB.out);(case side4=>exact HCB.out);rintro e w14 ⟨rfl,hb⟩;replace HO515:=am (Kd.R_below HO515.out hb);replace BK511:=(kmv hb BK511);replace HB:=am (zqb (HB.out) hb);(try clear hb);(try clear hb2);(try clear hk);(try clear hi);obtain ⟨hcz15_0,hcz15_1,hcz15_2,hcz15_3,hcz15_4⟩:=cO5 BK511.out) | (go_at_call 44;(with_reducible refine (q4_Out.calls k _ _ lA aA _ _ lB a0_3 aC (wrap64 (t512 + 1)) t518 t521 _ ?side1 ?side2 ?side3 ?side4 A7.out).mono ?_);(case side1=>exact kC HRA.out HB.out);(case side2=>exact HCA.out);(case side3=>exact kC HRB.out HB.out);(case side4=>exact HCB.out);rintro e w16 ⟨v519,rfl,ho0,hb⟩;have HO520:=am (Kd.R_lower (Kd.R_new' ho0 (Kd.R_lt HO515.out)) (zqr (HB.out)));replace HO515:=am (Kd.R_elder' HO515.out (Kd.R_base ho0) hb);replace BK511:=(kmv hb BK511);replace HB:=am (zqb (HB.out) hb);(try clear hb);(try clear hb2);(try clear hk);(try clear hi);(try clear ho0)))
 repeat (go_quiet (first | ((refine zqn (N:=2) rfl ?_);refine zqm rfl (N:=2) rfl (cs:=#[.slice AX lA.length c0_0,.int .i64 aA,.slice AY lB.length cB,.int .i64 a0_3,.int .i64 aC]) (t:=27) ?hr ?_;(case hr=>go_simp;try rfl);intro gb511 hg w8 hbox hb;have BK511:=am (hbox);have GW511:=am (zqq (by repeat (first | (with_reducible first | exact HB.out | apply zqc | apply zqa) | exact HB.out)) hg);have GE511:=am (zqq (by repeat (first | (with_reducible first | exact HB.out | apply zqc | apply zqa) | exact HB.out)) hg);replace HB:=am (zqb (by repeat (first | (with_reducible first | exact HB.out | apply zqc | apply zqa) | exact HB.out)) hb);clear hb hbox hg;obtain ⟨hcz9_0,hcz9_1,hcz9_2,hcz9_3,hcz9_4⟩:=cO5 BK511.out) | (go_at_call 113;(with_reducible refine (q4_Stands.calls k _ _ lA aA _ _ lB a0_3 aC a1 t512 _ ?side1 ?side2 ?side3 ?side4 A3.out).mono ?_);(case side1=>repeat (first | exact (kC HRA.out HB.out) | (with_reducible refine Kd.C_alloc ?_ _) | (with_reducible refine Kd.C_drewN ?_ _) | (with_reducible refine Kd.C_drew ?_)));(case side2=>exact HCA.out);(case side3=>repeat (first | exact (kC HRB.out HB.out) | (with_reducible refine Kd.C_alloc ?_ _) | (with_reducible refine Kd.C_drewN ?_ _) | (with_reducible refine Kd.C_drew ?_)));(case side4=>exact HCB.out);rintro e w10 ⟨rfl,hb⟩;replace BK511:=(kmv hb BK511);replace HB:=am (zqb (by repeat (first | (with_reducible first | exact HB.out | refine zqf ?_ GE511.out | apply zqc | apply zqa) | exact HB.out)) hb);(try clear hb);(try clear hb2);(try clear hk);(try clear hi);obtain ⟨hcz11_0,hcz11_1,hcz11_2,hcz11_3,hcz11_4⟩:=cO5 BK511.out) | (go_at_call 44;(with_reducible refine (q4_Out.calls k _ _ lA aA _ _ lB a0_3 aC t512 t513 t516 _ ?side1 ?side2 ?side3 ?side4 A4.out).mono ?_);(case side1=>repeat (first | exact (kC HRA.out HB.out) | (with_reducible refine Kd.C_alloc ?_ _) | (with_reducible refine Kd.C_drewN ?_ _) | (with_reducible refine Kd.C_drew ?_)));(case side2=>exact HCA.out);(case side3=>repeat (first | exact (kC HRB.out HB.out) | (with_reducible refine Kd.C_alloc ?_ _) | (with_reducible refine Kd.C_drewN ?_ _) | (with_reducible refine Kd.C_drew ?_)));(case side4=>exact HCB.out);rintro e w12 ⟨v514,rfl,ho0,hb⟩;have HO515:=am (Kd.R_lower ho0 (zqr (by repeat (first | (with_reducible first | exact HB.out | refine zqf ?_ GE511.out | apply zqc | apply zqa) | exact HB.out))));replace BK511:=(kmv hb BK511);replace HB:=am (zqb (by repeat (first | (with_reducible first | exact HB.out | refine zqf ?_ GE511.out | apply zqc | apply zqa) | exact HB.out)) hb);(try clear hb);(try clear hb2);(try clear hk);(try clear hi);(try clear ho0);obtain ⟨hcz13_0,hcz13_1,hcz13_2,hcz13_3,hcz13_4⟩:=cO5 BK511.out) | (go_at_call 114;(with_reducible refine (q4_Total.calls k _ _ lA aA _ _ lB a0_3 aC t512 t517 _ ?side1 ?side2 ?side3 ?side4 A5.out).mono ?_);(case side1=>repeat (first | exact (kC HRA.out HB.out) | (with_reducible refine Kd.C_alloc ?_ _) | (with_reducible refine Kd.C_drewN ?_ _) | (with_reducible refine Kd.C_drew ?_)));(case side2=>exact HCA.out);(case side3=>repeat (first | exact (kC HRB.out HB.out) | (with_reducible refine Kd.C_alloc ?_ _) | (with_reducible refine Kd.C_drewN ?_ _) | (with_reducible refine Kd.C_drew ?_)));(case side4=>exact HCB.out);rintro e w14 ⟨rfl,hb⟩;replace HO515:=am (Kd.R_below HO515.out hb);replace BK511:=(kmv hb BK511);replace HB:=am (zqb (by repeat (first | (with_reducible first | exact HB.out | refine zqf ?_ GE511.out | apply zqc | apply zqa) | exact HB.out)) hb);(try clear hb);(try clear hb2);(try clear hk);(try clear hi);obtain ⟨hcz15_0,hcz15_1,hcz15_2,hcz15_3,hcz15_4⟩:=cO5 BK511.out) | (go_at_call 44;(with_reducible refine (q4_Out.calls k _ _ lA aA _ _ lB a0_3 aC (wrap64 (t512 + 1)) t518 t521 _ ?side1 ?side2 ?side3 ?side4 A7.out).mono ?_);(case side1=>repeat (first | exact (kC HRA.out HB.out) | (with_reducible refine Kd.C_alloc ?_ _) | (with_reducible refine Kd.C_drewN ?_ _) | (with_reducible refine Kd.C_drew ?_)));(case side2=>exact HCA.out);(case side3=>repeat (first | exact (kC HRB.out HB.out) | (with_reducible refine Kd.C_alloc ?_ _) | (with_reducible refine Kd.C_drewN ?_ _) | (with_reducible refine Kd.C_drew ?_)));(case side4=>exact HCB.out);rintro e w16 ⟨v519,rfl,ho0,hb⟩;have HO520:=am (Kd.R_lower (Kd.R_new' ho0 (Kd.R_lt HO515.out)) (zqr (by repeat (first | (with_reducible first | exact HB.out | refine zqf ?_ GE511.out | apply zqc | apply zqa) | exact HB.out))));replace HO515:=am (Kd.R_elder' HO515.out (Kd.R_base ho0) hb);replace BK511:=(kmv hb BK511);replace HB:=am (zqb (by repeat (first | (with_reducible first | exact HB.out | refine zqf ?_ GE511.out | apply zqc | apply zqa) | exact HB.out)) hb);(try clear hb);(try clear hb2);(try clear hk);(try clear hi);(try clear ho0)));try go_wp2_with (first | ((refine zqn (N:=2) rfl ?_);refine zqm rfl (N:=2) rfl (cs:=#[.slice AX lA.length c0_0,.int .i64 aA,.slice AY lB.length cB,.int .i64 a0_3,.int .i64 aC]) (t:=27) ?hr ?_;(case hr=>go_simp;try rfl);intro gb511 hg w8 hbox hb;have BK511:=am (hbox);have GW511:=am (zqq (by repeat (first | (with_reducible first | exact HB.out | apply zqc | apply zqa) | exact HB.out)) hg);have GE511:=am (zqq (by repeat (first | (with_reducible first | exact HB.out | apply zqc | apply zqa) | exact HB.out)) hg);replace HB:=am (zqb (by repeat (first | (with_reducible first | exact HB.out | apply zqc | apply zqa) | exact HB.out)) hb);clear hb hbox hg;obtain ⟨hcz9_0,hcz9_1,hcz9_2,hcz9_3,hcz9_4⟩:=cO5 BK511.out) | (go_at_call 113;(with_reducible refine (q4_Stands.calls k _ _ lA aA _ _ lB a0_3 aC a1 t512 _ ?side1 ?side2 ?side3 ?side4 A3.out).mono ?_);(case side1=>repeat (first | exact (kC HRA.out HB.out) | (with_reducible refine Kd.C_alloc ?_ _) | (with_reducible refine Kd.C_drewN ?_ _) | (with_reducible refine Kd.C_drew ?_)));(case side2=>exact HCA.out);(case side3=>repeat (first | exact (kC HRB.out HB.out) | (with_reducible refine Kd.C_alloc ?_ _) | (with_reducible refine Kd.C_drewN ?_ _) | (with_reducible refine Kd.C_drew ?_)));(case side4=>exact HCB.out);rintro e w10 ⟨rfl,hb⟩;replace BK511:=(kmv hb BK511);replace HB:=am (zqb (by repeat (first | (with_reducible first | exact HB.out | refine zqf ?_ GE511.out | apply zqc | apply zqa) | exact HB.out)) hb);(try clear hb);(try clear hb2);(try clear hk);(try clear hi);obtain ⟨hcz11_0,hcz11_1,hcz11_2,hcz11_3,hcz11_4⟩:=cO5 BK511.out) | (go_at_call 44;(with_reducible refine (q4_Out.calls k _ _ lA aA _ _ lB a0_3 aC t512 t513 t516 _ ?side1 ?side2 ?side3 ?side4 A4.out).mono ?_);(case side1=>repeat (first | exact (kC HRA.out HB.out) | (with_reducible refine Kd.C_alloc ?_ _) | (with_reducible refine Kd.C_drewN ?_ _) | (with_reducible refine Kd.C_drew ?_)));(case side2=>exact HCA.out);(case side3=>repeat (first | exact (kC HRB.out HB.out) | (with_reducible refine Kd.C_alloc ?_ _) | (with_reducible refine Kd.C_drewN ?_ _) | (with_reducible refine Kd.C_drew ?_)));(case side4=>exact HCB.out);rintro e w12 ⟨v514,rfl,ho0,hb⟩;have HO515:=am (Kd.R_lower ho0 (zqr (by repeat (first | (with_reducible first | exact HB.out | refine zqf ?_ GE511.out | apply zqc | apply zqa) | exact HB.out))));replace BK511:=(kmv hb BK511);replace HB:=am (zqb (by repeat (first | (with_reducible first | exact HB.out | refine zqf ?_ GE511.out | apply zqc | apply zqa) | exact HB.out)) hb);(try clear hb);(try clear hb2);(try clear hk);(try clear hi);(try clear ho0);obtain ⟨hcz13_0,hcz13_1,hcz13_2,hcz13_3,hcz13_4⟩:=cO5 BK511.out) | (go_at_call 114;(with_reducible refine (q4_Total.calls k _ _ lA aA _ _ lB a0_3 aC t512 t517 _ ?side1 ?side2 ?side3 ?side4 A5.out).mono ?_);(case side1=>repeat (first | exact (kC HRA.out HB.out) | (with_reducible refine Kd.C_alloc ?_ _) | (with_reducible refine Kd.C_drewN ?_ _) | (with_reducible refine Kd.C_drew ?_)));(case side2=>exact HCA.out);(case side3=>repeat (first | exact (kC HRB.out HB.out) | (with_reducible refine Kd.C_alloc ?_ _) | (with_reducible refine Kd.C_drewN ?_ _) | (with_reducible refine Kd.C_drew ?_)));(case side4=>exact HCB.out);rintro e w14 ⟨rfl,hb⟩;replace HO515:=am (Kd.R_below HO515.out hb);replace BK511:=(kmv hb BK511);replace HB:=am (zqb (by repeat (first | (with_reducible first | exact HB.out | refine zqf ?_ GE511.out | apply zqc | apply zqa) | exact HB.out)) hb);(try clear hb);(try clear hb2);(try clear hk);(try clear hi);obtain ⟨hcz15_0,hcz15_1,hcz15_2,hcz15_3,hcz15_4⟩:=cO5 BK511.out) | (go_at_call 44;(with_reducible refine (q4_Out.calls k _ _ lA aA _ _ lB a0_3 aC (wrap64 (t512 + 1)) t518 t521 _ ?side1 ?side2 ?side3 ?side4 A7.out).mono ?_);(case side1=>repeat (first | exact (kC HRA.out HB.out) | (with_reducible refine Kd.C_alloc ?_ _) | (with_reducible refine Kd.C_drewN ?_ _) | (with_reducible refine Kd.C_drew ?_)));(case side2=>exact HCA.out);(case side3=>repeat (first | exact (kC HRB.out HB.out) | (with_reducible refine Kd.C_alloc ?_ _) | (with_reducible refine Kd.C_drewN ?_ _) | (with_reducible refine Kd.C_drew ?_)));(case side4=>exact HCB.out);rintro e w16 ⟨v519,rfl,ho0,hb⟩;have HO520:=am (Kd.R_lower (Kd.R_new' ho0 (Kd.R_lt HO515.out)) (zqr (by repeat (first | (with_reducible first | exact HB.out | refine zqf ?_ GE511.out | apply zqc | apply zqa) | exact HB.out))));replace HO515:=am (Kd.R_elder' HO515.out (Kd.R_base ho0) hb);replace BK511:=(kmv hb BK511);replace HB:=am (zqb (by repeat (first | (with_reducible first | exact HB.out | refine zqf ?_ GE511.out | apply zqc | apply zqa) | exact HB.out)) hb);(try clear hb);(try clear hb2);(try clear hk);(try clear hi);(try clear ho0))))
 go_loopg [9,12] k (fun kq v9 v12 w'=>∃ (x7_1 : List Int) (x9_1 : Int) (x12_1 : Int),v9 = .int .i64 x9_1∧v12 = .int .i64 x12_1∧zqk (q4_Shares.l0 kq x7_1 t516 x9_1 t518 x12_1 = some (r1,r2))∧zqk (kq≤k)∧zqk (Kd.R (Kd.int .i64) 3 w' w.heap.size (fun k_=>some k_ ≠ (v519 : Value).ownBlock) v514 x7_1)∧zqk (Kd.R (Kd.int .i64) 3 w' w.heap.size (fun k_=>some k_ ≠ (v514 : Value).ownBlock) v519 t518)∧zqk (w'.heap[gb511]? = some (.cells #[(.slice AX lA.length c0_0),.int .i64 aA,(.slice AY lB.length cB),.int .i64 a0_3,.int .i64 aC] 27 (0,0)))∧zqk (Below w.heap.size w w'))
 case atStart=>exact ⟨(t513),(wrap64 (a1 - t517)),(0),(by first | rfl | (simp;done) | (simp [*];done)),(by first | rfl | (simp;done) | (simp [*];done)),H',⟨Nat.le_refl _⟩,⟨by (with_reducible repeat (first | apply Kd.R_alloc | apply Kd.R_drewN | apply Kd.R_drew));exact Kd.R_mono HO515.out (fun _ hk=>hk.2)⟩,⟨by (with_reducible repeat (first | apply Kd.R_alloc | apply Kd.R_drewN | apply Kd.R_drew));exact Kd.R_mono HO520.out (fun _ hk=>hk.2)⟩,⟨BK511.out⟩,⟨HB.out⟩⟩
 case round =>
  clear H'
  obtain ⟨x7_1,x9_1,x12_1,rfl,rfl,HA,HK1,HO_7,HO_10,BK511,HB⟩:=hrel
  cases gk with
  | zero=>exact absurd HA.out (by simp [q4_Shares.l0])
  | succ k1 =>
   have H:=HA.out
   clear HA
   simp only [q4_Shares.l0] at H
   by_cases c17 : x12_1 < (x7_1.length : Int)
   case neg =>
    rw [if_neg c17] at H
    have c17b0 : decide (x12_1 < (x7_1.length : Int)) = false:=decide_eq_false c17
    clear c17
    simp only [Option.some.injEq,Prod.mk.injEq] at H
    obtain ⟨rfl,rfl⟩:=H
    obtain ⟨Ao26,co26,eo26⟩:=Kd.R_slice HO_7.out
    subst eo26
    go_wp2
    repeat (go_quiet (fail);try go_wp2)
    go_ret2
    exact ⟨_,by first | rfl | (simp [*]<;>rfl),by (with_reducible repeat (first | apply Kd.R_alloc | apply Kd.R_drewN | apply Kd.R_drew));exact Kd.R_mono HO_7.out (fun _ hk=>trivial),HB.out⟩
   rw [if_pos c17] at H
   have c17b0 : decide (x12_1 < (x7_1.length : Int)) = true:=decide_eq_true c17
   clear c17
   by_cases c18 : 0≤x12_1
   case neg =>
    rw [if_neg c18] at H
    exact absurd H (by simp)
   rw [if_pos c18] at H
   have c18b0 : decide (0≤x12_1) = true:=decide_eq_true c18
   clear c18
   by_cases c19 : x12_1 < (t518.length : Int)
   case neg =>
    rw [if_neg c19] at H
    exact absurd H (by simp)
   rw [if_pos c19] at H
   have c19b0 : decide (x12_1 < (t518.length : Int)) = true:=decide_eq_true c19
   clear c19
   obtain ⟨ji20,hji20⟩ : ∃ j_ : Int,(mn x9_1 (wrap64 ((rd t518 x12_1) - (rd x7_1 x12_1)))) = j_:=⟨_,rfl⟩
   replace H : (q4_Shares.l0 k1 (x7_1.set (x12_1 : Int).toNat (wrap64 ((rd x7_1 x12_1) + (ji20)))) t516 (wrap64 (x9_1 - (ji20))) t518 (wrap64 (x12_1 + 1))) = some (r1,r2):=by first | (rw [hji20] at H;exact H) | (simp only [hji20] at H ⊢;exact H)
   have hji20_ : (if (wrap64 ((rd t518 x12_1) - (rd x7_1 x12_1))) < x9_1 then (wrap64 ((rd t518 x12_1) - (rd x7_1 x12_1))) else x9_1) = ji20:=hji20
   obtain ⟨y525,hy525⟩ : ∃ y_ : List Int,y_ = (x7_1.set (x12_1 : Int).toNat (wrap64 ((rd x7_1 x12_1) + (ji20)))):=⟨_,rfl⟩
   replace H : (q4_Shares.l0 k1 y525 t516 (wrap64 (x9_1 - (ji20))) t518 (wrap64 (x12_1 + 1))) = some (r1,r2):=by first | (rw [hy525];with_reducible exact H) | (have H2_:=(Option.bind_some _ _).symm.trans H;rw [hy525];with_reducible exact H2_) | (have H2_:=(Option.bind_some _ _).symm.trans H;with_reducible exact H2_) | with_reducible exact H | (rw [hy525];exact H) | exact H
   have Ny525:=am hy525
   clear hy525
   replace H':=am H
   obtain ⟨Ao22,co22,eo22⟩:=Kd.R_slice HO_7.out
   subst eo22
   obtain ⟨Ao23,co23,eo23⟩:=Kd.R_slice HO_10.out
   subst eo23
   have p522 : 0≤(x12_1 : Int):=of_decide_eq_true (by assumption)
   have q522 : x12_1 < (t518.length : Int):=of_decide_eq_true (by assumption)
   obtain ⟨ad522,e522,hx522_0⟩:=Kd.at_int (Kd.R_reads' HO_10.out).2.2 x12_1 p522 q522
   cases e522
   replace p522:=eq_true p522
   replace q522:=eq_true q522
   have p523 : 0≤(x12_1 : Int):=of_decide_eq_true (by assumption)
   have q523 : x12_1 < (x7_1.length : Int):=of_decide_eq_true (by assumption)
   obtain ⟨ad523,e523,hx523_0⟩:=Kd.at_int (Kd.R_reads' HO_7.out).2.2 x12_1 p523 q523
   cases e523
   replace p523:=eq_true p523
   replace q523:=eq_true q523
   have p524 : 0≤(x12_1 : Int):=of_decide_eq_true (by assumption)
   have q524 : x12_1 < (x7_1.length : Int):=of_decide_eq_true (by assumption)
   obtain ⟨ad524,e524,hx524_0⟩:=Kd.at_int (Kd.R_reads' HO_7.out).2.2 x12_1 p524 q524
   obtain rfl : ad523 = ad524:=(by injection e524)
   replace p524:=eq_true p524
   replace q524:=eq_true q524
   have p21 : 0≤(x12_1 : Int):=of_decide_eq_true (by assumption)
   have q21 : (x12_1 : Int) < ((x7_1.length : Int) : Int):=of_decide_eq_true (by assumption)
   obtain ⟨go21,co21,eo21,gb21,gl21,cl21,HG21⟩:=Kd.R_form HO_7.out (by omega)
   (first | cases eo21 | (injection eo21 with ea_ en_ ec_;(first | subst ea_ | (injection ea_ with ea_;subst ea_));subst ec_;clear en_))
   have GB21:=am gb21
   have GG21:=am HG21
   clear gb21 gl21 HG21
   (first | simp only [zxg] at hx523_0 | skip)
   (first | simp only [zxg] at hx524_0 | skip)
   obtain ⟨hx21_0,hf21_0⟩:=Kd.R_celln 0 HO_7.out (x12_1 : Int) p21 q21
   replace p21:=eq_true p21
   replace q21:=eq_true q21
   have HP24:=Kd.R_putg HO_7.out (x12_1 : Int) (wrap64 ((rd x7_1 x12_1) + (ji20)))
   go_wp2_with (first | ((with_reducible refine zxb (t:=3) (p:=65) rfl ?_);(try (rw [drewN_self wr];generalize hq_ : World.drewN wr _ = wr;have n0_:=am (Kd.R_at hq_ HO_7.out);have n1_:=am (Kd.R_at hq_ HO_10.out);have n2_:=am (blk_at hq_ BK511.out);have n3_:=am (zbs hq_ HB.out);clear hq_ HO_7 HO_10 BK511 HB;have HO_7:=n0_;have HO_10:=n1_;have BK511:=n2_;have HB:=n3_;clear n0_ n1_ n2_ n3_;(try (have HP24:=Kd.R_putg HO_7.out (x12_1 : Int) (wrap64 ((rd x7_1 x12_1) + (ji20)))))));refine zvt (t:=3) (p:=65) (v:=?vo_w25) (w1:=(wr.setCell ⟨go21,(x12_1 : Int).toNat,none⟩ (.int .i64 (wrap64 ((rd x7_1 x12_1) + (ji20)))))) ?hg ?ho ?hn ?hr ?_;(case ho=>rfl);(case hg=>rfl);(case hn=>rfl);(case hr=>go_simp;try rfl);intro w25 hw;have hg : wr.grownBy w25 (some go21):=(by rw [hw];exact HP24.2);have hp_ : Kd.R (Kd.int .i64) 3 w25 w.heap.size (fun k_=>some k_ ≠ (.slice (some ad522) t518.length co23 : Value).ownBlock) (.slice (some ⟨go21,0,none⟩) x7_1.length co22) y525:=(by rw [hw,Ny525.out];exact HP24.1);clear HP24;have n0_:=am (hp_);have n1_:=am (Kd.R_after (v:=(.slice (some ⟨go21,0,none⟩) x7_1.length co22)) (v1:=(.slice (some ⟨go21,0,none⟩) x7_1.length co22)) (ok:=(fun _=>True)) (Kd.R_mono HO_10.out (fun _ hk=>⟨trivial,hk⟩)) hg (.inl rfl));have n2_:=am (zq2 (g:=gb511) (o:=.cells #[.slice AX lA.length c0_0,.int .i64 aA,.slice AY lB.length cB,.int .i64 a0_3,.int .i64 aC] 27 (0,0)) BK511.out hg (Kd.R_ne HO_7.out BK511.out (by decide)));have n3_:=am ((by rw [hw];exact zqf (HB.out) GB21.out : Below w.heap.size w w25));clear HO_7;clear HO_10;clear BK511;clear HB;have HO_7:=n0_;have HO_10:=n1_;have BK511:=n2_;have HB:=n3_;clear n0_ n1_ n2_ n3_;clear hg hw hp_))
   repeat (go_quiet (first | ((with_reducible refine zxb (t:=3) (p:=65) rfl ?_);(try (rw [drewN_self wr];generalize hq_ : World.drewN wr _ = wr;have n0_:=am (Kd.R_at hq_ HO_7.out);have n1_:=am (Kd.R_at hq_ HO_10.out);have n2_:=am (blk_at hq_ BK511.out);have n3_:=am (zbs hq_ HB.out);clear hq_ HO_7 HO_10 BK511 HB;have HO_7:=n0_;have HO_10:=n1_;have BK511:=n2_;have HB:=n3_;clear n0_ n1_ n2_ n3_;(try (have HP24:=Kd.R_putg HO_7.out (x12_1 : Int) (wrap64 ((rd x7_1 x12_1) + (ji20)))))));refine zvt (t:=3) (p:=65) (v:=?vo_w25) (w1:=(wr.setCell ⟨go21,(x12_1 : Int).toNat,none⟩ (.int .i64 (wrap64 ((rd x7_1 x12_1) + (ji20)))))) ?hg ?ho ?hn ?hr ?_;(case ho=>rfl);(case hg=>rfl);(case hn=>rfl);(case hr=>go_simp;try rfl);intro w25 hw;have hg : wr.grownBy w25 (some go21):=(by rw [hw];exact HP24.2);have hp_ : Kd.R (Kd.int .i64) 3 w25 w.heap.size (fun k_=>some k_ ≠ (.slice (some ad522) t518.length co23 : Value).ownBlock) (.slice (some ⟨go21,0,none⟩) x7_1.length co22) y525:=(by rw [hw,Ny525.out];exact HP24.1);clear HP24;have n0_:=am (hp_);have n1_:=am (Kd.R_after (v:=(.slice (some ⟨go21,0,none⟩) x7_1.length co22)) (v1:=(.slice (some ⟨go21,0,none⟩) x7_1.length co22)) (ok:=(fun _=>True)) (Kd.R_mono HO_10.out (fun _ hk=>⟨trivial,hk⟩)) hg (.inl rfl));have n2_:=am (zq2 (g:=gb511) (o:=.cells #[.slice AX lA.length c0_0,.int .i64 aA,.slice AY lB.length cB,.int .i64 a0_3,.int .i64 aC] 27 (0,0)) BK511.out hg (Kd.R_ne HO_7.out BK511.out (by decide)));have n3_:=am ((by rw [hw];exact zqf (HB.out) GB21.out : Below w.heap.size w w25));clear HO_7;clear HO_10;clear BK511;clear HB;have HO_7:=n0_;have HO_10:=n1_;have BK511:=n2_;have HB:=n3_;clear n0_ n1_ n2_ n3_;clear hg hw hp_));try go_wp2_with (first | ((with_reducible refine zxb (t:=3) (p:=65) rfl ?_);(try (rw [drewN_self wr];generalize hq_ : World.drewN wr _ = wr;have n0_:=am (Kd.R_at hq_ HO_7.out);have n1_:=am (Kd.R_at hq_ HO_10.out);have n2_:=am (blk_at hq_ BK511.out);have n3_:=am (zbs hq_ HB.out);clear hq_ HO_7 HO_10 BK511 HB;have HO_7:=n0_;have HO_10:=n1_;have BK511:=n2_;have HB:=n3_;clear n0_ n1_ n2_ n3_;(try (have HP24:=Kd.R_putg HO_7.out (x12_1 : Int) (wrap64 ((rd x7_1 x12_1) + (ji20)))))));refine zvt (t:=3) (p:=65) (v:=?vo_w25) (w1:=(wr.setCell ⟨go21,(x12_1 : Int).toNat,none⟩ (.int .i64 (wrap64 ((rd x7_1 x12_1) + (ji20)))))) ?hg ?ho ?hn ?hr ?_;(case ho=>rfl);(case hg=>rfl);(case hn=>rfl);(case hr=>go_simp;try rfl);intro w25 hw;have hg : wr.grownBy w25 (some go21):=(by rw [hw];exact HP24.2);have hp_ : Kd.R (Kd.int .i64) 3 w25 w.heap.size (fun k_=>some k_ ≠ (.slice (some ad522) t518.length co23 : Value).ownBlock) (.slice (some ⟨go21,0,none⟩) x7_1.length co22) y525:=(by rw [hw,Ny525.out];exact HP24.1);clear HP24;have n0_:=am (hp_);have n1_:=am (Kd.R_after (v:=(.slice (some ⟨go21,0,none⟩) x7_1.length co22)) (v1:=(.slice (some ⟨go21,0,none⟩) x7_1.length co22)) (ok:=(fun _=>True)) (Kd.R_mono HO_10.out (fun _ hk=>⟨trivial,hk⟩)) hg (.inl rfl));have n2_:=am (zq2 (g:=gb511) (o:=.cells #[.slice AX lA.length c0_0,.int .i64 aA,.slice AY lB.length cB,.int .i64 a0_3,.int .i64 aC] 27 (0,0)) BK511.out hg (Kd.R_ne HO_7.out BK511.out (by decide)));have n3_:=am ((by rw [hw];exact zqf (HB.out) GB21.out : Below w.heap.size w w25));clear HO_7;clear HO_10;clear BK511;clear HB;have HO_7:=n0_;have HO_10:=n1_;have BK511:=n2_;have HB:=n3_;clear n0_ n1_ n2_ n3_;clear hg hw hp_)))
   go_roundg k1
   case measure=>have:=HK1.out;omega
   case rel =>
    generalize hq_ : World.drewN wr _ = wq_
    have n0_:=am (Kd.R_at hq_ HO_7.out);have n1_:=am (Kd.R_at hq_ HO_10.out);have n2_:=am (blk_at hq_ BK511.out);have n3_:=am (zbs hq_ HB.out)
    clear HO_7 HO_10 BK511 HB
    have HO_7:=n0_;have HO_10:=n1_;have BK511:=n2_;have HB:=n3_
    have HQ_:=Kd.R_putg HO_7.out (x12_1 : Int) (wrap64 ((rd x7_1 x12_1) + (ji20)))
    have hg:=HQ_.2
    exact ⟨(y525),(wrap64 (x9_1 - (ji20))),(wrap64 (x12_1 + 1)),(by first | rfl | (simp;done) | (simp only [← hji20]<;>(first | rfl | simp)) | (simp [*];done)),(by first | rfl | (simp;done) | (simp [*];done)),H',⟨by have:=HK1.out;omega⟩,⟨by rw [Ny525.out];exact HQ_.1⟩,⟨Kd.R_mono (Kd.R_after (v:=(.slice (some ⟨go21,0,none⟩) x7_1.length co22)) (v1:=(.slice (some ⟨go21,0,none⟩) x7_1.length co22)) (ok:=(fun _=>True)) (Kd.R_mono HO_10.out (fun _ hk=>⟨trivial,hk⟩)) hg (.inl rfl)) (fun _ hk=>hk.2)⟩,⟨zq2 (g:=gb511) (o:=.cells #[.slice AX lA.length c0_0,.int .i64 aA,.slice AY lB.length cB,.int .i64 a0_3,.int .i64 aC] 27 (0,0)) BK511.out hg (Kd.R_ne HO_7.out BK511.out (by decide))⟩,⟨zqf HB.out GB21.out⟩⟩
def q4_Suffices.l0 : Nat→List Int→List Int→Int→Option (Bool)
 | 0,_,_,_=>none
 | k + 1,x2,x9,x11=>if x11 < (x9.length : Int) then (if 0≤x11 then (if x11 < (x2.length : Int) then (if (rd x9 x11) < (rd x2 x11) then (some false) else (q4_Suffices.l0 k x2 x9 (wrap64 (x11 + 1)))) else (none)) else (none)) else (some true)
def q4_Suffices.f (k : Nat) (lA : List (S126)) (aA : Int) (lB : List (S48)) (a0_3 : Int) (aC : Int) (l1 : List Int) (l2 : List Int) (a3 : Int) : Option (Bool):=(q4_At.f k lA aA lB a0_3 aC l1).bind fun bt536=>((q4_Shares.f k lA bt536.1 bt536.2.1 bt536.2.2.1 bt536.2.2.2 a3).bind fun bt542=>(q4_Suffices.l0 k l2 bt542.1 0))
theorem q4_Suffices.calls (k : Nat) (AX : Option Addr) (c0_0 : Nat) (lA : List (S126)) (aA : Int) (AY : Option Addr) (cB : Nat) (lB : List (S48)) (a0_3 : Int) (aC : Int) (A1 : Option Addr) (c1 : Nat) (l1 : List Int) (A2 : Option Addr) (c2 : Nat) (l2 : List Int) (a3 : Int) (r : Bool) (w : World) (hra : Kd.C k126 w AX lA.length lA) (hc0_0 : lA.length≤c0_0) (hrb : Kd.C k48 w AY lB.length lB) (hcb : lB.length≤cB) (hr1 : Kd.C (Kd.int .i64) w A1 l1.length l1) (hc1 : l1.length≤c1) (hr2 : Kd.C (Kd.int .i64) w A2 l2.length l2) (hc2 : l2.length≤c2) (h : q4_Suffices.f k lA aA lB a0_3 aC l1 l2 a3 = some r) :
 Calls Tryz.prog 21 #[.agg #[.slice AX lA.length c0_0,.int .i64 aA,.slice AY lB.length cB,.int .i64 a0_3,.int .i64 aC],.slice A1 l1.length c1,.slice A2 l2.length c2,.int .i64 a3] w fun e w'=>e = .returned (.bool r)∧Below w.heap.size w w':=by
 have hu27:=Tryz.underlying27
 have HRA:=am hra
 have HCA:=am hc0_0
 clear hra hc0_0
 have HRB:=am hrb
 have HCB:=am hcb
 clear hrb hcb
 have HR1:=am hr1
 have HC1:=am hc1
 clear hr1 hc1
 have HR2:=am hr2
 have HC2:=am hc2
 clear hr2 hc2
 have HB:=am (Below.refl w.heap.size w)
 have H : ((q4_At.f k lA aA lB a0_3 aC l1).bind fun bt536=>((q4_Shares.f k lA bt536.1 bt536.2.1 bt536.2.2.1 bt536.2.2.2 a3).bind fun bt542=>(q4_Suffices.l0 k l2 bt542.1 0))) = some r:=h
 clear h
 replace H:=obm H
 obtain ⟨⟨t536,t537,t540,t541⟩,A50,H⟩:=H
 replace H : ((q4_Shares.f k lA t536 t537 t540 t541 a3).bind fun bt542=>(q4_Suffices.l0 k l2 bt542.1 0)) = some r:=H
 have A5:=am A50
 clear A50
 replace H:=obm H
 obtain ⟨⟨t542,t545⟩,A60,H⟩:=H
 replace H : (q4_Suffices.l0 k l2 t542 0) = some r:=H
 have A6:=am A60
 clear A60
 replace H':=am H
 go_enter Tryz.func21,Tryz.ntmps21
 go_wp2_with (first | ((refine zqn (N:=4) rfl ?_);refine zqm rfl (N:=4) rfl (cs:=#[.slice AX lA.length c0_0,.int .i64 aA,.slice AY lB.length cB,.int .i64 a0_3,.int .i64 aC]) (t:=27) ?hr ?_;(case hr=>go_simp;try rfl);intro gb526 hg w7 hbox hb;have BK526:=am (hbox);have GW526:=am (zqq (HB.out) hg);have GE526:=am (zqq (HB.out) hg);replace HB:=am (zqb (HB.out) hb);clear hb hbox hg;obtain ⟨hcz8_0,hcz8_1,hcz8_2,hcz8_3,hcz8_4⟩:=cO5 BK526.out) | (go_at_call 24;(with_reducible refine (q4_At.calls k _ _ lA aA _ _ lB a0_3 aC _ _ l1 t536 t537 t540 t541 _ ?side1 ?side2 ?side3 ?side4 ?side5 ?side6 A5.out).mono ?_);(case side1=>exact kC HRA.out HB.out);(case side2=>exact HCA.out);(case side3=>exact kC HRB.out HB.out);(case side4=>exact HCB.out);(case side5=>exact kC HR1.out HB.out);(case side6=>exact HC1.out);rintro e w9 ⟨v538,rfl,ho0,hb⟩;have HO539:=am (Kd.R_lower ho0 (zqr (HB.out)));replace BK526:=(kmv hb BK526);replace HB:=am (zqb (HB.out) hb);(try clear hb);(try clear hb2);(try clear hk);(try clear hi);(try clear ho0);obtain ⟨Ao10,co10,eo10⟩:=Kd.R_slice HO539.out;subst eo10) | (go_at_call 74;(with_reducible refine (q4_Shares.calls k _ _ lA t536 _ _ t537 t540 t541 a3 t542 t545 _ ?side1 ?side2 ?side3 ?side4 A6.out).mono ?_);(case side1=>exact kC HRA.out HB.out);(case side2=>exact HCA.out);(case side3=>repeat (first | exact (Kd.R_reads' HO539.out).2.2 | (with_reducible refine Kd.C_alloc ?_ _) | (with_reducible refine Kd.C_drewN ?_ _) | (with_reducible refine Kd.C_drew ?_)));(case side4=>exact (Kd.R_reads' HO539.out).2.1);rintro e w11 ⟨v543,rfl,ho0,hb⟩;have HO544:=am (Kd.R_lower ho0 (zqr (HB.out)));replace HO539:=am (Kd.R_below HO539.out hb);replace BK526:=(kmv hb BK526);replace HB:=am (zqb (HB.out) hb);(try clear hb);(try clear hb2);(try clear hk);(try clear hi);(try clear ho0)))
 repeat (go_quiet (first | ((refine zqn (N:=4) rfl ?_);refine zqm rfl (N:=4) rfl (cs:=#[.slice AX lA.length c0_0,.int .i64 aA,.slice AY lB.length cB,.int .i64 a0_3,.int .i64 aC]) (t:=27) ?hr ?_;(case hr=>go_simp;try rfl);intro gb526 hg w7 hbox hb;have BK526:=am (hbox);have GW526:=am (zqq (by repeat (first | (with_reducible first | exact HB.out | apply zqc | apply zqa) | exact HB.out)) hg);have GE526:=am (zqq (by repeat (first | (with_reducible first | exact HB.out | apply zqc | apply zqa) | exact HB.out)) hg);replace HB:=am (zqb (by repeat (first | (with_reducible first | exact HB.out | apply zqc | apply zqa) | exact HB.out)) hb);clear hb hbox hg;obtain ⟨hcz8_0,hcz8_1,hcz8_2,hcz8_3,hcz8_4⟩:=cO5 BK526.out) | (go_at_call 24;(with_reducible refine (q4_At.calls k _ _ lA aA _ _ lB a0_3 aC _ _ l1 t536 t537 t540 t541 _ ?side1 ?side2 ?side3 ?side4 ?side5 ?side6 A5.out).mono ?_);(case side1=>repeat (first | exact (kC HRA.out HB.out) | (with_reducible refine Kd.C_alloc ?_ _) | (with_reducible refine Kd.C_drewN ?_ _) | (with_reducible refine Kd.C_drew ?_)));(case side2=>exact HCA.out);(case side3=>repeat (first | exact (kC HRB.out HB.out) | (with_reducible refine Kd.C_alloc ?_ _) | (with_reducible refine Kd.C_drewN ?_ _) | (with_reducible refine Kd.C_drew ?_)));(case side4=>exact HCB.out);(case side5=>repeat (first | exact (kC HR1.out HB.out) | (with_reducible refine Kd.C_alloc ?_ _) | (with_reducible refine Kd.C_drewN ?_ _) | (with_reducible refine Kd.C_drew ?_)));(case side6=>exact HC1.out);rintro e w9 ⟨v538,rfl,ho0,hb⟩;have HO539:=am (Kd.R_lower ho0 (zqr (by repeat (first | (with_reducible first | exact HB.out | refine zqf ?_ GE526.out | apply zqc | apply zqa) | exact HB.out))));replace BK526:=(kmv hb BK526);replace HB:=am (zqb (by repeat (first | (with_reducible first | exact HB.out | refine zqf ?_ GE526.out | apply zqc | apply zqa) | exact HB.out)) hb);(try clear hb);(try clear hb2);(try clear hk);(try clear hi);(try clear ho0);obtain ⟨Ao10,co10,eo10⟩:=Kd.R_slice HO539.out;subst eo10) | (go_at_call 74;(with_reducible refine (q4_Shares.calls k _ _ lA t536 _ _ t537 t540 t541 a3 t542 t545 _ ?side1 ?side2 ?side3 ?side4 A6.out).mono ?_);(case side1=>repeat (first | exact (kC HRA.out HB.out) | (with_reducible refine Kd.C_alloc ?_ _) | (with_reducible refine Kd.C_drewN ?_ _) | (with_reducible refine Kd.C_drew ?_)));(case side2=>exact HCA.out);(case side3=>repeat (first | exact (Kd.R_reads' HO539.out).2.2 | (with_reducible refine Kd.C_alloc ?_ _) | (with_reducible refine Kd.C_drewN ?_ _) | (with_reducible refine Kd.C_drew ?_)));(case side4=>exact (Kd.R_reads' HO539.out).2.1);rintro e w11 ⟨v543,rfl,ho0,hb⟩;have HO544:=am (Kd.R_lower ho0 (zqr (by repeat (first | (with_reducible first | exact HB.out | refine zqf ?_ GE526.out | apply zqc | apply zqa) | exact HB.out))));replace HO539:=am (Kd.R_below HO539.out hb);replace BK526:=(kmv hb BK526);replace HB:=am (zqb (by repeat (first | (with_reducible first | exact HB.out | refine zqf ?_ GE526.out | apply zqc | apply zqa) | exact HB.out)) hb);(try clear hb);(try clear hb2);(try clear hk);(try clear hi);(try clear ho0)));try go_wp2_with (first | ((refine zqn (N:=4) rfl ?_);refine zqm rfl (N:=4) rfl (cs:=#[.slice AX lA.length c0_0,.int .i64 aA,.slice AY lB.length cB,.int .i64 a0_3,.int .i64 aC]) (t:=27) ?hr ?_;(case hr=>go_simp;try rfl);intro gb526 hg w7 hbox hb;have BK526:=am (hbox);have GW526:=am (zqq (by repeat (first | (with_reducible first | exact HB.out | apply zqc | apply zqa) | exact HB.out)) hg);have GE526:=am (zqq (by repeat (first | (with_reducible first | exact HB.out | apply zqc | apply zqa) | exact HB.out)) hg);replace HB:=am (zqb (by repeat (first | (with_reducible first | exact HB.out | apply zqc | apply zqa) | exact HB.out)) hb);clear hb hbox hg;obtain ⟨hcz8_0,hcz8_1,hcz8_2,hcz8_3,hcz8_4⟩:=cO5 BK526.out) | (go_at_call 24;(with_reducible refine (q4_At.calls k _ _ lA aA _ _ lB a0_3 aC _ _ l1 t536 t537 t540 t541 _ ?side1 ?side2 ?side3 ?side4 ?side5 ?side6 A5.out).mono ?_);(case side1=>repeat (first | exact (kC HRA.out HB.out) | (with_reducible refine Kd.C_alloc ?_ _) | (with_reducible refine Kd.C_drewN ?_ _) | (with_reducible refine Kd.C_drew ?_)));(case side2=>exact HCA.out);(case side3=>repeat (first | exact (kC HRB.out HB.out) | (with_reducible refine Kd.C_alloc ?_ _) | (with_reducible refine Kd.C_drewN ?_ _) | (with_reducible refine Kd.C_drew ?_)));(case side4=>exact HCB.out);(case side5=>repeat (first | exact (kC HR1.out HB.out) | (with_reducible refine Kd.C_alloc ?_ _) | (with_reducible refine Kd.C_drewN ?_ _) | (with_reducible refine Kd.C_drew ?_)));(case side6=>exact HC1.out);rintro e w9 ⟨v538,rfl,ho0,hb⟩;have HO539:=am (Kd.R_lower ho0 (zqr (by repeat (first | (with_reducible first | exact HB.out | refine zqf ?_ GE526.out | apply zqc | apply zqa) | exact HB.out))));replace BK526:=(kmv hb BK526);replace HB:=am (zqb (by repeat (first | (with_reducible first | exact HB.out | refine zqf ?_ GE526.out | apply zqc | apply zqa) | exact HB.out)) hb);(try clear hb);(try clear hb2);(try clear hk);(try clear hi);(try clear ho0);obtain ⟨Ao10,co10,eo10⟩:=Kd.R_slice HO539.out;subst eo10) | (go_at_call 74;(with_reducible refine (q4_Shares.calls k _ _ lA t536 _ _ t537 t540 t541 a3 t542 t545 _ ?side1 ?side2 ?side3 ?side4 A6.out).mono ?_);(case side1=>repeat (first | exact (kC HRA.out HB.out) | (with_reducible refine Kd.C_alloc ?_ _) | (with_reducible refine Kd.C_drewN ?_ _) | (with_reducible refine Kd.C_drew ?_)));(case side2=>exact HCA.out);(case side3=>repeat (first | exact (Kd.R_reads' HO539.out).2.2 | (with_reducible refine Kd.C_alloc ?_ _) | (with_reducible refine Kd.C_drewN ?_ _) | (with_reducible refine Kd.C_drew ?_)));(case side4=>exact (Kd.R_reads' HO539.out).2.1);rintro e w11 ⟨v543,rfl,ho0,hb⟩;have HO544:=am (Kd.R_lower ho0 (zqr (by repeat (first | (with_reducible first | exact HB.out | refine zqf ?_ GE526.out | apply zqc | apply zqa) | exact HB.out))));replace HO539:=am (Kd.R_below HO539.out hb);replace BK526:=(kmv hb BK526);replace HB:=am (zqb (by repeat (first | (with_reducible first | exact HB.out | refine zqf ?_ GE526.out | apply zqc | apply zqa) | exact HB.out)) hb);(try clear hb);(try clear hb2);(try clear hk);(try clear hi);(try clear ho0))))
 go_loopg [11] k (fun kq v11 w'=>∃ (x11_1 : Int),v11 = .int .i64 x11_1∧zqk (q4_Suffices.l0 kq l2 t542 x11_1 = some r)∧zqk (kq≤k)∧zqk (Kd.R (Kd.int .i64) 3 w' w.heap.size (fun _=>True) v543 t542)∧zqk (w'.heap[gb526]? = some (.cells #[(.slice AX lA.length c0_0),.int .i64 aA,(.slice AY lB.length cB),.int .i64 a0_3,.int .i64 aC] 27 (0,0)))∧zqk (Below w.heap.size w w'))
 case atStart=>exact ⟨(0),(by first | rfl | (simp;done) | (simp [*];done)),H',⟨Nat.le_refl _⟩,⟨by (with_reducible repeat (first | apply Kd.R_alloc | apply Kd.R_drewN | apply Kd.R_drew));exact HO544.out⟩,⟨BK526.out⟩,⟨HB.out⟩⟩
 case round =>
  clear H'
  obtain ⟨x11_1,rfl,HA,HK1,HO_9,BK526,HB⟩:=hrel
  cases gk with
  | zero=>exact absurd HA.out (by simp [q4_Suffices.l0])
  | succ k1 =>
   have H:=HA.out
   clear HA
   simp only [q4_Suffices.l0] at H
   by_cases c12 : x11_1 < (t542.length : Int)
   case neg =>
    rw [if_neg c12] at H
    have c12b0 : decide (x11_1 < (t542.length : Int)) = false:=decide_eq_false c12
    clear c12
    obtain rfl:=Option.some.inj H
    obtain ⟨Ao18,co18,eo18⟩:=Kd.R_slice HO_9.out
    subst eo18
    go_wp2
    repeat (go_quiet (fail);try go_wp2)
    go_ret
    exact ⟨by first | rfl | (simp [*]<;>rfl),HB.out⟩
   rw [if_pos c12] at H
   have c12b0 : decide (x11_1 < (t542.length : Int)) = true:=decide_eq_true c12
   clear c12
   by_cases c13 : 0≤x11_1
   case neg =>
    rw [if_neg c13] at H
    exact absurd H (by simp)
   rw [if_pos c13] at H
   have c13b0 : decide (0≤x11_1) = true:=decide_eq_true c13
   clear c13
   by_cases c14 : x11_1 < (l2.length : Int)
   case neg =>
    rw [if_neg c14] at H
    exact absurd H (by simp)
   rw [if_pos c14] at H
   have c14b0 : decide (x11_1 < (l2.length : Int)) = true:=decide_eq_true c14
   clear c14
   by_cases c15 : (rd t542 x11_1) < (rd l2 x11_1)
   ·rw [if_pos c15] at H
    have c15b0 : decide ((rd t542 x11_1) < (rd l2 x11_1)) = true:=decide_eq_true c15
    clear c15
    obtain rfl:=Option.some.inj H
    obtain ⟨Ao16,co16,eo16⟩:=Kd.R_slice HO_9.out
    subst eo16
    have p546 : 0≤(x11_1 : Int):=of_decide_eq_true (by assumption)
    have q546 : x11_1 < (t542.length : Int):=of_decide_eq_true (by assumption)
    obtain ⟨ad546,e546,hx546_0⟩:=Kd.at_int (Kd.R_reads' HO_9.out).2.2 x11_1 p546 q546
    cases e546
    replace p546:=eq_true p546
    replace q546:=eq_true q546
    have p547 : 0≤(x11_1 : Int):=of_decide_eq_true (by assumption)
    have q547 : x11_1 < (l2.length : Int):=of_decide_eq_true (by assumption)
    obtain ⟨ad547,e547,hx547_0⟩:=Kd.at_int HR2.out x11_1 p547 q547
    cases e547
    replace hx547_0:=(HB.out.cell (wbl hx547_0)).trans hx547_0
    replace p547:=eq_true p547
    replace q547:=eq_true q547
    go_wp2
    repeat (go_quiet (fail);try go_wp2)
    go_ret
    exact ⟨by first | rfl | (simp [*]<;>rfl),zqa HB.out _⟩
   ·rw [if_neg c15] at H
    have c15b0 : decide ((rd t542 x11_1) < (rd l2 x11_1)) = false:=decide_eq_false c15
    clear c15
    replace H':=am H
    obtain ⟨Ao17,co17,eo17⟩:=Kd.R_slice HO_9.out
    subst eo17
    have p546 : 0≤(x11_1 : Int):=of_decide_eq_true (by assumption)
    have q546 : x11_1 < (t542.length : Int):=of_decide_eq_true (by assumption)
    obtain ⟨ad546,e546,hx546_0⟩:=Kd.at_int (Kd.R_reads' HO_9.out).2.2 x11_1 p546 q546
    cases e546
    replace p546:=eq_true p546
    replace q546:=eq_true q546
    have p547 : 0≤(x11_1 : Int):=of_decide_eq_true (by assumption)
    have q547 : x11_1 < (l2.length : Int):=of_decide_eq_true (by assumption)
    obtain ⟨ad547,e547,hx547_0⟩:=Kd.at_int HR2.out x11_1 p547 q547
    cases e547
    replace hx547_0:=(HB.out.cell (wbl hx547_0)).trans hx547_0
    replace p547:=eq_true p547
    replace q547:=eq_true q547
    go_wp2
    repeat (go_quiet (fail);try go_wp2)
    go_roundg k1
    case measure=>have:=HK1.out;omega
    case rel=>exact ⟨(wrap64 (x11_1 + 1)),(by first | rfl | (simp;done) | (simp [*];done)),H',⟨by have:=HK1.out;omega⟩,⟨by (with_reducible repeat (first | apply Kd.R_alloc | apply Kd.R_drewN | apply Kd.R_drew));exact HO_9.out⟩,⟨BK526.out⟩,⟨zqa HB.out _⟩⟩
def q4_Moved.l0 : Nat→List Int→Int→Int→List (S126)→Int→List (S48)→Int→Int→Option (Int)
 | 0,_,_,_,_,_,_,_,_=>none
 | k + 1,x1,x5,x6,x549000,x549001,x549002,x549003,x549004=>if x6 < (x1.length : Int) then (if 0≤x6 then (if x6 < (x549002.length : Int) then ((q4_far.f (rd x1 x6) ((zql x549002 x6).f1)).bind fun t551=>(q4_Moved.l0 k x1 (wrap64 (x5 + t551)) (wrap64 (x6 + 1)) x549000 x549001 x549002 x549003 x549004)) else (none)) else (none)) else (some x5)
def q4_Moved.f (k : Nat) (lA : List (S126)) (aA : Int) (lB : List (S48)) (a0_3 : Int) (aC : Int) (l1 : List Int) : Option (Int):=q4_Moved.l0 k l1 0 0 lA aA lB a0_3 aC
def q4_Moved.T5 : Bool × List (List Nat × List Nat):=(true,[([],[]),([],[]),([],[]),([1,2],[1,2]),([3],[3]),([],[]),([5],[5]),([],[]),([6,7],[6,7]),([8],[8]),([9],[9]),([4,10],[4,10]),([0,11],[0,11]),([12,11,0,1,2,3,4,5,6,7,8,9,10,11,12],[0,12])])
def q4_Moved.B5 : List Nat:=[0,0,0,6,14,0,32,0,224,480,992,2046,4095,8191]
theorem q4_Moved.tab5 : rtab .any (opsOf Tryz.f22 5) = q4_Moved.T5:=by kernel_rfl
theorem q4_Moved.bits5 : zv3 q4_Moved.T5.2 q4_Moved.B5 = true:=by kernel_rfl
theorem q4_Moved.calls (k : Nat) (AX : Option Addr) (c0_0 : Nat) (lA : List (S126)) (aA : Int) (AY : Option Addr) (cB : Nat) (lB : List (S48)) (a0_3 : Int) (aC : Int) (A1 : Option Addr) (c1 : Nat) (l1 : List Int) (r : Int) (w : World) (hra : Kd.C k126 w AX lA.length lA) (hc0_0 : lA.length≤c0_0) (hrb : Kd.C k48 w AY lB.length lB) (hcb : lB.length≤cB) (hr1 : Kd.C (Kd.int .i64) w A1 l1.length l1) (hc1 : l1.length≤c1) (h : q4_Moved.f k lA aA lB a0_3 aC l1 = some r) :
 Calls Tryz.prog 22 #[.agg #[.slice AX lA.length c0_0,.int .i64 aA,.slice AY lB.length cB,.int .i64 a0_3,.int .i64 aC],.slice A1 l1.length c1] w fun e w'=>e = .returned (.int .i64 r)∧Below w.heap.size w w':=by
 have hu27:=Tryz.underlying27
 have HRA:=am hra
 have HCA:=am hc0_0
 clear hra hc0_0
 have HRB:=am hrb
 have HCB:=am hcb
 clear hrb hcb
 have HR1:=am hr1
 have HC1:=am hc1
 clear hr1 hc1
 have HB:=am (Below.refl w.heap.size w)
 have H : (q4_Moved.l0 k l1 0 0 lA aA lB a0_3 aC) = some r:=h
 clear h
 replace H':=am H
 go_enter Tryz.func22,Tryz.ntmps22
 go_wp2_with (first | ((refine zqn (N:=2) rfl ?_);refine zqm rfl (N:=2) rfl (cs:=#[.slice AX lA.length c0_0,.int .i64 aA,.slice AY lB.length cB,.int .i64 a0_3,.int .i64 aC]) (t:=27) ?hr ?_;(case hr=>go_simp;try rfl);intro gb548 hg w3 hbox hb;have BK548:=am (hbox);have GW548:=am (zqq (HB.out) hg);have GE548:=am (zqq (HB.out) hg);replace HB:=am (zqb (HB.out) hb);clear hb hbox hg))
 go_loopg [5,6] k (fun kq v5 v6 w'=>∃ (x5_1 : Int) (x6_1 : Int),v5 = .int .i64 x5_1∧v6 = .int .i64 x6_1∧zqk (q4_Moved.l0 kq l1 x5_1 x6_1 lA aA lB a0_3 aC = some r)∧zqk (kq≤k)∧zqk (w'.heap[gb548]? = some (.cells #[(.slice AX lA.length c0_0),.int .i64 aA,(.slice AY lB.length cB),.int .i64 a0_3,.int .i64 aC] 27 (0,0)))∧zqk (Below w.heap.size w w'))
 case atStart=>exact ⟨(0),(0),(by first | rfl | (simp;done) | (simp [*];done)),(by first | rfl | (simp;done) | (simp [*];done)),H',⟨Nat.le_refl _⟩,⟨BK548.out⟩,⟨HB.out⟩⟩
 case round =>
  clear H'
  obtain ⟨x5_1,x6_1,rfl,rfl,HA,HK1,BK548,HB⟩:=hrel
  cases gk with
  | zero=>exact absurd HA.out (by simp [q4_Moved.l0])
  | succ k1 =>
   have H:=HA.out
   clear HA
   simp only [q4_Moved.l0] at H
   by_cases c4 : x6_1 < (l1.length : Int)
   case neg =>
    rw [if_neg c4] at H
    have c4b0 : decide (x6_1 < (l1.length : Int)) = false:=decide_eq_false c4
    clear c4
    obtain rfl:=Option.some.inj H
    go_wp2
    go_ret
    exact ⟨by first | rfl | (simp [*]<;>rfl),HB.out⟩
   rw [if_pos c4] at H
   have c4b0 : decide (x6_1 < (l1.length : Int)) = true:=decide_eq_true c4
   clear c4
   by_cases c5 : 0≤x6_1
   case neg =>
    rw [if_neg c5] at H
    exact absurd H (by simp)
   rw [if_pos c5] at H
   have c5b0 : decide (0≤x6_1) = true:=decide_eq_true c5
   clear c5
   by_cases c6 : x6_1 < (lB.length : Int)
   case neg =>
    rw [if_neg c6] at H
    exact absurd H (by simp)
   rw [if_pos c6] at H
   have c6b0 : decide (x6_1 < (lB.length : Int)) = true:=decide_eq_true c6
   clear c6
   replace H:=obm H
   obtain ⟨t551,A70,H⟩:=H
   replace H : (q4_Moved.l0 k1 l1 (wrap64 (x5_1 + t551)) (wrap64 (x6_1 + 1)) lA aA lB a0_3 aC) = some r:=H
   have A7:=am A70
   clear A70
   replace H':=am H
   try go_wp2
   replace BK548:=am (zqj BK548.out)
   replace HB:=am (zwc HB.out)
   have p549 : 0≤(x6_1 : Int):=of_decide_eq_true (by assumption)
   have q549 : x6_1 < (l1.length : Int):=of_decide_eq_true (by assumption)
   obtain ⟨ad549,e549,hx549_0⟩:=Kd.at_int HR1.out x6_1 p549 q549
   have hw549_0:=hx549_0
   cases e549
   replace hx549_0:=(HB.out.cell (wbl hx549_0)).trans hx549_0
   replace p549:=eq_true p549
   replace q549:=eq_true q549
   have p550 : 0≤(x6_1 : Int):=of_decide_eq_true (by assumption)
   have q550 : x6_1 < (lB.length : Int):=of_decide_eq_true (by assumption)
   obtain ⟨ad550,e550,hx550_0,hx550_1⟩:=zvi HRB.out x6_1 p550 q550
   have hw550_1:=hx550_1
   have hw550_0:=hx550_0
   cases e550
   replace hx550_0:=(HB.out.cell (wbl hx550_0)).trans hx550_0
   replace hx550_1:=(HB.out.cell (wbl hx550_1)).trans hx550_1
   replace p550:=eq_true p550
   replace q550:=eq_true q550
   refine zbe (n:=14) (S:=fun w'=>w'.cell? ⟨gb548,0,none⟩ = some (.slice AX lA.length c0_0)∧w'.cell? ⟨gb548,1,none⟩ = some (.int .i64 aA)∧w'.cell? ⟨gb548,2,none⟩ = some (.slice (some ad550) lB.length cB)∧w'.cell? ⟨gb548,3,none⟩ = some (.int .i64 a0_3)∧w'.cell? ⟨gb548,4,none⟩ = some (.int .i64 aC)∧w'.cell? (ad549.add (x6_1).toNat) = some (.int .i64 (rd l1 x6_1))∧w'.cell? (ad550.add ((x6_1).toNat * 2)) = some (.int .i64 ((zql lB x6_1).f0))∧w'.cell? ⟨(ad550.add ((x6_1).toNat * 2)).block,(ad550.add ((x6_1).toNat * 2)).off + 1,none⟩ = some (.int .i64 ((zql lB x6_1).f1))) (ds:=[]) (ba 14 0) (by kernel_rfl) rfl rfl ⟨(zqe BK548.out 0).trans rfl,(zqe BK548.out 1).trans rfl,(zqe BK548.out 2).trans rfl,(zqe BK548.out 3).trans rfl,(zqe BK548.out 4).trans rfl,((HB.out.cell (wbl hw549_0)).trans hw549_0),((HB.out.cell (wbl hw550_0)).trans hw550_0),((HB.out.cell (wbl hw550_1)).trans hw550_1)⟩ (fun hHeld=>?_);refine zve q4_Moved.tab5 q4_Moved.bits5 (fun HT_ HW_=>?_)
   generalize wr.drew = w8 at BK548 HB hx549_0 hx550_0 hx550_1 hHeld ⊢
   refine pure_ (i:=0) (N:=some 13) (v:=?_) (a':=?_) (ba 14 1) rfl rfl (zqs HT_.out (by kernel_rfl)) (fun _ _ _ h=>h) (Or.inl ⟨by rfl,?_⟩) ?_ ?_
   rotate_left
   ·intro w'
    go_simp
    with_reducible rfl
   rotate_left
   ·simp only [Act.put,NRM]
    rfl
   refine pure_ (i:=1) (N:=some 14) (v:=?_) (a':=?_) (ba 14 3) rfl rfl (zqs HT_.out (by kernel_rfl)) (fun _ _ _ h=>h) (Or.inl ⟨by rfl,?_⟩) ?_ ?_
   rotate_left
   ·intro w'
    go_simp
    with_reducible rfl
   rotate_left
   ·simp only [Act.put,NRM]
    rfl
   refine pure_ (i:=2) (N:=some 15) (v:=?_) (a':=?_) (ba 14 7) rfl rfl (zqs HT_.out (by kernel_rfl)) (fun _ _ _ h=>h) (Or.inl ⟨by rfl,?_⟩) ?_ ?_
   rotate_left
   ·intro w'
    go_simp
    with_reducible rfl
   rotate_left
   ·simp only [Act.put,NRM]
    rfl
   refine pure_ (i:=3) (N:=some 16) (v:=?_) (a':=?_) (ba 14 15) rfl rfl (zqs HT_.out (by kernel_rfl)) (fun _ _ _ h=>h) (Or.inl ⟨by rfl,?_⟩) ?_ ?_
   rotate_left
   ·intro w'
    go_simp
    with_reducible rfl
   rotate_left
   ·simp only [Act.put,NRM]
    rfl
   refine pure_ (i:=5) (N:=some 18) (v:=?_) (a':=?_) (ba 14 47) rfl rfl (zqs HT_.out (by kernel_rfl)) (fun _ _ _ h=>h) (Or.inl ⟨by rfl,?_⟩) ?_ ?_
   rotate_left
   ·intro w'
    go_simp
    with_reducible rfl
   rotate_left
   ·simp only [Act.put,NRM]
    rfl
   refine pure_ (i:=7) (N:=some 20) (v:=?_) (a':=?_) (ba 14 175) rfl rfl (zqs HT_.out (by kernel_rfl)) (fun _ _ _ h=>h) (Or.inl ⟨by rfl,?_⟩) ?_ ?_
   rotate_left
   ·intro w'
    go_simp
    with_reducible rfl
   rotate_left
   ·simp only [Act.put,NRM]
    rfl
   refine take_ (i:=4) (N:=some 17) (v:=?_) (a':=?_) (ba 14 191) rfl rfl (zq8 HT_.out HW_.out (by kernel_rfl)) (fun _ _ _ h=>h) (Or.inl ⟨by rfl,?_⟩) hHeld ?_ ?_
   rotate_left
   ·rintro w' ⟨s0,s1,s2,s3,s4,s5,s6,s7⟩
    go_simp
    with_reducible rfl
   rotate_left
   ·simp only [Act.put,NRM]
    rfl
   refine take_ (i:=6) (N:=some 19) (v:=?_) (a':=?_) (ba 14 255) rfl rfl (zq8 HT_.out HW_.out (by kernel_rfl)) (fun _ _ _ h=>h) (Or.inl ⟨by rfl,?_⟩) hHeld ?_ ?_
   rotate_left
   ·rintro w' ⟨s0,s1,s2,s3,s4,s5,s6,s7⟩
    go_simp
    with_reducible rfl
   rotate_left
   ·simp only [Act.put,NRM]
    rfl
   refine pure_ (i:=8) (N:=some 21) (v:=?_) (a':=?_) (ba 14 511) rfl rfl (zqs HT_.out (by kernel_rfl)) (fun _ _ _ h=>h) (Or.inl ⟨by rfl,?_⟩) ?_ ?_
   rotate_left
   ·intro w'
    go_simp
    with_reducible rfl
   rotate_left
   ·simp only [Act.put,NRM]
    rfl
   refine pure_ (i:=9) (N:=some 22) (v:=?_) (a':=?_) (ba 14 1023) rfl rfl (zqs HT_.out (by kernel_rfl)) (fun _ _ _ h=>h) (Or.inl ⟨by rfl,?_⟩) ?_ ?_
   rotate_left
   ·intro w'
    go_simp
    with_reducible rfl
   rotate_left
   ·simp only [Act.put,NRM]
    rfl
   refine take_ (i:=10) (N:=some 23) (v:=?_) (a':=?_) (ba 14 2047) rfl rfl (zq8 HT_.out HW_.out (by kernel_rfl)) (fun _ _ _ h=>h) (Or.inl ⟨by rfl,?_⟩) hHeld ?_ ?_
   rotate_left
   ·rintro w' ⟨s0,s1,s2,s3,s4,s5,s6,s7⟩
    go_simp
    with_reducible rfl
   rotate_left
   ·simp only [Act.put,NRM]
    rfl
   refine one_ (i:=11) (N:=some 24) (ba 14 4095) rfl rfl (zxw HT_.out (by kernel_rfl)) (by decide) (fun K hK=>?_)
   refine goes_ Tryz.func56 (by kernel_rfl) rfl #[.int .i64 (rd l1 x6_1),.int .i64 ((zql lB x6_1).f1)] (by rfl) rfl rfl (by (try simp only [List.map_toArray,List.map_cons,List.map_nil]);first | done | rfl | (simp only [List.length_drop,List.length_take];rfl)) ?_
   with_reducible refine (q4_far.calls (rd l1 x6_1) ((zql lB x6_1).f1) t551 _ A7.out).mono ?_
   rintro e w9 ⟨rfl,hb⟩
   refine ⟨_,rfl,?_⟩
   replace BK548:=(kmv hb BK548)
   replace HB:=am (zqb (HB.out) hb)
   (try clear hb)
   (try clear hb2)
   (try clear hk)
   (try clear hi)
   refine hK.out _ _ ⟨(zqe BK548.out 0).trans rfl,(zqe BK548.out 1).trans rfl,(zqe BK548.out 2).trans rfl,(zqe BK548.out 3).trans rfl,(zqe BK548.out 4).trans rfl,((HB.out.cell (wbl hw549_0)).trans hw549_0),((HB.out.cell (wbl hw550_0)).trans hw550_0),((HB.out.cell (wbl hw550_1)).trans hw550_1)⟩ (fun hHeld=>?_)
   clear hK K
   refine norm_ (a':=?_) ?_ ?_
   rotate_left
   ·show Act.put _ (some 24) _ = _
    simp only [Act.put,NRM]
    rfl
   refine pure_ (i:=12) (N:=some 25) (v:=?_) (a':=?_) (ba 14 8191) rfl rfl (zqs HT_.out (by kernel_rfl)) (fun _ _ _ h=>h) (Or.inl ⟨by rfl,?_⟩) ?_ ?_
   rotate_left
   ·intro w'
    go_simp
    with_reducible rfl
   rotate_left
   ·simp only [Act.put,NRM]
    rfl
   refine pure_ (i:=13) (N:=some 5) (v:=?_) (a':=?_) (ba 14 16383) rfl rfl (zqs HT_.out (by kernel_rfl)) (fun _ _ _ h=>h) (Or.inl ⟨by rfl,?_⟩) ?_ ?_
   rotate_left
   ·intro w'
    go_simp
    with_reducible rfl
   rotate_left
   ·simp only [Act.put,NRM]
    rfl
   refine done_ (zx4 HT_.out (by kernel_rfl)) ?_
   try go_wp2
   go_roundg k1
   case measure=>have:=HK1.out;omega
   case rel=>exact ⟨(wrap64 (x5_1 + t551)),(wrap64 (x6_1 + 1)),(by first | rfl | (simp;done) | (simp [*];done)),(by first | rfl | (simp;done) | (simp [*];done)),H',⟨by have:=HK1.out;omega⟩,⟨BK548.out⟩,⟨HB.out⟩⟩
end
end Go.Proofs.YtnnmnhpeblhiiaaGreatDoor.C

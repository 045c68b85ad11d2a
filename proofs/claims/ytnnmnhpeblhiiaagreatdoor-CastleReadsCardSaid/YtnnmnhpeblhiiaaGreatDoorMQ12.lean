/- A part of the proof: the walks of the functions that it reaches. TIGHT. -/
import Derived.Test.YtnnmnhpeblhiiaaGreatDoorMQ11
set_option linter.unusedVariables false
set_option linter.unusedSimpArgs false
namespace Go.Proofs.YtnnmnhpeblhiiaaGreatDoor.C
open Go.RowKit Go.Proofs.YtnnmnhpeblhiiaaGreatDoorW.PrintWords Go.Proofs.YtnnmnhpeblhiiaaGreatDoorW.PrintLast Go.Proofs.YtnnmnhpeblhiiaaGreatDoorW.PrintMore
set_option linter.unusedVariables false
set_option linter.unusedSimpArgs false
set_option maxHeartbeats 16000000
set_option maxRecDepth 100000
section
attribute [local go_sem] max2_int min2_int max_two min_two
def gf_shares.l0 : Nat→Int→List Int→Int→List Int→Int→Int→Option (List Int × Int)
 | 0,_,_,_,_,_,_=>none
 | k + 1,x1,x7,x8,x33,x34,x35=>if x35 < x34 then (if 0≤x35 then (if x35 < (x33.length : Int) then (if x35 < (x7.length : Int) then (gf_shares.l0 k x1 (x7.set (x35 : Int).toNat (wrap64 ((rd x7 x35) + (mn x8 (wrap64 ((rd x33 x35) - (rd x7 x35))))))) (wrap64 (x8 - (mn x8 (wrap64 ((rd x33 x35) - (rd x7 x35)))))) x33 x34 (wrap64 (x35 + 1))) else (none)) else (none)) else (none)) else ((ca_sum.f k x7).bind fun t190=>(some (x7,wrap64 (x1 - t190))))
def gf_shares.f (k : Nat) (l0_0 : List (S126)) (a0_1 : Int) (l0_2 : List (S48)) (a0_3 : Int) (a0_4 : Int) (l0_5 : List (List Int)) (a1 : Int) : Option (List Int × Int):=(gf_level.f l0_0 a0_1 l0_2 a0_3 a0_4 l0_5 a1).bind fun t179=>(if 0≤t179 then (if t179 < (l0_5.length : Int) then ((sl_Clone_int.f (rd_L3 l0_5 t179)).bind fun t181=>(if t179 < 40 then ((gf_out.f l0_0 a0_1 l0_2 a0_3 a0_4 l0_5 t179).bind fun t184=>(if 0≤(wrap64 (t179 + 1)) then (if (wrap64 (t179 + 1)) < (l0_5.length : Int) then (gf_shares.l0 k a1 t181 (wrap64 (a1 - t184)) (rd_L3 l0_5 (wrap64 (t179 + 1))) ((rd_L3 l0_5 (wrap64 (t179 + 1))).length : Int) 0) else (none)) else (none))) else ((ca_sum.f k t181).bind fun t191=>(some (t181,wrap64 (a1 - t191)))))) else (none)) else (none))
theorem gf_shares.calls (k : Nat) (A0_0 : Option Addr) (c0_0 : Nat) (l0_0 : List (S126)) (a0_1 : Int) (A0_2 : Option Addr) (c0_2 : Nat) (l0_2 : List (S48)) (a0_3 : Int) (a0_4 : Int) (A0_5 : Option Addr) (c0_5 : Nat) (l0_5 : List (List Int)) (a1 : Int) (r1 : List Int) (r2 : Int) (w : World) (hr0_0 : Kd.C k126 w A0_0 l0_0.length l0_0) (hc0_0 : l0_0.length≤c0_0) (hr0_2 : Kd.C k48 w A0_2 l0_2.length l0_2) (hc0_2 : l0_2.length≤c0_2) (hr0_5 : Kd.C (Kd.slice 3 (Kd.int .i64)) w A0_5 l0_5.length l0_5) (hc0_5 : l0_5.length≤c0_5) (h : gf_shares.f k l0_0 a0_1 l0_2 a0_3 a0_4 l0_5 a1 = some (r1,r2)) :
 Calls Tryz.prog 71 #[.agg #[.slice A0_0 l0_0.length c0_0,.int .i64 a0_1,.slice A0_2 l0_2.length c0_2,.int .i64 a0_3,.int .i64 a0_4,.slice A0_5 l0_5.length c0_5],.int .i64 a1] w fun e w'=>∃ v0_ : Value,e = .returned (.tuple #[v0_,.int .i64 r2])∧Kd.R (Kd.int .i64) 3 w' w.heap.size (fun _=>True) v0_ r1∧Below w.heap.size w w':=by
 have hu110:=Tryz.underlying110
 have HR0_0:=am hr0_0
 have HC0_0:=am hc0_0
 clear hr0_0 hc0_0
 have HR0_2:=am hr0_2
 have HC0_2:=am hc0_2
 clear hr0_2 hc0_2
 have HR0_5:=am hr0_5
 have HC0_5:=am hc0_5
 clear hr0_5 hc0_5
 have HB:=am (Below.refl w.heap.size w)
 have H : ((gf_level.f l0_0 a0_1 l0_2 a0_3 a0_4 l0_5 a1).bind fun t179=>(if 0≤t179 then (if t179 < (l0_5.length : Int) then ((sl_Clone_int.f (rd_L3 l0_5 t179)).bind fun t181=>(if t179 < 40 then ((gf_out.f l0_0 a0_1 l0_2 a0_3 a0_4 l0_5 t179).bind fun t184=>(if 0≤(wrap64 (t179 + 1)) then (if (wrap64 (t179 + 1)) < (l0_5.length : Int) then (gf_shares.l0 k a1 t181 (wrap64 (a1 - t184)) (rd_L3 l0_5 (wrap64 (t179 + 1))) ((rd_L3 l0_5 (wrap64 (t179 + 1))).length : Int) 0) else (none)) else (none))) else ((ca_sum.f k t181).bind fun t191=>(some (t181,wrap64 (a1 - t191)))))) else (none)) else (none))) = some (r1,r2):=h
 clear h
 replace H:=obm H
 obtain ⟨t179,A30,H⟩:=H
 replace H : (if 0≤t179 then (if t179 < (l0_5.length : Int) then ((sl_Clone_int.f (rd_L3 l0_5 t179)).bind fun t181=>(if t179 < 40 then ((gf_out.f l0_0 a0_1 l0_2 a0_3 a0_4 l0_5 t179).bind fun t184=>(if 0≤(wrap64 (t179 + 1)) then (if (wrap64 (t179 + 1)) < (l0_5.length : Int) then (gf_shares.l0 k a1 t181 (wrap64 (a1 - t184)) (rd_L3 l0_5 (wrap64 (t179 + 1))) ((rd_L3 l0_5 (wrap64 (t179 + 1))).length : Int) 0) else (none)) else (none))) else ((ca_sum.f k t181).bind fun t191=>(some (t181,wrap64 (a1 - t191)))))) else (none)) else (none)) = some (r1,r2):=H
 have A3:=am A30
 clear A30
 by_cases c4 : 0≤t179
 case neg =>
  rw [if_neg c4] at H
  exact absurd H (by simp)
 rw [if_pos c4] at H
 have c4b0 : decide (0≤t179) = true:=decide_eq_true c4
 clear c4
 by_cases c5 : t179 < (l0_5.length : Int)
 case neg =>
  rw [if_neg c5] at H
  exact absurd H (by simp)
 rw [if_pos c5] at H
 have c5b0 : decide (t179 < (l0_5.length : Int)) = true:=decide_eq_true c5
 clear c5
 replace H:=obm H
 obtain ⟨t181,A60,H⟩:=H
 replace H : (if t179 < 40 then ((gf_out.f l0_0 a0_1 l0_2 a0_3 a0_4 l0_5 t179).bind fun t184=>(if 0≤(wrap64 (t179 + 1)) then (if (wrap64 (t179 + 1)) < (l0_5.length : Int) then (gf_shares.l0 k a1 t181 (wrap64 (a1 - t184)) (rd_L3 l0_5 (wrap64 (t179 + 1))) ((rd_L3 l0_5 (wrap64 (t179 + 1))).length : Int) 0) else (none)) else (none))) else ((ca_sum.f k t181).bind fun t191=>(some (t181,wrap64 (a1 - t191))))) = some (r1,r2):=H
 have A6:=am A60
 clear A60
 by_cases c7 : t179 < 40
 case neg =>
  rw [if_neg c7] at H
  have c7b0 : decide (t179 < 40) = false:=decide_eq_false c7
  clear c7
  replace H:=obm H
  obtain ⟨t191,A310,H⟩:=H
  replace H : (some (t181,wrap64 (a1 - t191))) = some (r1,r2):=H
  have A31:=am A310
  clear A310
  simp only [Option.some.injEq,Prod.mk.injEq] at H
  obtain ⟨rfl,rfl⟩:=H
  go_enter Tryz.func71,Tryz.ntmps71
  go_wp2_with (first | ((refine gate_dst (N:=2) rfl ?_);refine box_event rfl (N:=2) rfl (cs:=#[.slice A0_0 l0_0.length c0_0,.int .i64 a0_1,.slice A0_2 l0_2.length c0_2,.int .i64 a0_3,.int .i64 a0_4,.slice A0_5 l0_5.length c0_5]) (t:=110) ?hr ?_;(case hr=>go_simp;try rfl);intro gb178 hg w32 hbox hb;have BK178:=am (hbox);have GW178:=am (ge_new (HB.out) hg);have GE178:=am (ge_new (HB.out) hg);replace HB:=am (below_step (HB.out) hb);clear hb hbox hg;obtain ⟨hcz33_0,hcz33_1,hcz33_2,hcz33_3,hcz33_4,hcz33_5⟩:=cO6 BK178.out) | ((with_reducible refine gate_callee (f:=85) rfl ?_);refine goesL_ (some 14) rfl rfl Tryz.func85 (by kernel_rfl) rfl #[.agg #[.slice A0_0 l0_0.length c0_0,.int .i64 a0_1,.slice A0_2 l0_2.length c0_2,.int .i64 a0_3,.int .i64 a0_4,.slice A0_5 l0_5.length c0_5],.int .i64 a1] rfl (by (try simp only [List.map_toArray,List.map_cons,List.map_nil]);first | done | rfl | (simp only [List.length_drop,List.length_take];rfl)) ?_;(refine (gf_level.calls _ _ l0_0 a0_1 _ _ l0_2 a0_3 a0_4 _ _ l0_5 a1 t179 _ ?side1 ?side2 ?side3 ?side4 ?side5 ?side6 A3.out).mono ?_);(case side1=>exact kC HR0_0.out HB.out);(case side2=>exact HC0_0.out);(case side3=>exact kC HR0_2.out HB.out);(case side4=>exact HC0_2.out);(case side5=>exact kC HR0_5.out HB.out);(case side6=>exact HC0_5.out);rintro e w34 ⟨rfl,hb⟩;refine ⟨_,rfl,?_⟩;replace BK178:=(kmv hb BK178);replace HB:=am (below_step (HB.out) hb);(try clear hb);(try clear hb2);(try clear hk);(try clear hi);obtain ⟨hcz35_0,hcz35_1,hcz35_2,hcz35_3,hcz35_4,hcz35_5⟩:=cO6 BK178.out;have p180 : 0≤(t179 : Int):=of_decide_eq_true (by assumption);have q180 : t179 < (l0_5.length : Int):=of_decide_eq_true (by assumption);obtain ⟨ad180,A180_0,c180_0,e180,hx180_0,hl180_0,hi180_0⟩:=at_L3 HR0_5.out t179 p180 q180;cases e180;replace hx180_0:=(HB.out.cell (wbl hx180_0)).trans hx180_0;have HR180_0:=am hi180_0;have HC180_0:=am hl180_0;clear hi180_0 hl180_0;replace p180:=eq_true p180;replace q180:=eq_true q180) | ((with_reducible refine gate_callee (f:=108) rfl ?_);refine goesL_ (some 20) rfl rfl Tryz.func108 (by kernel_rfl) rfl #[.slice A180_0 (rd_L3 l0_5 t179).length c180_0] rfl (by (try simp only [List.map_toArray,List.map_cons,List.map_nil]);first | done | rfl | (simp only [List.length_drop,List.length_take];rfl)) ?_;(refine (sl_Clone_int.calls _ _ (rd_L3 l0_5 t179) t181 _ ?side1 ?side2 A6.out).mono ?_);(case side1=>exact kC HR180_0.out HB.out);(case side2=>exact HC180_0.out);rintro e w36 ⟨v182,rfl,ho0,hb⟩;refine ⟨_,rfl,?_⟩;have HO183:=am (Kd.R_lower ho0 (below_size (HB.out)));replace BK178:=(kmv hb BK178);replace HB:=am (below_step (HB.out) hb);(try clear hb);(try clear hb2);(try clear hk);(try clear hi);(try clear ho0);obtain ⟨Ao37,co37,eo37⟩:=Kd.R_slice HO183.out;subst eo37) | ((with_reducible refine gate_callee (f:=110) rfl ?_);refine goesL_ (some 62) rfl rfl Tryz.func110 (by kernel_rfl) rfl #[.slice Ao37 t181.length co37] rfl (by (try simp only [List.map_toArray,List.map_cons,List.map_nil]);first | done | rfl | (simp only [List.length_drop,List.length_take];rfl)) ?_;(refine (ca_sum.calls k _ _ t181 t191 _ ?side1 ?side2 A31.out).mono ?_);(case side1=>repeat (first | exact (Kd.R_reads' HO183.out).2.2 | (with_reducible refine Kd.C_alloc ?_ _) | (with_reducible refine Kd.C_drewN ?_ _) | (with_reducible refine Kd.C_drew ?_)));(case side2=>exact (Kd.R_reads' HO183.out).2.1);rintro e w' ⟨rfl,⟨nd,rfl⟩⟩;refine ⟨_,rfl,?_⟩))
  go_ret2
  exact ⟨_,by first | rfl | (simp [*]<;>rfl),by (with_reducible repeat (first | apply Kd.R_alloc | apply Kd.R_drewN | apply Kd.R_drew));exact HO183.out,pw_below_drewN HB.out _⟩
 rw [if_pos c7] at H
 have c7b0 : decide (t179 < 40) = true:=decide_eq_true c7
 clear c7
 replace H:=obm H
 obtain ⟨t184,A80,H⟩:=H
 replace H : (if 0≤(wrap64 (t179 + 1)) then (if (wrap64 (t179 + 1)) < (l0_5.length : Int) then (gf_shares.l0 k a1 t181 (wrap64 (a1 - t184)) (rd_L3 l0_5 (wrap64 (t179 + 1))) ((rd_L3 l0_5 (wrap64 (t179 + 1))).length : Int) 0) else (none)) else (none)) = some (r1,r2):=H
 have A8:=am A80
 clear A80
 obtain ⟨ji9,hji9⟩ : ∃ j_ : Int,(wrap64 (t179 + 1)) = j_:=⟨_,rfl⟩
 replace H : (if 0≤(ji9) then (if (ji9) < (l0_5.length : Int) then (gf_shares.l0 k a1 t181 (wrap64 (a1 - t184)) (rd_L3 l0_5 (ji9)) ((rd_L3 l0_5 (ji9)).length : Int) 0) else (none)) else (none)) = some (r1,r2):=by first | (rw [hji9] at H;exact H) | (simp only [hji9] at H ⊢;exact H)
 (try rw [hji9] at A3)
 (try rw [hji9] at A6)
 (try rw [hji9] at A8)
 have hji9w : (IntKind.i64.wrap (t179 + 1)) = ji9:=(i64_w _).trans hji9
 by_cases c10 : 0≤(ji9)
 case neg =>
  rw [if_neg c10] at H
  exact absurd H (by simp)
 rw [if_pos c10] at H
 have c10b0 : decide (0≤(ji9)) = true:=decide_eq_true c10
 clear c10
 by_cases c11 : (ji9) < (l0_5.length : Int)
 case neg =>
  rw [if_neg c11] at H
  exact absurd H (by simp)
 rw [if_pos c11] at H
 have c11b0 : decide ((ji9) < (l0_5.length : Int)) = true:=decide_eq_true c11
 clear c11
 replace H':=am H
 go_enter Tryz.func71,Tryz.ntmps71
 go_wp2_with (first | ((refine gate_dst (N:=2) rfl ?_);refine box_event rfl (N:=2) rfl (cs:=#[.slice A0_0 l0_0.length c0_0,.int .i64 a0_1,.slice A0_2 l0_2.length c0_2,.int .i64 a0_3,.int .i64 a0_4,.slice A0_5 l0_5.length c0_5]) (t:=110) ?hr ?_;(case hr=>go_simp;try rfl);intro gb178 hg w12 hbox hb;have BK178:=am (hbox);have GW178:=am (ge_new (HB.out) hg);have GE178:=am (ge_new (HB.out) hg);replace HB:=am (below_step (HB.out) hb);clear hb hbox hg;obtain ⟨hcz13_0,hcz13_1,hcz13_2,hcz13_3,hcz13_4,hcz13_5⟩:=cO6 BK178.out) | ((with_reducible refine gate_callee (f:=85) rfl ?_);refine goesL_ (some 14) rfl rfl Tryz.func85 (by kernel_rfl) rfl #[.agg #[.slice A0_0 l0_0.length c0_0,.int .i64 a0_1,.slice A0_2 l0_2.length c0_2,.int .i64 a0_3,.int .i64 a0_4,.slice A0_5 l0_5.length c0_5],.int .i64 a1] rfl (by (try simp only [List.map_toArray,List.map_cons,List.map_nil]);first | done | rfl | (simp only [List.length_drop,List.length_take];rfl)) ?_;(refine (gf_level.calls _ _ l0_0 a0_1 _ _ l0_2 a0_3 a0_4 _ _ l0_5 a1 t179 _ ?side1 ?side2 ?side3 ?side4 ?side5 ?side6 A3.out).mono ?_);(case side1=>exact kC HR0_0.out HB.out);(case side2=>exact HC0_0.out);(case side3=>exact kC HR0_2.out HB.out);(case side4=>exact HC0_2.out);(case side5=>exact kC HR0_5.out HB.out);(case side6=>exact HC0_5.out);rintro e w14 ⟨rfl,hb⟩;refine ⟨_,rfl,?_⟩;replace BK178:=(kmv hb BK178);replace HB:=am (below_step (HB.out) hb);(try clear hb);(try clear hb2);(try clear hk);(try clear hi);obtain ⟨hcz15_0,hcz15_1,hcz15_2,hcz15_3,hcz15_4,hcz15_5⟩:=cO6 BK178.out;have p180 : 0≤(t179 : Int):=of_decide_eq_true (by assumption);have q180 : t179 < (l0_5.length : Int):=of_decide_eq_true (by assumption);obtain ⟨ad180,A180_0,c180_0,e180,hx180_0,hl180_0,hi180_0⟩:=at_L3 HR0_5.out t179 p180 q180;cases e180;replace hx180_0:=(HB.out.cell (wbl hx180_0)).trans hx180_0;have HR180_0:=am hi180_0;have HC180_0:=am hl180_0;clear hi180_0 hl180_0;replace p180:=eq_true p180;replace q180:=eq_true q180) | ((with_reducible refine gate_callee (f:=108) rfl ?_);refine goesL_ (some 20) rfl rfl Tryz.func108 (by kernel_rfl) rfl #[.slice A180_0 (rd_L3 l0_5 t179).length c180_0] rfl (by (try simp only [List.map_toArray,List.map_cons,List.map_nil]);first | done | rfl | (simp only [List.length_drop,List.length_take];rfl)) ?_;(refine (sl_Clone_int.calls _ _ (rd_L3 l0_5 t179) t181 _ ?side1 ?side2 A6.out).mono ?_);(case side1=>exact kC HR180_0.out HB.out);(case side2=>exact HC180_0.out);rintro e w16 ⟨v182,rfl,ho0,hb⟩;refine ⟨_,rfl,?_⟩;have HO183:=am (Kd.R_lower ho0 (below_size (HB.out)));replace BK178:=(kmv hb BK178);replace HB:=am (below_step (HB.out) hb);(try clear hb);(try clear hb2);(try clear hk);(try clear hi);(try clear ho0);obtain ⟨hcz17_0,hcz17_1,hcz17_2,hcz17_3,hcz17_4,hcz17_5⟩:=cO6 BK178.out) | ((with_reducible refine gate_callee (f:=109) rfl ?_);refine goesL_ (some 26) rfl rfl Tryz.func109 (by kernel_rfl) rfl #[.agg #[.slice A0_0 l0_0.length c0_0,.int .i64 a0_1,.slice A0_2 l0_2.length c0_2,.int .i64 a0_3,.int .i64 a0_4,.slice (some ad180) l0_5.length c0_5],.int .i64 t179] rfl (by (try simp only [List.map_toArray,List.map_cons,List.map_nil]);first | done | rfl | (simp only [List.length_drop,List.length_take];rfl)) ?_;(refine (gf_out.calls _ _ l0_0 a0_1 _ _ l0_2 a0_3 a0_4 _ _ l0_5 t179 t184 _ ?side1 ?side2 ?side3 ?side4 ?side5 ?side6 A8.out).mono ?_);(case side1=>exact kC HR0_0.out HB.out);(case side2=>exact HC0_0.out);(case side3=>exact kC HR0_2.out HB.out);(case side4=>exact HC0_2.out);(case side5=>exact kC HR0_5.out HB.out);(case side6=>exact HC0_5.out);rintro e w18 ⟨rfl,hb⟩;refine ⟨_,rfl,?_⟩;replace HO183:=am (Kd.R_below HO183.out hb);replace BK178:=(kmv hb BK178);replace HB:=am (below_step (HB.out) hb);(try clear hb);(try clear hb2);(try clear hk);(try clear hi);obtain ⟨hcz19_0,hcz19_1,hcz19_2,hcz19_3,hcz19_4,hcz19_5⟩:=cO6 BK178.out;have p185 : 0≤((ji9) : Int):=of_decide_eq_true (by assumption);have q185 : (ji9) < (l0_5.length : Int):=of_decide_eq_true (by assumption);obtain ⟨ad185,A185_0,c185_0,e185,hx185_0,hl185_0,hi185_0⟩:=at_L3 HR0_5.out (ji9) p185 q185;obtain rfl : ad180 = ad185:=(by injection e185);replace hx185_0:=(HB.out.cell (wbl hx185_0)).trans hx185_0;have HR185_0:=am hi185_0;have HC185_0:=am hl185_0;clear hi185_0 hl185_0;replace p185:=eq_true p185;replace q185:=eq_true q185))
 go_loopg [8,35] k (fun kq v8 v35 w'=>∃ (x7_1 : List Int) (x8_1 : Int) (x35_1 : Int),v8 = .int .i64 x8_1∧v35 = .int .i64 x35_1∧Aside0 (gf_shares.l0 kq a1 x7_1 x8_1 (rd_L3 l0_5 (ji9)) ((rd_L3 l0_5 (ji9)).length : Int) x35_1 = some (r1,r2))∧Aside0 (kq≤k)∧Aside0 (Kd.R (Kd.int .i64) 3 w' w.heap.size (fun _=>True) v182 x7_1)∧Aside0 (w'.heap[gb178]? = some (.cells #[(.slice A0_0 l0_0.length c0_0),.int .i64 a0_1,(.slice A0_2 l0_2.length c0_2),.int .i64 a0_3,.int .i64 a0_4,(.slice (some ad180) l0_5.length c0_5)] 110 (0,0)))∧Aside0 (Below w.heap.size w w'))
 case atStart=>exact ⟨(t181),(wrap64 (a1 - t184)),(0),(by first | rfl | (simp;done) | (simp [*];done)),(by first | rfl | (simp;done) | (simp [*];done)),H',⟨Nat.le_refl _⟩,⟨by (with_reducible repeat (first | apply Kd.R_alloc | apply Kd.R_drewN | apply Kd.R_drew));exact HO183.out⟩,⟨BK178.out⟩,⟨HB.out⟩⟩
 case round =>
  clear H'
  obtain ⟨x7_1,x8_1,x35_1,rfl,rfl,HA,HK1,HO_7,BK178,HB⟩:=hrel
  cases gk with
  | zero=>exact absurd HA.out (by simp [gf_shares.l0])
  | succ k1 =>
   have H:=HA.out
   clear HA
   simp only [gf_shares.l0] at H
   by_cases c20 : x35_1 < ((rd_L3 l0_5 (ji9)).length : Int)
   case neg =>
    rw [if_neg c20] at H
    have c20b0 : decide (x35_1 < ((rd_L3 l0_5 (ji9)).length : Int)) = false:=decide_eq_false c20
    clear c20
    replace H:=obm H
    obtain ⟨t190,A290,H⟩:=H
    replace H : (some (x7_1,wrap64 (a1 - t190))) = some (r1,r2):=H
    have A29:=am A290
    clear A290
    simp only [Option.some.injEq,Prod.mk.injEq] at H
    obtain ⟨rfl,rfl⟩:=H
    obtain ⟨Ao30,co30,eo30⟩:=Kd.R_slice HO_7.out
    subst eo30
    go_wp2_with (first | ((with_reducible refine gate_callee (f:=110) rfl ?_);refine goesL_ (some 62) rfl rfl Tryz.func110 (by kernel_rfl) rfl #[.slice Ao30 x7_1.length co30] rfl (by (try simp only [List.map_toArray,List.map_cons,List.map_nil]);first | done | rfl | (simp only [List.length_drop,List.length_take];rfl)) ?_;(refine (ca_sum.calls k1 _ _ x7_1 t190 _ ?side1 ?side2 A29.out).mono ?_);(case side1=>repeat (first | exact (Kd.R_reads' HO_7.out).2.2 | (with_reducible refine Kd.C_alloc ?_ _) | (with_reducible refine Kd.C_drewN ?_ _) | (with_reducible refine Kd.C_drew ?_)));(case side2=>exact (Kd.R_reads' HO_7.out).2.1);rintro e w' ⟨rfl,⟨nd,rfl⟩⟩;refine ⟨_,rfl,?_⟩))
    go_ret2
    exact ⟨_,by first | rfl | (simp [errW_none,errW_some]<;>rfl) | (simp only [← hji9];first | rfl | (simp [errW_none,errW_some]<;>rfl)) | (simp [*,errW_none,errW_some]<;>rfl),by (with_reducible repeat (first | apply Kd.R_alloc | apply Kd.R_drewN | apply Kd.R_drew));exact HO_7.out,pw_below_drewN HB.out _⟩
   rw [if_pos c20] at H
   have c20b0 : decide (x35_1 < ((rd_L3 l0_5 (ji9)).length : Int)) = true:=decide_eq_true c20
   clear c20
   by_cases c21 : 0≤x35_1
   case neg =>
    rw [if_neg c21] at H
    exact absurd H (by simp)
   rw [if_pos c21] at H
   have c21b0 : decide (0≤x35_1) = true:=decide_eq_true c21
   clear c21
   by_cases c22 : x35_1 < ((rd_L3 l0_5 (ji9)).length : Int)
   case neg =>
    rw [if_neg c22] at H
    exact absurd H (by simp)
   rw [if_pos c22] at H
   have c22b0 : decide (x35_1 < ((rd_L3 l0_5 (ji9)).length : Int)) = true:=decide_eq_true c22
   clear c22
   by_cases c23 : x35_1 < (x7_1.length : Int)
   case neg =>
    rw [if_neg c23] at H
    exact absurd H (by simp)
   rw [if_pos c23] at H
   have c23b0 : decide (x35_1 < (x7_1.length : Int)) = true:=decide_eq_true c23
   clear c23
   obtain ⟨ji24,hji24⟩ : ∃ j_ : Int,(mn x8_1 (wrap64 ((rd (rd_L3 l0_5 (ji9)) x35_1) - (rd x7_1 x35_1)))) = j_:=⟨_,rfl⟩
   replace H : (gf_shares.l0 k1 a1 (x7_1.set (x35_1 : Int).toNat (wrap64 ((rd x7_1 x35_1) + (ji24)))) (wrap64 (x8_1 - (ji24))) (rd_L3 l0_5 (ji9)) ((rd_L3 l0_5 (ji9)).length : Int) (wrap64 (x35_1 + 1))) = some (r1,r2):=by first | (rw [hji24] at H;exact H) | (simp only [hji24] at H ⊢;exact H)
   have hji24_ : (if (wrap64 ((rd (rd_L3 l0_5 (ji9)) x35_1) - (rd x7_1 x35_1))) < x8_1 then (wrap64 ((rd (rd_L3 l0_5 (ji9)) x35_1) - (rd x7_1 x35_1))) else x8_1) = ji24:=hji24
   obtain ⟨y189,hy189⟩ : ∃ y_ : List Int,y_ = (x7_1.set (x35_1 : Int).toNat (wrap64 ((rd x7_1 x35_1) + (ji24)))):=⟨_,rfl⟩
   replace H : (gf_shares.l0 k1 a1 y189 (wrap64 (x8_1 - (ji24))) (rd_L3 l0_5 (ji9)) ((rd_L3 l0_5 (ji9)).length : Int) (wrap64 (x35_1 + 1))) = some (r1,r2):=by first | (rw [hy189];with_reducible exact H) | (have H2_:=(Option.bind_some _ _).symm.trans H;rw [hy189];with_reducible exact H2_) | (have H2_:=(Option.bind_some _ _).symm.trans H;with_reducible exact H2_) | with_reducible exact H | (rw [hy189];exact H) | exact H
   have Ny189:=am hy189
   clear hy189
   replace H':=am H
   have p186 : 0≤(x35_1 : Int):=of_decide_eq_true (by assumption)
   have q186 : x35_1 < ((rd_L3 l0_5 (ji9)).length : Int):=of_decide_eq_true (by assumption)
   obtain ⟨ad186,e186,hx186_0⟩:=Kd.at_int HR185_0.out x35_1 p186 q186
   cases e186
   replace hx186_0:=(HB.out.cell (wbl hx186_0)).trans hx186_0
   replace p186:=eq_true p186
   replace q186:=eq_true q186
   obtain ⟨Ao26,co26,eo26⟩:=Kd.R_slice HO_7.out
   subst eo26
   have p187 : 0≤(x35_1 : Int):=of_decide_eq_true (by assumption)
   have q187 : x35_1 < (x7_1.length : Int):=of_decide_eq_true (by assumption)
   obtain ⟨ad187,e187,hx187_0⟩:=Kd.at_int (Kd.R_reads' HO_7.out).2.2 x35_1 p187 q187
   cases e187
   replace p187:=eq_true p187
   replace q187:=eq_true q187
   have p188 : 0≤(x35_1 : Int):=of_decide_eq_true (by assumption)
   have q188 : x35_1 < (x7_1.length : Int):=of_decide_eq_true (by assumption)
   obtain ⟨ad188,e188,hx188_0⟩:=Kd.at_int (Kd.R_reads' HO_7.out).2.2 x35_1 p188 q188
   obtain rfl : ad187 = ad188:=(by injection e188)
   replace p188:=eq_true p188
   replace q188:=eq_true q188
   have p25 : 0≤(x35_1 : Int):=of_decide_eq_true (by assumption)
   have q25 : (x35_1 : Int) < ((x7_1.length : Int) : Int):=of_decide_eq_true (by assumption)
   obtain ⟨go25,co25,eo25,gb25,gl25,cl25,HG25⟩:=Kd.R_form HO_7.out (by omega)
   (first | cases eo25 | (injection eo25 with ea_ en_ ec_;(first | subst ea_ | (injection ea_ with ea_;subst ea_));subst ec_;clear en_))
   have GB25:=am gb25
   have GG25:=am HG25
   clear gb25 gl25 HG25
   (first | simp only [add_plain] at hx187_0 | skip)
   (first | simp only [add_plain] at hx188_0 | skip)
   obtain ⟨hx25_0,hf25_0⟩:=Kd.R_celln 0 HO_7.out (x35_1 : Int) p25 q25
   replace p25:=eq_true p25
   replace q25:=eq_true q25
   have HP27:=Kd.R_putg HO_7.out (x35_1 : Int) (wrap64 ((rd x7_1 x35_1) + (ji24)))
   go_wp2_with (first | ((with_reducible refine gate_store (t:=3) (p:=54) rfl ?_);refine store_event (t:=3) (p:=54) (v:=?vo_w28) (w1:=(wr.setCell ⟨go25,(x35_1 : Int).toNat,none⟩ (.int .i64 (wrap64 ((rd x7_1 x35_1) + (ji24)))))) ?hg ?ho ?hn ?hr ?_;(case ho=>rfl);(case hg=>rfl);(case hn=>rfl);(case hr=>go_simp;try rfl);intro w28 hw;have hg : wr.grownBy w28 (some go25):=(by rw [hw];exact HP27.2);have hp_ : Kd.R (Kd.int .i64) 3 w28 w.heap.size (fun _=>True) (.slice (some ⟨go25,0,none⟩) x7_1.length co26) y189:=(by rw [hw,Ny189.out];exact HP27.1);clear HP27;have n0_:=am (hp_);have n1_:=am (blk_grown (g:=gb178) (o:=.cells #[.slice A0_0 l0_0.length c0_0,.int .i64 a0_1,.slice A0_2 l0_2.length c0_2,.int .i64 a0_3,.int .i64 a0_4,.slice (some ad180) l0_5.length c0_5] 110 (0,0)) BK178.out hg (Kd.R_ne HO_7.out BK178.out (by decide)));have n2_:=am ((by rw [hw];exact below_set (HB.out) GB25.out : Below w.heap.size w w28));clear HO_7;clear BK178;clear HB;have HO_7:=n0_;have BK178:=n1_;have HB:=n2_;clear n0_ n1_ n2_;clear hg hw hp_))
   go_roundg k1
   case measure=>have:=HK1.out;omega
   case rel=>exact ⟨(y189),(wrap64 (x8_1 - (ji24))),(wrap64 (x35_1 + 1)),(by first | rfl | (simp;done) | (simp only [← hji24]<;>(first | rfl | simp)) | (simp [*];done)),(by first | rfl | (simp;done) | (simp [*];done)),H',⟨by have:=HK1.out;omega⟩,⟨by (with_reducible repeat (first | apply Kd.R_alloc | apply Kd.R_drewN | apply Kd.R_drew));exact HO_7.out⟩,⟨BK178.out⟩,⟨HB.out⟩⟩
end
end Go.Proofs.YtnnmnhpeblhiiaaGreatDoor.C
namespace Go.Proofs.YtnnmnhpeblhiiaaGreatDoor.C
open Go.RowKit Go.Abs Go.Proofs.YtnnmnhpeblhiiaaGreatDoorW.PrintWords Go.Proofs.YtnnmnhpeblhiiaaGreatDoorW.PrintLast Go.Proofs.YtnnmnhpeblhiiaaGreatDoorW.PrintMore
set_option linter.unusedVariables false
set_option linter.unusedSimpArgs false
set_option maxHeartbeats 16000000
set_option maxRecDepth 100000
def decRows : List AV→Option (List S126)
 | []=>some []
 | .int .i64 a :: .int .i64 b :: .int .i64 c :: l=>(decRows l).map (⟨a,b,c⟩ :: ·)
 | _=>none
theorem decRows_eq : ∀ {cs : List AV} {xs : List S126} {e : Env} {vs : List Value},decRows cs = some xs→concL e cs = some vs→∀ (j : Nat) p,xs[j]? = some p→(vs.drop (j * 3)).take 3 = [.int .i64 p.f0,.int .i64 p.f1,.int .i64 p.f2]
 | [],_,e,vs,h,hv,j,p,hj=>by cases h;simp at hj
 | a :: l,xs,e,vs,h,hv,j,p,hj=>by
  unfold decRows at h
  split at h
  ·cases ‹_ :: _ = []›
  ·rename_i heq;cases heq
   simp only [Option.map_eq_some_iff] at h
   obtain ⟨ys,h1,rfl⟩:=h
   simp only [concL,conc,Option.bind_some,Option.map_eq_some_iff] at hv
   obtain ⟨_,⟨_,⟨zs,hz,rfl⟩,rfl⟩,rfl⟩:=hv
   cases j with
   | zero=>cases hj;rfl
   | succ j=>rw [show (j + 1) * 3 = j * 3 + 3 by omega];exact decRows_eq h1 hz j p (by simpa using hj)
  ·cases h
def decNoz : List AV→Option (List S48)
 | []=>some []
 | .int .i64 a :: .int .i64 b :: l=>(decNoz l).map (⟨a,b⟩ :: ·)
 | _=>none
theorem decNoz_eq : ∀ {cs : List AV} {xs : List S48} {e : Env} {vs : List Value},decNoz cs = some xs→concL e cs = some vs→∀ (j : Nat) p,xs[j]? = some p→(vs.drop (j * 2)).take 2 = [.int .i64 p.f0,.int .i64 p.f1]
 | [],_,e,vs,h,hv,j,p,hj=>by cases h;simp at hj
 | a :: l,xs,e,vs,h,hv,j,p,hj=>by
  unfold decNoz at h
  split at h
  ·cases ‹_ :: _ = []›
  ·rename_i heq;cases heq
   simp only [Option.map_eq_some_iff] at h
   obtain ⟨ys,h1,rfl⟩:=h
   simp only [concL,conc,Option.bind_some,Option.map_eq_some_iff] at hv
   obtain ⟨_,⟨zs,hz,rfl⟩,rfl⟩:=hv
   cases j with
   | zero=>cases hj;rfl
   | succ j=>rw [show (j + 1) * 2 = j * 2 + 2 by omega];exact decNoz_eq h1 hz j p (by simpa using hj)
  ·cases h
noncomputable def rdRows : St→AV→Option (List S126):=rdG 3 decRows
noncomputable def rdNoz : St→AV→Option (List S48):=rdG 2 decNoz
theorem rdRows_ok {e : Env} {s : St} {w : World} (hs : Sim e s w) {v : AV} {xs : List S126} {x : Value} (h : rdRows s v = some xs) (hx : conc e v = some x) : ∃ A c,x = .slice A xs.length c∧xs.length≤c∧Kd.C k126 w A xs.length xs:=
 rdG_ok (d:=k126) hs (by show 0 < 3;omega) (fun cs xs vs h1 h2 j p hj=>by
  show k126.K w p ((vs.drop (j * 3)).take 3)
  rw [decRows_eq h1 h2 j p hj];exact k126_mk w p) h hx
theorem rdNoz_ok {e : Env} {s : St} {w : World} (hs : Sim e s w) {v : AV} {xs : List S48} {x : Value} (h : rdNoz s v = some xs) (hx : conc e v = some x) : ∃ A c,x = .slice A xs.length c∧xs.length≤c∧Kd.C k48 w A xs.length xs:=
 rdG_ok (d:=k48) hs (by show 0 < 2;omega) (fun cs xs vs h1 h2 j p hj=>by
  show k48.K w p ((vs.drop (j * 2)).take 2)
  rw [decNoz_eq h1 h2 j p hj];exact k48_mk w p) h hx
noncomputable def fillG (args : List AV) (s : St) : Option (Rt × St):=
 match args with
 | [.agg [t,.int .i64 d,z,.int .i64 wr,.int .i64 sp]]=>(rdRows s t).bind fun rs=>(rdNoz s z).bind fun zs=>(ca_fill.f 400 rs d zs wr sp).bind fun r =>
  if r.2.2.2.all (fun l=>!l.isEmpty) && !r.2.2.2.isEmpty then
   some (.ret (.agg [t,.int .i64 r.1,z,.int .i64 r.2.1,.int .i64 r.2.2.1,.opn (s.next + r.2.2.2.length) r.2.2.2.length]),(addInts 3 r.2.2.2 s).2.add (.ro 28 (some 1) (addInts 3 r.2.2.2 s).1))
  else none
 | _=>none
noncomputable def levelG (args : List AV) (s : St) : Option (Rt × St):=
 match args with
 | [.agg [t,.int .i64 d,z,.int .i64 wr,.int .i64 sp,g],.int .i64 c]=>(rdRows s t).bind fun rs=>(rdNoz s z).bind fun zs=>(rdLists s g).bind fun gs=>(gf_level.f rs d zs wr sp gs c).bind fun r=>some (.ret (.int .i64 r),s)
 | _=>none
noncomputable def sharesG (args : List AV) (s : St) : Option (Rt × St):=
 match args with
 | [.agg [t,.int .i64 d,z,.int .i64 wr,.int .i64 sp,g],.int .i64 c]=>(rdRows s t).bind fun rs=>(rdNoz s z).bind fun zs=>(rdLists s g).bind fun gs=>(gf_shares.f 400 rs d zs wr sp gs c).bind fun r =>
  if r.1.isEmpty then none else some (.ret (.tup [.opn s.next r.1.length,.int .i64 r.2]),s.add (.cells 3 (some 1) (r.1.map (.int .i64))))
 | _=>none
noncomputable def castleHook : Hook:=fun f=>if Nat.beq f 69 then some fillG else if Nat.beq f 85 then some levelG else if Nat.beq f 71 then some sharesG else none
theorem fillG_ok {args : List AV} {s : St} {r : Rt} {s' : St} (h : fillG args s = some (r,s')) {e : Env} {w : World} (hs : Sim e s w) (hf : Free e s.next s'.next) {xs : List Value} (hxs : concL e args = some xs) (c : Frame) (cs : List Frame) :
 ∃ e' w',Sim e' s' w'∧Goes e s w e' s' w'∧EndsAt Tryz.prog (lone (Frame.enter Tryz.prog 69 xs.toArray .normal) (c :: cs) w) c cs e' r w':=by
 unfold fillG at h
 split at h
 case h_2=>cases h
 rename_i t d z wr sp
 simp only [Option.bind_eq_some_iff] at h
 obtain ⟨rs,hrs,zs,hzs,⟨r1,r2,r3,r4⟩,hr,h⟩:=h
 split at h
 case isFalse=>cases h
 rename_i hne
 simp only [Bool.and_eq_true,Bool.not_eq_true',List.all_eq_true,List.isEmpty_eq_false_iff] at hne
 obtain ⟨hne1,hne2⟩:=hne
 cases h
 simp only [concL,conc,Option.bind_eq_some_iff,Option.map_eq_some_iff,Option.some.injEq] at hxs
 obtain ⟨_,⟨_,⟨xt,hxt,_,⟨_,rfl,_,⟨xz,hxz,_,⟨_,rfl,_,⟨_,rfl,_,rfl,rfl⟩,rfl⟩,rfl⟩,rfl⟩,rfl⟩,rfl⟩,_,rfl,rfl⟩:=hxs
 obtain ⟨A0,c0,rfl,hc0,hC0⟩:=rdRows_ok hs hrs hxt
 obtain ⟨A2,c2,rfl,hc2,hC2⟩:=rdNoz_ok hs hzs hxz
 obtain ⟨en,w',⟨v3,rfl,hS,hB⟩,hst⟩:=endsC (ca_fill.calls 400 A0 c0 rs d A2 c2 zs wr sp r1 r2 r3 r4 w hC0 hc0 hC2 hc2 hr) c cs
 obtain ⟨hg1,hg2⟩:=grow hs hB
 obtain ⟨_,inner,ho,hrep⟩:=Kd.S_R hS
 obtain ⟨ho1,ho2⟩:=ho
 rcases ho2 with ⟨_,ho2⟩ | ⟨g,cap,cur,rfl,o1,o2,o3,o4,o5,o6⟩
 ·exact absurd (List.length_eq_zero_iff.1 ho2) hne2
 have hsz : (Kd.slice 3 (Kd.int .i64)).sz = 1:=rfl
 rw [hsz] at ho1 o5 o6
 have hfree : Free e s.next (s.next + r4.length + 1):=fun n a b=>hf n a (by simp only [St.add,addInts_next];exact b)
 obtain ⟨e1,p1,p2,p3,p4,p5,p6⟩:=addInts_ok (t:=3) (ok:=fun k=>True∧some k ≠ (Value.slice (some ⟨g,0,none⟩) r4.length cap).ownBlock) (l:=r4) (vs:=inner) hg2 hg1 (fun n x b q hx hr he=>rwBelow hs n x b q hx hr he) (fun n a b=>hfree n a (Nat.lt_succ_of_lt b)) (by rw [ho1];omega)
  (fun j ys hj=>by
   obtain ⟨v,hv1,hv2⟩:=hrep.2 j ys hj
   refine ⟨hne1 ys (List.mem_of_getElem? hj),v,?_,hv2⟩
   have : ((inner.drop (j * 1)).take 1)[0]? = some v:=by rw [show (inner.drop (j * 1)).take 1 = [v] from hv1];rfl
   rw [List.getElem?_take,if_pos (by omega),List.getElem?_drop] at this
   simpa using this)
 have hn1 : (addInts 3 r4 s).2.next = s.next + r4.length:=addInts_next ..
 have hfr1 : e1 (addInts 3 r4 s).2.next = none:=by
  rw [hn1];exact p6 _ (Nat.le_refl _) (hfree _ (by omega) (by omega))
 have hob : w'.heap[g]? = some (.cells (inner ++ cur.toList.drop (r4.length * 1)).toArray 28 (0,0)):=by
  rw [o2,← o6,List.take_append_drop]
 obtain ⟨q1,q2,_⟩:=addAt (q:=cap) (blk:=.ro 28 (some 1) (addInts 3 r4 s).1) p1 p2 p3 hfr1 o1 (Array.getElem?_eq_some_iff.1 o2).1 (.inl fun z=>z) hob
  ⟨_,_,concL_le (Env.le_upd _ hfr1) _ _ p5,rfl,fun m hm=>by cases hm;rw [← o6,List.take_append_drop,Array.length_toList];exact o5⟩
 refine ⟨_,w',q1,q2,?_⟩
 have hle:=p4.trans (Env.le_upd (g,cap) hfr1)
 have hup : (e1.upd (addInts 3 r4 s).2.next (g,cap)) (s.next + r4.length) = some (g,cap):=by rw [← hn1];exact Env.upd_self ..
 refine ⟨_,?_,hst _ rfl⟩
 simp only [conc,concL,conc_le hle _ _ hxt,conc_le hle _ _ hxz,hup,Option.map_some,Option.bind_some]
theorem levelG_ok {args : List AV} {s : St} {r : Rt} {s' : St} (h : levelG args s = some (r,s')) {e : Env} {w : World} (hs : Sim e s w) (hf : Free e s.next s'.next) {xs : List Value} (hxs : concL e args = some xs) (c : Frame) (cs : List Frame) :
 ∃ e' w',Sim e' s' w'∧Goes e s w e' s' w'∧EndsAt Tryz.prog (lone (Frame.enter Tryz.prog 85 xs.toArray .normal) (c :: cs) w) c cs e' r w':=by
 unfold levelG at h
 split at h
 case h_2=>cases h
 rename_i t d z wr sp gv cc
 simp only [Option.bind_eq_some_iff] at h
 obtain ⟨rs,hrs,zs,hzs,gs,hgs,rr,hr,h⟩:=h
 cases h
 simp only [concL,conc,Option.bind_eq_some_iff,Option.map_eq_some_iff,Option.some.injEq] at hxs
 obtain ⟨_,⟨_,⟨xt,hxt,_,⟨_,rfl,_,⟨xz,hxz,_,⟨_,rfl,_,⟨_,rfl,_,⟨xg,hxg,_,rfl,rfl⟩,rfl⟩,rfl⟩,rfl⟩,rfl⟩,rfl⟩,rfl⟩,_,⟨_,rfl,_,rfl,rfl⟩,rfl⟩:=hxs
 obtain ⟨A0,c0,rfl,hc0,hC0⟩:=rdRows_ok hs hrs hxt
 obtain ⟨A2,c2,rfl,hc2,hC2⟩:=rdNoz_ok hs hzs hxz
 obtain ⟨A5,c5,rfl,hc5,hC5⟩:=rdLists_ok hs hgs hxg
 obtain ⟨en,w',⟨rfl,hB⟩,hst⟩:=endsC (gf_level.calls A0 c0 rs d A2 c2 zs wr sp A5 c5 gs cc rr w hC0 hc0 hC2 hc2 hC5 hc5 hr) c cs
 obtain ⟨hg1,hg2⟩:=grow hs hB
 exact ⟨e,w',hg1,hg2,_,rfl,hst _ rfl⟩
theorem sharesG_ok {args : List AV} {s : St} {r : Rt} {s' : St} (h : sharesG args s = some (r,s')) {e : Env} {w : World} (hs : Sim e s w) (hf : Free e s.next s'.next) {xs : List Value} (hxs : concL e args = some xs) (c : Frame) (cs : List Frame) :
 ∃ e' w',Sim e' s' w'∧Goes e s w e' s' w'∧EndsAt Tryz.prog (lone (Frame.enter Tryz.prog 71 xs.toArray .normal) (c :: cs) w) c cs e' r w':=by
 unfold sharesG at h
 split at h
 case h_2=>cases h
 rename_i t d z wr sp gv cc
 simp only [Option.bind_eq_some_iff] at h
 obtain ⟨rs,hrs,zs,hzs,gs,hgs,⟨r1,r2⟩,hr,h⟩:=h
 split at h
 case isTrue=>cases h
 rename_i hne
 have hne : r1 ≠ []:=fun e0=>hne (by simp only [e0,List.isEmpty_nil])
 cases h
 simp only [concL,conc,Option.bind_eq_some_iff,Option.map_eq_some_iff,Option.some.injEq] at hxs
 obtain ⟨_,⟨_,⟨xt,hxt,_,⟨_,rfl,_,⟨xz,hxz,_,⟨_,rfl,_,⟨_,rfl,_,⟨xg,hxg,_,rfl,rfl⟩,rfl⟩,rfl⟩,rfl⟩,rfl⟩,rfl⟩,rfl⟩,_,⟨_,rfl,_,rfl,rfl⟩,rfl⟩:=hxs
 obtain ⟨A0,c0,rfl,hc0,hC0⟩:=rdRows_ok hs hrs hxt
 obtain ⟨A2,c2,rfl,hc2,hC2⟩:=rdNoz_ok hs hzs hxz
 obtain ⟨A5,c5,rfl,hc5,hC5⟩:=rdLists_ok hs hgs hxg
 obtain ⟨en,w',⟨v0,rfl,hR,hB⟩,hst⟩:=endsC (gf_shares.calls 400 A0 c0 rs d A2 c2 zs wr sp A5 c5 gs cc r1 r2 w hC0 hc0 hC2 hc2 hC5 hc5 hr) c cs
 obtain ⟨hg1,hg2⟩:=grow hs hB
 obtain ⟨g,cap,rest,rfl,h1,h2,h3,h4⟩:=row_of (d:=Kd.int .i64) (n:=0) hR hne
 have hfree : e s.next = none:=hf _ (Nat.le_refl _) (by simp only [St.add];omega)
 obtain ⟨q1,q2,_⟩:=addAt (q:=cap) (blk:=.cells 3 (some 1) (r1.map (.int .i64))) hg2 hg1 (fun n x b q hx hr he=>rwBelow hs n x b q hx hr he) hfree h1 h2
  (.inr fun n x q _ he=>absurd (hs.bound n g q he) (by omega)) h3 ⟨_,rest,concL_ints _ r1,rfl,h4⟩
 refine ⟨_,w',q1,q2,_,?_,hst _ rfl⟩
 simp only [conc,concL,Env.upd_self,Option.map_some,Option.bind_some]
theorem castleHook_ok : HookOk Tryz.prog castleHook:=by
 intro f g hg args s r s' h e w hs hf xs hxs c cs
 unfold castleHook at hg
 split at hg
 ·rename_i hb;cases hg;cases Nat.eq_of_beq_eq_true hb;exact fillG_ok h hs hf hxs c cs
 ·split at hg
  ·rename_i hb;cases hg;cases Nat.eq_of_beq_eq_true hb;exact levelG_ok h hs hf hxs c cs
  ·split at hg
   ·rename_i hb;cases hg;cases Nat.eq_of_beq_eq_true hb;exact sharesG_ok h hs hf hxs c cs
   ·cases hg
end Go.Proofs.YtnnmnhpeblhiiaaGreatDoor.C
namespace Go.Proofs.YtnnmnhpeblhiiaaGreatDoor.C
open Go Go.Abs Go.RowKit
set_option linter.unusedVariables false
set_option linter.unusedSimpArgs false
set_option maxHeartbeats 16000000
set_option maxRecDepth 100000
abbrev I (n : Int) : AV:=.int .i64 n
abbrev U : AV:=.tup []
abbrev L {α : Type} : T4 α:=.leaf
abbrev N {α : Type} (v : α) (a b c d : T4 α) : T4 α:=.node v a b c d
abbrev N0 {α : Type} (v : α) : T4 α:=.node v .leaf .leaf .leaf .leaf
abbrev N1 {α : Type} (v : α) (a : T4 α) : T4 α:=.node v a .leaf .leaf .leaf
abbrev N2 {α : Type} (v : α) (a : T4 α) : T4 α:=.node v .leaf a .leaf .leaf
abbrev N3 {α : Type} (v : α) (a : T4 α) : T4 α:=.node v .leaf .leaf a .leaf
abbrev N4 {α : Type} (v : α) (a : T4 α) : T4 α:=.node v .leaf .leaf .leaf a
noncomputable def knownCall : CallF:=fCall Tryz.prog Go.Proofs.YtnnmnhpeblhiiaaGreatDoor.C.castleHook 100000 60
noncomputable def kt0 : FT:=ofL []
noncomputable def kg0 : Sg:=sgOf ⟨.leaf,0,[]⟩
noncomputable def kt1 : FT:=(N U (N U L (N (.ptr 318 0) (N0 (I 0)) L L L) (N (.ptr 175 0) (N0 (I 0)) L L L) (N0 (.opn 36 3))) (N U (N0 (I 1)) (N1 U (N0 (I 0))) (N (I 3) (N0 (.bool false)) L L L) L) (N U (N (.opn 710 3) (N0 (I 0)) L L L) (N (.ptr 244 0) (N0 (I 0)) L L L) (N0 (.opn 114 3)) L) (N U (N (.opn 424 3) (N0 (I 0)) L L L) (N (.opn 243 3) (N0 (I 0)) L L L) (N0 (I 10)) L))
noncomputable def kg1 : Sg:=sgOf ⟨(N none (N none (N3 none (N1 none (N0 (some (.cells 126 none [(I 5),(I 4),(I 10),(I 10),(I 8),(I 20),(I 20),(I 15),(I 45)]))))) L (N none L (N2 none (N1 none (N0 (some (.cells 3 none [(I 8),(I 12),(I 12)]))))) (N0 (some (.cells 48 none [(I 0),(I 10),(I 1),(I 10),(I 2),(I 12)]))) L) (N3 none (N4 none (N0 (some (.cells 126 none [(I 5),(I 4),(I 10),(I 10),(I 8),(I 20),(I 20),(I 15),(I 45)])))))) (N (some (.cells 126 none [(I 5),(I 4),(I 10),(I 10),(I 8),(I 20),(I 20),(I 15),(I 45)])) (N none L L (N1 none (N0 (some (.cells 48 none [(I 0),(I 10),(I 1),(I 10),(I 2),(I 12)])))) (N2 none (N2 none (N0 (some (.cells 3 (some 1) [(I 10),(I 11),(I 12)])))))) L (N3 none (N4 none (N0 (some (.cells 54 none [(I 27),(I 56)]))))) (N none L (N none (N0 (some (.cells 3 (some 1) [(I 10),(I 20),(I 45)]))) (N0 (some (.cells 126 none [(I 5),(I 4),(I 10),(I 10),(I 8),(I 20),(I 20),(I 15),(I 45)]))) L L) (N4 none (N0 (some (.cells 48 none [(I 0),(I 10),(I 1),(I 10),(I 2),(I 12)])))) L)) (N (some (.cells 48 none [(I 0),(I 10),(I 1),(I 10),(I 2),(I 12)])) (N3 none (N3 none (N0 (some (.cells 126 none [(I 5),(I 4),(I 10),(I 10),(I 8),(I 20),(I 20),(I 15),(I 45)]))))) (N2 none (N2 none (N1 none (N0 (some (.cells 126 none [(I 5),(I 4),(I 10),(I 10),(I 8),(I 20),(I 20),(I 15),(I 45)])))))) (N2 none (N2 none (N0 (some (.cells 54 none [(I 13),(I 15)]))))) (N2 none (N none L (N0 (some (.cells 48 none [(I 0),(I 10),(I 1),(I 10),(I 2),(I 12)]))) (N0 (some (.cells 54 (some 2) [(I 8),(I 10),(I 13),(I 20),(I 9),(I 30)]))) L))) (N none (N none L (N2 none (N1 none (N0 (some (.cells 3 (some 1) [(I (-4)),(I (-5)),(I 9)]))))) (N3 none (N0 (some (.cells 48 none [(I 0),(I 10),(I 1),(I 10),(I 2),(I 12)])))) L) (N none L (N2 none (N1 none (N0 (some (.cells 48 none [(I 0),(I 10),(I 1),(I 10),(I 2),(I 12)]))))) (N0 (some (.cells 126 none [(I 5),(I 4),(I 10),(I 10),(I 8),(I 20),(I 20),(I 15),(I 45)]))) L) L (N none (N0 (some (.ro 3 (some 1) [(I 10),(I 20),(I 45)]))) (N3 none (N0 (some (.cells 54 none [(I 0),(I 0)])))) L L))),758,[710,429,428,427,424,322,321,318,318,248,247,244,244,243,179,178,175,175,118,117,114,61,60,36,3,2]⟩
noncomputable def kt2 : FT:=(N U (N U (N0 (.opn 5340 2)) (N (.ptr 318 0) (N0 (I 0)) L L L) (N (.ptr 175 0) (N0 (I 0)) L L L) (N0 (.opn 36 3))) (N U (N (I 1) (N0 (I 0)) L L L) (N1 U (N0 (I 0))) (N (I 3) (N0 (.bool false)) L L L) L) (N U (N (.opn 710 3) (N0 (I 0)) L L L) (N (.ptr 244 0) (N0 (I 0)) L L L) (N0 (.opn 114 3)) L) (N U (N (.opn 424 3) (N0 (I 0)) L L L) (N (.opn 243 3) (N0 (I 0)) L L L) (N0 (I 10)) L))
noncomputable def kg2 : Sg:=sgOf ⟨(N none (N none (N3 none (N1 none (N0 (some (.cells 126 none [(I 5),(I 4),(I 10),(I 10),(I 8),(I 20),(I 20),(I 15),(I 45)]))))) (N3 none (N3 none (N2 none (N0 (some (.cells 48 none [(I 0),(I 10),(I 1),(I 10),(I 2),(I 12)])))))) (N none L (N2 none (N1 none (N0 (some (.cells 3 none [(I 8),(I 12),(I 12)]))))) (N0 (some (.cells 48 none [(I 0),(I 10),(I 1),(I 10),(I 2),(I 12)]))) L) (N3 none (N4 none (N0 (some (.cells 126 none [(I 5),(I 4),(I 10),(I 10),(I 8),(I 20),(I 20),(I 15),(I 45)])))))) (N (some (.cells 126 none [(I 5),(I 4),(I 10),(I 10),(I 8),(I 20),(I 20),(I 15),(I 45)])) (N none L L (N1 none (N0 (some (.cells 48 none [(I 0),(I 10),(I 1),(I 10),(I 2),(I 12)])))) (N2 none (N2 none (N0 (some (.cells 3 (some 1) [(I 10),(I 11),(I 12)])))))) (N3 none (N3 none (N2 none (N0 (some (.cells 54 none [(I 4),(I 4),(I 8),(I 8),(I 18),(I 18)])))))) (N3 none (N4 none (N0 (some (.cells 54 none [(I 27),(I 56)]))))) (N none L (N none (N0 (some (.cells 3 (some 1) [(I 10),(I 20),(I 45)]))) (N0 (some (.cells 126 none [(I 5),(I 4),(I 10),(I 10),(I 8),(I 20),(I 20),(I 15),(I 45)]))) L L) (N4 none (N0 (some (.cells 48 none [(I 0),(I 10),(I 1),(I 10),(I 2),(I 12)])))) L)) (N (some (.cells 48 none [(I 0),(I 10),(I 1),(I 10),(I 2),(I 12)])) (N3 none (N3 none (N0 (some (.cells 126 none [(I 5),(I 4),(I 10),(I 10),(I 8),(I 20),(I 20),(I 15),(I 45)]))))) (N2 none (N2 none (N1 none (N0 (some (.cells 126 none [(I 5),(I 4),(I 10),(I 10),(I 8),(I 20),(I 20),(I 15),(I 45)])))))) (N2 none (N2 none (N0 (some (.cells 54 none [(I 13),(I 15)]))))) (N2 none (N none L (N0 (some (.cells 48 none [(I 0),(I 10),(I 1),(I 10),(I 2),(I 12)]))) (N0 (some (.cells 54 (some 2) [(I 8),(I 10),(I 13),(I 20),(I 9),(I 30)]))) L))) (N none (N none L (N2 none (N1 none (N0 (some (.cells 3 (some 1) [(I (-4)),(I (-5)),(I 9)]))))) (N3 none (N (some (.cells 48 none [(I 0),(I 10),(I 1),(I 10),(I 2),(I 12)])) L (N0 (some (.cells 126 none [(I 5),(I 4),(I 10),(I 10),(I 8),(I 20),(I 20),(I 15),(I 45)]))) L L)) L) (N none (N3 none (N4 none (N4 none (N0 (some (.cells 44 (some 2) [(I 2),(I 9),(I 2),(I 10)])))))) (N2 none (N1 none (N0 (some (.cells 48 none [(I 0),(I 10),(I 1),(I 10),(I 2),(I 12)]))))) (N0 (some (.cells 126 none [(I 5),(I 4),(I 10),(I 10),(I 8),(I 20),(I 20),(I 15),(I 45)]))) L) L (N none (N0 (some (.ro 3 (some 1) [(I 10),(I 20),(I 45)]))) (N3 none (N0 (some (.cells 54 none [(I 0),(I 0)])))) L L))),6791,[5340,762,761,760,710,429,428,427,424,322,321,318,318,248,247,244,244,243,179,178,175,175,118,117,114,61,60,36,3,2]⟩
theorem ks0 : ((kcOf Tryz.prog 19).drop 0).seqs 8 = true:=by kernel_rfl
theorem kr0 (kx : KX) (k : KT) : warm 1 (runKX 100000 (((kcOf Tryz.prog 19).drop 0).take 8) ⟨Tryz.prog,knownCall,kx⟩ kt0 kg0 k) = k kt1 kg1:=by kernel_rfl
theorem ks1 : ((kcOf Tryz.prog 19).drop 8).seqs 1 = true:=by kernel_rfl
theorem kr1 (kx : KX) (k : KT) : warm 12 (runKX 99992 (((kcOf Tryz.prog 19).drop 8).take 1) ⟨Tryz.prog,knownCall,kx⟩ kt1 kg1 k) = k kt2 kg2:=by kernel_rfl
theorem klast : okTrue (warm 107 (from_ Tryz.prog knownCall 19 9 99991 kt2 kg2)) = true:=by kernel_rfl
theorem known_run : okTrue (runF Tryz.prog Go.Proofs.YtnnmnhpeblhiiaaGreatDoor.C.castleHook 100000 60 19 []) = true:=by
 rw [runF_from]
 rw [show from_ Tryz.prog (fCall Tryz.prog Go.Proofs.YtnnmnhpeblhiiaaGreatDoor.C.castleHook 100000 60) 19 0 100000 (ofL []) (sgOf ⟨.leaf,0,[]⟩) = from_ Tryz.prog knownCall 19 0 100000 kt0 kg0 from rfl]
 rw [show from_ Tryz.prog knownCall 19 0 100000 kt0 kg0 = from_ Tryz.prog knownCall 19 8 99992 kt1 kg1 from from_step (K:=99991) (m:=8) ks0 fun kx k=>(warm_eq 1 _).symm.trans (kr0 kx k)]
 rw [show from_ Tryz.prog knownCall 19 8 99992 kt1 kg1 = from_ Tryz.prog knownCall 19 9 99991 kt2 kg2 from from_step (K:=99990) (m:=1) ks1 fun kx k=>(warm_eq 12 _).symm.trans (kr1 kx k)]
 exact (congrArg okTrue (warm_eq 107 _)).symm.trans klast
end Go.Proofs.YtnnmnhpeblhiiaaGreatDoor.C
namespace Go.Proofs.YtnnmnhpeblhiiaaGreatDoor.C
open Go Go.RowKit Go.Abs
set_option linter.unusedVariables false
set_option linter.unusedSimpArgs false
set_option maxHeartbeats 16000000
set_option maxRecDepth 100000
def l4_known.f : Option Bool:=some true
theorem l4_known.calls (r : Bool) (w : World) (h : l4_known.f = some r) : Calls Tryz.prog 19 #[] w fun e w'=>e = .returned (.bool r)∧Below w.heap.size w w':=by
 cases h
 exact calls_true castleHook_ok known_run w
theorem known_true : l4_known.f = some true:=rfl
end Go.Proofs.YtnnmnhpeblhiiaaGreatDoor.C
namespace Go.Proofs.YtnnmnhpeblhiiaaGreatDoor.C
open Go.RowKit Go.Proofs.YtnnmnhpeblhiiaaGreatDoorW.PrintWords Go.Proofs.YtnnmnhpeblhiiaaGreatDoorW.PrintLast Go.Proofs.YtnnmnhpeblhiiaaGreatDoorW.PrintMore
set_option linter.unusedVariables false
set_option linter.unusedSimpArgs false
set_option maxHeartbeats 16000000
set_option maxRecDepth 100000
section
attribute [local go_sem] max2_int min2_int max_two min_two
mutual
def l4_CastleReads.j0 : Nat→ByteArray→Bool→List (S126)→Int→Option (Bool)
 | 0,_,_,_,_=>none
 | k + 1,x1,x20,x1034000,x1034001=>if x20 = true then ((l4_known.f).bind fun t1034=>(some t1034)) else ((ca_ReadP.f x1034000 x1034001 x1).bind fun bt1035=>((q4_Read.f k x1034000 x1034001 x1).bind fun bt1046=>(if (x1.size : Int) > 200 then (l4_CastleReads.j1 k x1 bt1035.2.2.2.2.2 3 bt1035.1 bt1035.2.1 bt1035.2.2.1 bt1035.2.2.2.1 bt1035.2.2.2.2.1 bt1046.1 bt1046.2.1 bt1046.2.2.1 bt1046.2.2.2.1 bt1046.2.2.2.2.1) else (if bt1046.2.2.2.2.2 = true then ((q4_Basin.f k bt1046.1 bt1046.2.1 bt1046.2.2.1 bt1046.2.2.2.1 bt1046.2.2.2.2.1).bind fun t1057=>(if t1057 = true then (l4_CastleReads.j1 k x1 bt1035.2.2.2.2.2 0 bt1035.1 bt1035.2.1 bt1035.2.2.1 bt1035.2.2.2.1 bt1035.2.2.2.2.1 bt1046.1 bt1046.2.1 bt1046.2.2.1 bt1046.2.2.2.1 bt1046.2.2.2.2.1) else (l4_CastleReads.j1 k x1 bt1035.2.2.2.2.2 2 bt1035.1 bt1035.2.1 bt1035.2.2.1 bt1035.2.2.2.1 bt1035.2.2.2.2.1 bt1046.1 bt1046.2.1 bt1046.2.2.1 bt1046.2.2.2.1 bt1046.2.2.2.2.1))) else (l4_CastleReads.j1 k x1 bt1035.2.2.2.2.2 4 bt1035.1 bt1035.2.1 bt1035.2.2.1 bt1035.2.2.2.1 bt1035.2.2.2.2.1 bt1046.1 bt1046.2.1 bt1046.2.2.1 bt1046.2.2.2.1 bt1046.2.2.2.2.1)))))
def l4_CastleReads.j1 : Nat→ByteArray→Int→Int→List (S126)→Int→List (S48)→Int→Int→List (S126)→Int→List (S48)→Int→Int→Option (Bool)
 | 0,_,_,_,_,_,_,_,_,_,_,_,_,_=>none
 | k + 1,x1,x6,x9,x1046000,x1046001,x1046002,x1046003,x1046004,x1057000,x1057001,x1057002,x1057003,x1057004=>if x9 = 0 then ((ca_Print.f x1046000 x1046001 x1046002 x1046003 x1046004).bind fun bt1058=>(if x6 = 0 then ((q4_SameBasins.f k x1046000 x1046001 x1046002 x1046003 x1046004 x1057000 x1057001 x1057002 x1057003 x1057004).bind fun t1060=>(if t1060 = true then (if bt1058.2 = 0 then (if bt1058.1.toList = x1.toList then ((l4_known.f).bind fun t1061=>(some t1061)) else (none)) else (none)) else (none))) else (none))) else (if x6 = x9 then ((q4_SameBasins.f k x1046000 x1046001 x1046002 x1046003 x1046004 ([] : List (S126)) 0 ([] : List (S48)) 0 0).bind fun t1062=>(if t1062 = true then ((l4_known.f).bind fun t1063=>(some t1063)) else (none))) else (none))
end
def l4_CastleReads.f (k : Nat) (l0_0 : List (S126)) (a0_1 : Int) (a1 : ByteArray) : Option (Bool):=if (a1.size : Int) > 300 then (l4_CastleReads.j0 k a1 true l0_0 a0_1) else (l4_CastleReads.j0 k a1 (decide ((l0_0.length : Int) > 15)) l0_0 a0_1)
theorem l4_CastleReads.calls (k : Nat) (A0_0 : Option Addr) (c0_0 : Nat) (l0_0 : List (S126)) (a0_1 : Int) (a1 : ByteArray) (r : Bool) (w : World) (hr0_0 : Kd.C k126 w A0_0 l0_0.length l0_0) (hc0_0 : l0_0.length≤c0_0) (hg : GV w) (h : l4_CastleReads.f k l0_0 a0_1 a1 = some r) :
 Calls Tryz.prog 12 #[.agg #[.slice A0_0 l0_0.length c0_0,.int .i64 a0_1],.string a1] w fun e w'=>e = .returned (.bool r)∧Below w.heap.size w w':=by
 have HG:=am hg
 clear hg
 have hu24:=Tryz.underlying24
 have hu27:=Tryz.underlying27
 have HR0_0:=am hr0_0
 have HC0_0:=am hc0_0
 clear hr0_0 hc0_0
 have HB:=am (Below.refl w.heap.size w)
 have H : (if (a1.size : Int) > 300 then (l4_CastleReads.j0 k a1 true l0_0 a0_1) else (l4_CastleReads.j0 k a1 (decide ((l0_0.length : Int) > 15)) l0_0 a0_1)) = some r:=h
 clear h
 have HC3:=am H
 clear H
 go_enter Tryz.func12,Tryz.ntmps12
 go_upto_region 1 with (first | ((refine gate_dst (N:=2) rfl ?_);(try (refine gate_guard (by rfl) ?_;dsimp only));refine box_event rfl (N:=2) rfl (cs:=#[.slice A0_0 l0_0.length c0_0,.int .i64 a0_1]) (t:=24) ?hr ?_;(case hr=>go_simp;try rfl);intro gb1033 hg w4 hbox hb;have BK1033:=am (hbox);have GW1033:=am (ge_new (HB.out) hg);have GE1033:=am (ge_new (HB.out) hg);replace HB:=am (below_step (HB.out) hb);clear hb hbox hg))
 (try simp only [Act.put,List.setIfInBounds_toArray,List.set_cons_zero,List.set_cons_succ])
 go_cut [20] (fun v20 wc=>∃ (kq : Nat) (x20_2 : Bool),v20 = .bool x20_2∧Aside0 (l4_CastleReads.j0 kq a1 x20_2 l0_0 a0_1 = some r)∧Aside0 (kq≤k)∧Aside0 (wc.heap[gb1033]? = some (.cells #[(.slice A0_0 l0_0.length c0_0),.int .i64 a0_1] 24 (0,0)))∧Aside0 (Below w.heap.size w wc))
 case first =>
  have H:=HC3.out
  clear HC3
  by_cases c5 : (a1.size : Int) > 300
  ·rw [if_pos c5] at H
   have c5b0 : decide (300 < (a1.size : Int)) = true:=decide_eq_true c5
   have c5b1 : decide (300 < a1.size) = true:=decide_eq_true (by omega)
   clear c5
   (first | rw [c5b0] | (simp only [i64_w,i32_w];rw [c5b0]) | skip)
   replace H':=am H
   go_wp2
   go_meet
   case rel=>exact ⟨_,(true),(by first | rfl | (simp;done) | (simp [*];done)),H',⟨by first | omega | exact Nat.le_refl _⟩,⟨BK1033.out⟩,⟨HB.out⟩⟩
  ·rw [if_neg c5] at H
   have c5b0 : decide (300 < (a1.size : Int)) = false:=decide_eq_false c5
   have c5b1 : decide (300 < a1.size) = false:=decide_eq_false (by omega)
   clear c5
   (first | rw [c5b0] | (simp only [i64_w,i32_w];rw [c5b0]) | skip)
   replace H':=am H
   obtain ⟨hcz6_0,hcz6_1⟩:=cO2 BK1033.out
   go_wp2
   go_meet
   case rel=>exact ⟨_,(decide ((l0_0.length : Int) > 15)),(by first | rfl | (simp;done) | (simp [*];done)),H',⟨by first | omega | exact Nat.le_refl _⟩,⟨BK1033.out⟩,⟨HB.out⟩⟩
 case rest =>
  clear HC3
  obtain ⟨kq,x20_2,rfl,HA,HJ2,BK1033,HB⟩:=hcut
  cases kq with
  | zero=>exact absurd HA.out (by simp [l4_CastleReads.j0])
  | succ kj2 =>
   have H:=HA.out
   clear HA
   simp only [l4_CastleReads.j0] at H
   by_cases c7 : x20_2 = true
   ·subst c7
    replace H : ((l4_known.f).bind fun t1034=>(some t1034)) = some r:=by rw [if_pos rfl] at H;exact H
    replace H:=obm H
    obtain ⟨t1034,A80,H⟩:=H
    replace H : (some t1034) = some r:=H
    have A8:=am A80
    clear A80
    obtain rfl:=Option.some.inj H
    go_wp2_with (first | ((with_reducible refine gate_callee (f:=19) rfl ?_);refine goesL_ (some 21) rfl rfl Tryz.func19 (by kernel_rfl) rfl #[] rfl (by (try simp only [List.map_toArray,List.map_cons,List.map_nil]);first | done | rfl | (simp only [List.length_drop,List.length_take];rfl)) ?_;(refine (l4_known.calls  t1034 _ A8.out).mono ?_);rintro e w9 ⟨rfl,hb⟩;refine ⟨_,rfl,?_⟩;replace BK1033:=(kmv hb BK1033);replace HB:=am (below_step (HB.out) hb);(try clear hb);(try clear hb2);(try clear hk);(try clear hi)))
    go_ret
    exact ⟨by first | rfl | (simp [*]<;>rfl),HB.out⟩
   ·replace c7:=Bool.eq_false_iff.mpr c7
    subst c7
    replace H : ((ca_ReadP.f l0_0 a0_1 a1).bind fun bt1035=>((q4_Read.f kj2 l0_0 a0_1 a1).bind fun bt1046=>(if (a1.size : Int) > 200 then (l4_CastleReads.j1 kj2 a1 bt1035.2.2.2.2.2 3 bt1035.1 bt1035.2.1 bt1035.2.2.1 bt1035.2.2.2.1 bt1035.2.2.2.2.1 bt1046.1 bt1046.2.1 bt1046.2.2.1 bt1046.2.2.2.1 bt1046.2.2.2.2.1) else (if bt1046.2.2.2.2.2 = true then ((q4_Basin.f kj2 bt1046.1 bt1046.2.1 bt1046.2.2.1 bt1046.2.2.2.1 bt1046.2.2.2.2.1).bind fun t1057=>(if t1057 = true then (l4_CastleReads.j1 kj2 a1 bt1035.2.2.2.2.2 0 bt1035.1 bt1035.2.1 bt1035.2.2.1 bt1035.2.2.2.1 bt1035.2.2.2.2.1 bt1046.1 bt1046.2.1 bt1046.2.2.1 bt1046.2.2.2.1 bt1046.2.2.2.2.1) else (l4_CastleReads.j1 kj2 a1 bt1035.2.2.2.2.2 2 bt1035.1 bt1035.2.1 bt1035.2.2.1 bt1035.2.2.2.1 bt1035.2.2.2.2.1 bt1046.1 bt1046.2.1 bt1046.2.2.1 bt1046.2.2.2.1 bt1046.2.2.2.2.1))) else (l4_CastleReads.j1 kj2 a1 bt1035.2.2.2.2.2 4 bt1035.1 bt1035.2.1 bt1035.2.2.1 bt1035.2.2.2.1 bt1035.2.2.2.2.1 bt1046.1 bt1046.2.1 bt1046.2.2.1 bt1046.2.2.2.1 bt1046.2.2.2.2.1))))) = some r:=by rw [if_neg (show ¬ (false = true) by decide)] at H;exact H
    replace H:=obm H
    obtain ⟨⟨t1035,t1038,t1039,t1042,t1043,t1044⟩,A100,H⟩:=H
    replace H : ((q4_Read.f kj2 l0_0 a0_1 a1).bind fun bt1046=>(if (a1.size : Int) > 200 then (l4_CastleReads.j1 kj2 a1 t1044 3 t1035 t1038 t1039 t1042 t1043 bt1046.1 bt1046.2.1 bt1046.2.2.1 bt1046.2.2.2.1 bt1046.2.2.2.2.1) else (if bt1046.2.2.2.2.2 = true then ((q4_Basin.f kj2 bt1046.1 bt1046.2.1 bt1046.2.2.1 bt1046.2.2.2.1 bt1046.2.2.2.2.1).bind fun t1057=>(if t1057 = true then (l4_CastleReads.j1 kj2 a1 t1044 0 t1035 t1038 t1039 t1042 t1043 bt1046.1 bt1046.2.1 bt1046.2.2.1 bt1046.2.2.2.1 bt1046.2.2.2.2.1) else (l4_CastleReads.j1 kj2 a1 t1044 2 t1035 t1038 t1039 t1042 t1043 bt1046.1 bt1046.2.1 bt1046.2.2.1 bt1046.2.2.2.1 bt1046.2.2.2.2.1))) else (l4_CastleReads.j1 kj2 a1 t1044 4 t1035 t1038 t1039 t1042 t1043 bt1046.1 bt1046.2.1 bt1046.2.2.1 bt1046.2.2.2.1 bt1046.2.2.2.2.1)))) = some r:=H
    have A10:=am A100
    clear A100
    replace H:=obm H
    obtain ⟨⟨t1046,t1049,t1050,t1053,t1054,t1055⟩,A110,H⟩:=H
    replace H : (if (a1.size : Int) > 200 then (l4_CastleReads.j1 kj2 a1 t1044 3 t1035 t1038 t1039 t1042 t1043 t1046 t1049 t1050 t1053 t1054) else (if t1055 = true then ((q4_Basin.f kj2 t1046 t1049 t1050 t1053 t1054).bind fun t1057=>(if t1057 = true then (l4_CastleReads.j1 kj2 a1 t1044 0 t1035 t1038 t1039 t1042 t1043 t1046 t1049 t1050 t1053 t1054) else (l4_CastleReads.j1 kj2 a1 t1044 2 t1035 t1038 t1039 t1042 t1043 t1046 t1049 t1050 t1053 t1054))) else (l4_CastleReads.j1 kj2 a1 t1044 4 t1035 t1038 t1039 t1042 t1043 t1046 t1049 t1050 t1053 t1054))) = some r:=H
    have A11:=am A110
    clear A110
    have HC12:=am H
    clear H
    obtain ⟨hcz13_0,hcz13_1⟩:=cO2 BK1033.out
    go_upto_if 36 with (first | ((with_reducible refine gate_callee (f:=50) rfl ?_);refine goesL_ (some 25) rfl rfl Tryz.func50 (by kernel_rfl) rfl #[.agg #[.slice A0_0 l0_0.length c0_0,.int .i64 a0_1],.string a1] rfl (by (try simp only [List.map_toArray,List.map_cons,List.map_nil]);first | done | rfl | (simp only [List.length_drop,List.length_take];rfl)) ?_;(refine (ca_ReadP.calls _ _ l0_0 a0_1 a1 t1035 t1038 t1039 t1042 t1043 t1044 _ ?side1 ?side2 (HG.out.below (by repeat (first | (with_reducible exact HB.out) | (with_reducible apply below_alloc) | (with_reducible apply pw_below_drewN) | (with_reducible apply below_drew1) | (with_reducible refine below_set ?_ (Aside0.out (by assumption))) | exact HB.out))) A10.out).mono ?_);(case side1=>exact kC HR0_0.out HB.out);(case side2=>exact HC0_0.out);rintro e w14 ⟨v1036,v1040,rfl,ho0,ho1,hb⟩;refine ⟨_,rfl,?_⟩;have HO1037:=am (Kd.R_lower ho0 (below_size (HB.out)));have HO1041:=am (Kd.R_lower ho1 (below_size (HB.out)));replace BK1033:=(kmv hb BK1033);replace HB:=am (below_step (HB.out) hb);(try clear hb);(try clear hb2);(try clear hk);(try clear hi);(try clear ho0);(try clear ho1)) | ((refine gate_dst (N:=5) rfl ?_);(try (refine gate_guard (by rfl) ?_;dsimp only));refine box_event rfl (N:=5) rfl (cs:=#[.slice none 0 0,.int .i64 0,.slice none 0 0,.int .i64 0,.int .i64 0]) (t:=27) ?hr ?_;(case hr=>go_simp;try rfl);intro gb1045 hg w15 hbox hb;have BK1045:=am (hbox);have GW1045:=am (ge_new (HB.out) hg);have GE1045:=am (ge_new (HB.out) hg);have NB1033_1045:=am (ne_new BK1033.out hg);have NB1045_1033:=am (ne_new2 BK1033.out hg);replace HO1037:=am (Kd.R_below HO1037.out hb);replace HO1041:=am (Kd.R_below HO1041.out hb);replace BK1033:=(kmv hb BK1033);replace HB:=am (below_step (HB.out) hb);clear hb hbox hg;obtain ⟨Ao16,co16,eo16⟩:=Kd.R_slice HO1037.out;subst eo16;have hnb17:=NB1045_1033.out;have hnc17:=NB1033_1045.out;obtain ⟨hcz18_0,hcz18_1,hcz18_2,hcz18_3,hcz18_4⟩:=cO5 BK1045.out;have hfz18_0:=blk_frozen BK1045.out 0;have hfz18_1:=blk_frozen BK1045.out 1;have hfz18_2:=blk_frozen BK1045.out 2;have hfz18_3:=blk_frozen BK1045.out 3;have hfz18_4:=blk_frozen BK1045.out 4;obtain ⟨Ao19,co19,eo19⟩:=Kd.R_slice HO1041.out;subst eo19) | ((with_reducible refine gate_store (t:=27) (p:=5) rfl ?_);refine store_event (t:=27) (p:=5) (v:=?vo_w20) (w1:=(((((w15.setCell ⟨gb1045,0,none⟩ (.slice Ao16 t1035.length co16)).setCell ⟨gb1045,1,none⟩ (.int .i64 t1038)).setCell ⟨gb1045,2,none⟩ (.slice Ao19 t1039.length co19)).setCell ⟨gb1045,3,none⟩ (.int .i64 t1042)).setCell ⟨gb1045,4,none⟩ (.int .i64 t1043))) ?hg ?ho ?hn ?hr ?_;(case ho=>rfl);(case hg=>rfl);(case hn=>rfl);(case hr=>go_simp;try rfl);intro w20 hw;have n0_ : Aside0 (Kd.R k126 126 w20 w.heap.size (fun _=>True) (.slice Ao16 t1035.length co16) t1035):=⟨(by rw [hw];exact (Kd.R_mono (Kd.R_far (p:=⟨gb1045,4,none⟩) (Kd.R_far (p:=⟨gb1045,3,none⟩) (Kd.R_far (p:=⟨gb1045,2,none⟩) (Kd.R_far (p:=⟨gb1045,1,none⟩) (Kd.R_far (p:=⟨gb1045,0,none⟩) (Kd.R_types HO1037.out BK1045.out (by decide)) (fun _ hk=>hk.2) (.slice Ao16 t1035.length co16)) (fun _ hk=>hk.2) (.int .i64 t1038)) (fun _ hk=>hk.2) (.slice Ao19 t1039.length co19)) (fun _ hk=>hk.2) (.int .i64 t1042)) (fun _ hk=>hk.2) (.int .i64 t1043)) (fun _ hk=>trivial)))⟩;have n1_ : Aside0 (Kd.R k48 48 w20 w.heap.size (fun _=>True) (.slice Ao19 t1039.length co19) t1039):=⟨(by rw [hw];exact (Kd.R_mono (Kd.R_far (p:=⟨gb1045,4,none⟩) (Kd.R_far (p:=⟨gb1045,3,none⟩) (Kd.R_far (p:=⟨gb1045,2,none⟩) (Kd.R_far (p:=⟨gb1045,1,none⟩) (Kd.R_far (p:=⟨gb1045,0,none⟩) (Kd.R_types HO1041.out BK1045.out (by decide)) (fun _ hk=>hk.2) (.slice Ao16 t1035.length co16)) (fun _ hk=>hk.2) (.int .i64 t1038)) (fun _ hk=>hk.2) (.slice Ao19 t1039.length co19)) (fun _ hk=>hk.2) (.int .i64 t1042)) (fun _ hk=>hk.2) (.int .i64 t1043)) (fun _ hk=>trivial)))⟩;have n2_ : Aside0 (w20.heap[gb1033]? = some (.cells #[.slice A0_0 l0_0.length c0_0,.int .i64 a0_1] 24 (0,0))):=⟨(by rw [hw];exact (blk_far (blk_far (blk_far (blk_far (blk_far BK1033.out NB1033_1045.out _) NB1033_1045.out _) NB1033_1045.out _) NB1033_1045.out _) NB1033_1045.out _))⟩;have n3_ : Aside0 (w20.heap[gb1045]? = some (.cells #[.slice Ao16 t1035.length co16,.int .i64 t1038,.slice Ao19 t1039.length co19,.int .i64 t1042,.int .i64 t1043] 27 (0,0))):=⟨(by rw [hw];exact (blk_put (cs:=#[.slice Ao16 t1035.length co16,.int .i64 t1038,.slice Ao19 t1039.length co19,.int .i64 t1042,.int .i64 0]) (blk_put (cs:=#[.slice Ao16 t1035.length co16,.int .i64 t1038,.slice Ao19 t1039.length co19,.int .i64 0,.int .i64 0]) (blk_put (cs:=#[.slice Ao16 t1035.length co16,.int .i64 t1038,.slice none 0 0,.int .i64 0,.int .i64 0]) (blk_put (cs:=#[.slice Ao16 t1035.length co16,.int .i64 0,.slice none 0 0,.int .i64 0,.int .i64 0]) (blk_put (cs:=#[.slice none 0 0,.int .i64 0,.slice none 0 0,.int .i64 0,.int .i64 0]) BK1045.out 0 _ rfl) 1 _ rfl) 2 _ rfl) 3 _ rfl) 4 _ rfl))⟩;have n4_ : Aside0 (Below w.heap.size w w20):=⟨(by rw [hw];exact (by repeat (first | (with_reducible first | exact HB.out | refine below_set ?_ (Aside0.out (by assumption)) | apply below_alloc | apply pw_below_drewN) | exact HB.out)))⟩;clear hw;clear HO1037;clear HO1041;clear BK1033;clear BK1045;clear HB;have HO1037:=n0_;have HO1041:=n1_;have BK1033:=n2_;have BK1045:=n3_;have HB:=n4_;clear n0_ n1_ n2_ n3_ n4_;obtain ⟨hcz21_0,hcz21_1⟩:=cO2 BK1033.out) | ((with_reducible refine gate_callee (f:=53) rfl ?_);refine goesL_ (some 31) rfl rfl Tryz.func53 (by kernel_rfl) rfl #[.agg #[.slice A0_0 l0_0.length c0_0,.int .i64 a0_1],.string a1] rfl (by (try simp only [List.map_toArray,List.map_cons,List.map_nil]);first | done | rfl | (simp only [List.length_drop,List.length_take];rfl)) ?_;(refine (q4_Read.calls kj2 (fun k_=>k_ < w.heap.size) _ _ l0_0 a0_1 a1 t1046 t1049 t1050 t1053 t1054 t1055 _ ?side1 A11.out).mono ?_);(case side1=>exact Kd.V_mk HC0_0.out (Kd.F_below (Kd.C_F k126_heap HR0_0.out) (HB.out)));rintro e w22 ⟨v1047,v1051,rfl,ho0,ho1,hb⟩;refine ⟨_,rfl,?_⟩;have HO1048:=am (Kd.V_lower (Kd.V_mono (ok':=fun k_=>some k_ ≠ (v1051 : Value).ownBlock∧some k_ ≠ (.slice Ao16 t1035.length co16 : Value).ownBlock∧some k_ ≠ (.slice Ao19 t1039.length co19 : Value).ownBlock∧k_ ≠ gb1033∧k_ ≠ gb1045) ho0 (fun k_ hk_=>⟨hk_.2,Or.elim hk_.1 (fun hs_=>fun e_=>Nat.not_le.2 hs_ (Kd.R_base HO1037.out k_ e_.symm)) (fun hn_=>(Kd.fresh' (Kd.R_lt HO1037.out) k_ hn_)),Or.elim hk_.1 (fun hs_=>fun e_=>Nat.not_le.2 hs_ (Kd.R_base HO1041.out k_ e_.symm)) (fun hn_=>(Kd.fresh' (Kd.R_lt HO1041.out) k_ hn_)),Or.elim hk_.1 (fun hs_=>fun e_=>Nat.not_le.2 hs_ (by rw [e_];exact GW1033.out)) (fun hn_=>(Kd.freshB (g:=gb1033) (o:=.cells #[.slice A0_0 l0_0.length c0_0,.int .i64 a0_1] 24 (0,0)) BK1033.out k_ hn_)),Or.elim hk_.1 (fun hs_=>fun e_=>Nat.not_le.2 hs_ (by rw [e_];exact GW1045.out)) (fun hn_=>(Kd.freshB (g:=gb1045) (o:=.cells #[.slice Ao16 t1035.length co16,.int .i64 t1038,.slice Ao19 t1039.length co19,.int .i64 t1042,.int .i64 t1043] 27 (0,0)) BK1045.out k_ hn_))⟩)) (below_size (HB.out)));have HO1052:=am (Kd.R_lower (Kd.R_new' (Kd.R_mono (ok':=fun k_=>True) ho1 (fun _ hk_=>trivial)) (Kd.R_lt HO1041.out)) (below_size (HB.out)));replace HO1037:=am (Kd.R_below HO1037.out hb);replace HO1041:=am (Kd.R_elder' HO1041.out (Kd.R_base ho1) hb);replace BK1033:=(kmv hb BK1033);replace BK1045:=(kmv hb BK1045);replace HB:=am (below_step (HB.out) hb);(try clear hb);(try clear hb2);(try clear hk);(try clear hi);(try clear ho0);(try clear ho1)) | ((refine gate_dst (N:=7) rfl ?_);(try (refine gate_guard (by rfl) ?_;dsimp only));refine box_event rfl (N:=7) rfl (cs:=#[.slice none 0 0,.int .i64 0,.slice none 0 0,.int .i64 0,.int .i64 0]) (t:=27) ?hr ?_;(case hr=>go_simp;try rfl);intro gb1056 hg w23 hbox hb;have BK1056:=am (hbox);have GW1056:=am (ge_new (HB.out) hg);have GE1056:=am (ge_new (HB.out) hg);have NB1033_1056:=am (ne_new BK1033.out hg);have NB1056_1033:=am (ne_new2 BK1033.out hg);have NB1045_1056:=am (ne_new BK1045.out hg);have NB1056_1045:=am (ne_new2 BK1045.out hg);replace HO1037:=am (Kd.R_below HO1037.out hb);replace HO1041:=am (Kd.R_below HO1041.out hb);replace HO1048:=am (Kd.V_below (Kd.V_elderB HO1048.out gb1056 (Nat.le_of_eq hg.symm)) hb);replace HO1052:=am (Kd.R_below HO1052.out hb);replace BK1033:=(kmv hb BK1033);replace BK1045:=(kmv hb BK1045);replace HB:=am (below_step (HB.out) hb);clear hb hbox hg;obtain ⟨Ao24,co24,eo24⟩:=Kd.V_slice HO1048.out;subst eo24;have hnb25:=NB1056_1033.out;have hnc25:=NB1033_1056.out;have hnb26:=NB1056_1045.out;have hnc26:=NB1045_1056.out;obtain ⟨hcz27_0,hcz27_1,hcz27_2,hcz27_3,hcz27_4⟩:=cO5 BK1056.out;have hfz27_0:=blk_frozen BK1056.out 0;have hfz27_1:=blk_frozen BK1056.out 1;have hfz27_2:=blk_frozen BK1056.out 2;have hfz27_3:=blk_frozen BK1056.out 3;have hfz27_4:=blk_frozen BK1056.out 4;obtain ⟨Ao28,co28,eo28⟩:=Kd.R_slice HO1052.out;subst eo28))
    (try simp only [Act.put,List.setIfInBounds_toArray,List.set_cons_zero,List.set_cons_succ])
    go_cut [9] (fun v9 wc=>∃ (kq : Nat) (x9_11 : Int),v9 = .int .i64 x9_11∧Aside0 (l4_CastleReads.j1 kq a1 t1044 x9_11 t1035 t1038 t1039 t1042 t1043 t1046 t1049 t1050 t1053 t1054 = some r)∧Aside0 (kq≤kj2)∧Aside0 (Kd.R k126 126 wc w.heap.size (fun _=>True) (.slice Ao16 t1035.length co16) t1035)∧Aside0 (Kd.R k48 48 wc w.heap.size (fun k_=>some k_ ≠ ((.slice Ao28 t1050.length co28) : Value).ownBlock) (.slice Ao19 t1039.length co19) t1039)∧Aside0 (Kd.V k126 126 wc w.heap.size (fun k_=>some k_ ≠ ((.slice Ao16 t1035.length co16) : Value).ownBlock∧some k_ ≠ ((.slice Ao19 t1039.length co19) : Value).ownBlock∧some k_ ≠ ((.slice Ao28 t1050.length co28) : Value).ownBlock∧k_ ≠ gb1033∧k_ ≠ gb1045∧k_ ≠ gb1056) (.slice Ao24 t1046.length co24) t1046)∧Aside0 (Kd.R k48 48 wc w.heap.size (fun k_=>some k_ ≠ ((.slice Ao19 t1039.length co19) : Value).ownBlock) (.slice Ao28 t1050.length co28) t1050)∧Aside0 (wc.heap[gb1033]? = some (.cells #[(.slice A0_0 l0_0.length c0_0),.int .i64 a0_1] 24 (0,0)))∧Aside0 (wc.heap[gb1045]? = some (.cells #[(.slice Ao16 t1035.length co16),.int .i64 t1038,(.slice Ao19 t1039.length co19),.int .i64 t1042,.int .i64 t1043] 27 (0,0)))∧Aside0 (wc.heap[gb1056]? = some (.cells #[(.slice Ao24 t1046.length co24),.int .i64 t1049,(.slice Ao28 t1050.length co28),.int .i64 t1053,.int .i64 t1054] 27 (0,0)))∧Aside0 (Below w.heap.size w wc))
    case first =>
     have H:=HC12.out
     clear HC12
     by_cases c29 : (a1.size : Int) > 200
     ·rw [if_pos c29] at H
      have c29b0 : decide (200 < (a1.size : Int)) = true:=decide_eq_true c29
      have c29b1 : decide (200 < a1.size) = true:=decide_eq_true (by omega)
      clear c29
      (first | rw [c29b0] | (simp only [i64_w,i32_w];rw [c29b0]) | skip)
      replace H':=am H
      go_wp2
      go_meet
      case rel=>exact ⟨_,(3),(by first | rfl | (simp;done) | (simp [*];done)),H',⟨by have:=HJ2.out;first | omega | exact Nat.le_refl _⟩,⟨by (with_reducible repeat (first | apply Kd.R_alloc | apply Kd.R_drewN | apply Kd.R_drew));exact Kd.R_mono (Kd.R_far (p:=⟨gb1056,4,none⟩) (Kd.R_far (p:=⟨gb1056,3,none⟩) (Kd.R_far (p:=⟨gb1056,2,none⟩) (Kd.R_far (p:=⟨gb1056,1,none⟩) (Kd.R_far (p:=⟨gb1056,0,none⟩) (Kd.R_types HO1037.out BK1056.out (by decide)) (fun _ hk=>hk.2) (.slice Ao24 t1046.length co24)) (fun _ hk=>hk.2) (.int .i64 t1049)) (fun _ hk=>hk.2) (.slice Ao28 t1050.length co28)) (fun _ hk=>hk.2) (.int .i64 t1053)) (fun _ hk=>hk.2) (.int .i64 t1054)) (fun _ hk=>trivial)⟩,⟨by (with_reducible repeat (first | apply Kd.R_alloc | apply Kd.R_drewN | apply Kd.R_drew));exact Kd.R_mono (Kd.R_far (p:=⟨gb1056,4,none⟩) (Kd.R_far (p:=⟨gb1056,3,none⟩) (Kd.R_far (p:=⟨gb1056,2,none⟩) (Kd.R_far (p:=⟨gb1056,1,none⟩) (Kd.R_far (p:=⟨gb1056,0,none⟩) (Kd.R_types HO1041.out BK1056.out (by decide)) (fun _ hk=>hk.2) (.slice Ao24 t1046.length co24)) (fun _ hk=>hk.2) (.int .i64 t1049)) (fun _ hk=>hk.2) (.slice Ao28 t1050.length co28)) (fun _ hk=>hk.2) (.int .i64 t1053)) (fun _ hk=>hk.2) (.int .i64 t1054)) (fun _ hk=>hk.1.2)⟩,⟨by (with_reducible repeat (first | apply Kd.V_alloc | apply Kd.V_drewN | apply Kd.V_drew));exact Kd.V_mono (Kd.V_far (p:=⟨gb1056,4,none⟩) (Kd.V_far (p:=⟨gb1056,3,none⟩) (Kd.V_far (p:=⟨gb1056,2,none⟩) (Kd.V_far (p:=⟨gb1056,1,none⟩) (Kd.V_far (p:=⟨gb1056,0,none⟩) (Kd.V_mono HO1048.out (fun k_ hk=>(⟨hk,hk.2⟩ : _∧k_ ≠ gb1056))) (fun _ hk=>hk.2) (.slice Ao24 t1046.length co24)) (fun _ hk=>hk.2) (.int .i64 t1049)) (fun _ hk=>hk.2) (.slice Ao28 t1050.length co28)) (fun _ hk=>hk.2) (.int .i64 t1053)) (fun _ hk=>hk.2) (.int .i64 t1054)) (fun _ hk=>⟨hk.1.1.2.1,⟨hk.1.1.2.2.1,⟨hk.1.1.1,⟨hk.1.1.2.2.2.1,⟨hk.1.1.2.2.2.2,hk.1.2⟩⟩⟩⟩⟩)⟩,⟨by (with_reducible repeat (first | apply Kd.R_alloc | apply Kd.R_drewN | apply Kd.R_drew));exact Kd.R_mono (Kd.R_far (p:=⟨gb1056,4,none⟩) (Kd.R_far (p:=⟨gb1056,3,none⟩) (Kd.R_far (p:=⟨gb1056,2,none⟩) (Kd.R_far (p:=⟨gb1056,1,none⟩) (Kd.R_far (p:=⟨gb1056,0,none⟩) (Kd.R_types HO1052.out BK1056.out (by decide)) (fun _ hk=>hk.2) (.slice Ao24 t1046.length co24)) (fun _ hk=>hk.2) (.int .i64 t1049)) (fun _ hk=>hk.2) (.slice Ao28 t1050.length co28)) (fun _ hk=>hk.2) (.int .i64 t1053)) (fun _ hk=>hk.2) (.int .i64 t1054)) (fun _ hk=>hk.1.2)⟩,⟨(blk_far (blk_far (blk_far (blk_far (blk_far BK1033.out NB1033_1056.out _) NB1033_1056.out _) NB1033_1056.out _) NB1033_1056.out _) NB1033_1056.out _)⟩,⟨(blk_far (blk_far (blk_far (blk_far (blk_far BK1045.out NB1045_1056.out _) NB1045_1056.out _) NB1045_1056.out _) NB1045_1056.out _) NB1045_1056.out _)⟩,⟨(blk_put (cs:=#[.slice Ao24 t1046.length co24,.int .i64 t1049,.slice Ao28 t1050.length co28,.int .i64 t1053,.int .i64 0]) (blk_put (cs:=#[.slice Ao24 t1046.length co24,.int .i64 t1049,.slice Ao28 t1050.length co28,.int .i64 0,.int .i64 0]) (blk_put (cs:=#[.slice Ao24 t1046.length co24,.int .i64 t1049,.slice none 0 0,.int .i64 0,.int .i64 0]) (blk_put (cs:=#[.slice Ao24 t1046.length co24,.int .i64 0,.slice none 0 0,.int .i64 0,.int .i64 0]) (blk_put (cs:=#[.slice none 0 0,.int .i64 0,.slice none 0 0,.int .i64 0,.int .i64 0]) BK1056.out 0 _ rfl) 1 _ rfl) 2 _ rfl) 3 _ rfl) 4 _ rfl)⟩,⟨by repeat (first | (with_reducible first | exact HB.out | refine below_set ?_ (Aside0.out (by assumption)) | apply below_alloc | apply pw_below_drewN) | exact HB.out)⟩⟩
     ·rw [if_neg c29] at H
      have c29b0 : decide (200 < (a1.size : Int)) = false:=decide_eq_false c29
      have c29b1 : decide (200 < a1.size) = false:=decide_eq_false (by omega)
      clear c29
      (first | rw [c29b0] | (simp only [i64_w,i32_w];rw [c29b0]) | skip)
      by_cases c30 : t1055 = true
      case neg =>
       replace c30:=Bool.eq_false_iff.mpr c30
       subst c30
       replace H : (l4_CastleReads.j1 kj2 a1 t1044 4 t1035 t1038 t1039 t1042 t1043 t1046 t1049 t1050 t1053 t1054) = some r:=by rw [if_neg (show ¬ (false = true) by decide)] at H;exact H
       replace H':=am H
       go_wp2
       go_meet
       case rel=>exact ⟨_,(4),(by first | rfl | (simp;done) | (simp [*];done)),H',⟨by have:=HJ2.out;first | omega | exact Nat.le_refl _⟩,⟨by (with_reducible repeat (first | apply Kd.R_alloc | apply Kd.R_drewN | apply Kd.R_drew));exact Kd.R_mono (Kd.R_far (p:=⟨gb1056,4,none⟩) (Kd.R_far (p:=⟨gb1056,3,none⟩) (Kd.R_far (p:=⟨gb1056,2,none⟩) (Kd.R_far (p:=⟨gb1056,1,none⟩) (Kd.R_far (p:=⟨gb1056,0,none⟩) (Kd.R_types HO1037.out BK1056.out (by decide)) (fun _ hk=>hk.2) (.slice Ao24 t1046.length co24)) (fun _ hk=>hk.2) (.int .i64 t1049)) (fun _ hk=>hk.2) (.slice Ao28 t1050.length co28)) (fun _ hk=>hk.2) (.int .i64 t1053)) (fun _ hk=>hk.2) (.int .i64 t1054)) (fun _ hk=>trivial)⟩,⟨by (with_reducible repeat (first | apply Kd.R_alloc | apply Kd.R_drewN | apply Kd.R_drew));exact Kd.R_mono (Kd.R_far (p:=⟨gb1056,4,none⟩) (Kd.R_far (p:=⟨gb1056,3,none⟩) (Kd.R_far (p:=⟨gb1056,2,none⟩) (Kd.R_far (p:=⟨gb1056,1,none⟩) (Kd.R_far (p:=⟨gb1056,0,none⟩) (Kd.R_types HO1041.out BK1056.out (by decide)) (fun _ hk=>hk.2) (.slice Ao24 t1046.length co24)) (fun _ hk=>hk.2) (.int .i64 t1049)) (fun _ hk=>hk.2) (.slice Ao28 t1050.length co28)) (fun _ hk=>hk.2) (.int .i64 t1053)) (fun _ hk=>hk.2) (.int .i64 t1054)) (fun _ hk=>hk.1.2)⟩,⟨by (with_reducible repeat (first | apply Kd.V_alloc | apply Kd.V_drewN | apply Kd.V_drew));exact Kd.V_mono (Kd.V_far (p:=⟨gb1056,4,none⟩) (Kd.V_far (p:=⟨gb1056,3,none⟩) (Kd.V_far (p:=⟨gb1056,2,none⟩) (Kd.V_far (p:=⟨gb1056,1,none⟩) (Kd.V_far (p:=⟨gb1056,0,none⟩) (Kd.V_mono HO1048.out (fun k_ hk=>(⟨hk,hk.2⟩ : _∧k_ ≠ gb1056))) (fun _ hk=>hk.2) (.slice Ao24 t1046.length co24)) (fun _ hk=>hk.2) (.int .i64 t1049)) (fun _ hk=>hk.2) (.slice Ao28 t1050.length co28)) (fun _ hk=>hk.2) (.int .i64 t1053)) (fun _ hk=>hk.2) (.int .i64 t1054)) (fun _ hk=>⟨hk.1.1.2.1,⟨hk.1.1.2.2.1,⟨hk.1.1.1,⟨hk.1.1.2.2.2.1,⟨hk.1.1.2.2.2.2,hk.1.2⟩⟩⟩⟩⟩)⟩,⟨by (with_reducible repeat (first | apply Kd.R_alloc | apply Kd.R_drewN | apply Kd.R_drew));exact Kd.R_mono (Kd.R_far (p:=⟨gb1056,4,none⟩) (Kd.R_far (p:=⟨gb1056,3,none⟩) (Kd.R_far (p:=⟨gb1056,2,none⟩) (Kd.R_far (p:=⟨gb1056,1,none⟩) (Kd.R_far (p:=⟨gb1056,0,none⟩) (Kd.R_types HO1052.out BK1056.out (by decide)) (fun _ hk=>hk.2) (.slice Ao24 t1046.length co24)) (fun _ hk=>hk.2) (.int .i64 t1049)) (fun _ hk=>hk.2) (.slice Ao28 t1050.length co28)) (fun _ hk=>hk.2) (.int .i64 t1053)) (fun _ hk=>hk.2) (.int .i64 t1054)) (fun _ hk=>hk.1.2)⟩,⟨(blk_far (blk_far (blk_far (blk_far (blk_far BK1033.out NB1033_1056.out _) NB1033_1056.out _) NB1033_1056.out _) NB1033_1056.out _) NB1033_1056.out _)⟩,⟨(blk_far (blk_far (blk_far (blk_far (blk_far BK1045.out NB1045_1056.out _) NB1045_1056.out _) NB1045_1056.out _) NB1045_1056.out _) NB1045_1056.out _)⟩,⟨(blk_put (cs:=#[.slice Ao24 t1046.length co24,.int .i64 t1049,.slice Ao28 t1050.length co28,.int .i64 t1053,.int .i64 0]) (blk_put (cs:=#[.slice Ao24 t1046.length co24,.int .i64 t1049,.slice Ao28 t1050.length co28,.int .i64 0,.int .i64 0]) (blk_put (cs:=#[.slice Ao24 t1046.length co24,.int .i64 t1049,.slice none 0 0,.int .i64 0,.int .i64 0]) (blk_put (cs:=#[.slice Ao24 t1046.length co24,.int .i64 0,.slice none 0 0,.int .i64 0,.int .i64 0]) (blk_put (cs:=#[.slice none 0 0,.int .i64 0,.slice none 0 0,.int .i64 0,.int .i64 0]) BK1056.out 0 _ rfl) 1 _ rfl) 2 _ rfl) 3 _ rfl) 4 _ rfl)⟩,⟨by repeat (first | (with_reducible first | exact HB.out | refine below_set ?_ (Aside0.out (by assumption)) | apply below_alloc | apply pw_below_drewN) | exact HB.out)⟩⟩
      subst c30
      replace H : ((q4_Basin.f kj2 t1046 t1049 t1050 t1053 t1054).bind fun t1057=>(if t1057 = true then (l4_CastleReads.j1 kj2 a1 t1044 0 t1035 t1038 t1039 t1042 t1043 t1046 t1049 t1050 t1053 t1054) else (l4_CastleReads.j1 kj2 a1 t1044 2 t1035 t1038 t1039 t1042 t1043 t1046 t1049 t1050 t1053 t1054))) = some r:=by rw [if_pos rfl] at H;exact H
      replace H:=obm H
      obtain ⟨t1057,A310,H⟩:=H
      replace H : (if t1057 = true then (l4_CastleReads.j1 kj2 a1 t1044 0 t1035 t1038 t1039 t1042 t1043 t1046 t1049 t1050 t1053 t1054) else (l4_CastleReads.j1 kj2 a1 t1044 2 t1035 t1038 t1039 t1042 t1043 t1046 t1049 t1050 t1053 t1054)) = some r:=H
      have A31:=am A310
      clear A310
      by_cases c32 : t1057 = true
      ·subst c32
       replace H : (l4_CastleReads.j1 kj2 a1 t1044 0 t1035 t1038 t1039 t1042 t1043 t1046 t1049 t1050 t1053 t1054) = some r:=by rw [if_pos rfl] at H;exact H
       replace H':=am H
       have hnb33:=NB1056_1033.out
       have hnc33:=NB1033_1056.out
       have hnb34:=NB1056_1045.out
       have hnc34:=NB1045_1056.out
       obtain ⟨hcz35_0,hcz35_1,hcz35_2,hcz35_3,hcz35_4⟩:=cO5 BK1056.out
       have hfz35_0:=blk_frozen BK1056.out 0
       have hfz35_1:=blk_frozen BK1056.out 1
       have hfz35_2:=blk_frozen BK1056.out 2
       have hfz35_3:=blk_frozen BK1056.out 3
       have hfz35_4:=blk_frozen BK1056.out 4
       go_wp2_with (first | ((with_reducible refine gate_callee (f:=15) rfl ?_);refine goesL_ (some 40) rfl rfl Tryz.func15 (by kernel_rfl) rfl #[.agg #[.slice Ao24 t1046.length co24,.int .i64 t1049,.slice Ao28 t1050.length co28,.int .i64 t1053,.int .i64 t1054]] rfl (by (try simp only [List.map_toArray,List.map_cons,List.map_nil]);first | done | rfl | (simp only [List.length_drop,List.length_take];rfl)) ?_;(refine (q4_Basin.calls kj2 _ _ t1046 t1049 _ _ t1050 t1053 t1054 true _ ?side1 ?side2 ?side3 ?side4 A31.out).mono ?_);(case side1=>refine (Kd.V_reads' (e:=126) (base:=w.heap.size) (ok:=fun k_=>((some k_ ≠ (.slice Ao28 t1050.length co28 : Value).ownBlock∧(some k_ ≠ (.slice Ao16 t1035.length co16 : Value).ownBlock∧(some k_ ≠ (.slice Ao19 t1039.length co19 : Value).ownBlock∧(k_ ≠ gb1033∧k_ ≠ gb1045))))∧k_ ≠ gb1056)) (n:=t1046.length) (c:=co24) ?_).2.2;exact (Kd.V_mono (Kd.V_far (p:=⟨gb1056,4,none⟩) (Kd.V_far (p:=⟨gb1056,3,none⟩) (Kd.V_far (p:=⟨gb1056,2,none⟩) (Kd.V_far (p:=⟨gb1056,1,none⟩) (Kd.V_far (p:=⟨gb1056,0,none⟩) (Kd.V_mono HO1048.out (fun k_ hk=>(⟨hk,hk.2⟩ : _∧k_ ≠ gb1056))) (fun _ hk=>hk.2) (.slice Ao24 t1046.length co24)) (fun _ hk=>hk.2) (.int .i64 t1049)) (fun _ hk=>hk.2) (.slice Ao28 t1050.length co28)) (fun _ hk=>hk.2) (.int .i64 t1053)) (fun _ hk=>hk.2) (.int .i64 t1054)) (fun _ h_=>h_.1)));(case side2=>exact (Kd.V_reads' HO1048.out).2.1);(case side3=>refine (Kd.R_reads' (e:=48) (base:=w.heap.size) (ok:=fun k_=>(True∧some k_ ≠ (.slice Ao19 t1039.length co19 : Value).ownBlock)) (n:=t1050.length) (c:=co28) ?_).2.2;exact (Kd.R_mono (Kd.R_far (p:=⟨gb1056,4,none⟩) (Kd.R_far (p:=⟨gb1056,3,none⟩) (Kd.R_far (p:=⟨gb1056,2,none⟩) (Kd.R_far (p:=⟨gb1056,1,none⟩) (Kd.R_far (p:=⟨gb1056,0,none⟩) (Kd.R_types HO1052.out BK1056.out (by decide)) (fun _ hk=>hk.2) (.slice Ao24 t1046.length co24)) (fun _ hk=>hk.2) (.int .i64 t1049)) (fun _ hk=>hk.2) (.slice Ao28 t1050.length co28)) (fun _ hk=>hk.2) (.int .i64 t1053)) (fun _ hk=>hk.2) (.int .i64 t1054)) (fun _ h_=>h_.1)));(case side4=>exact (Kd.R_reads' HO1052.out).2.1);rintro e w36 ⟨rfl,hb⟩;refine ⟨_,rfl,?_⟩;replace HO1037:=am (Kd.R_below (Kd.R_mono (Kd.R_far (p:=⟨gb1056,4,none⟩) (Kd.R_far (p:=⟨gb1056,3,none⟩) (Kd.R_far (p:=⟨gb1056,2,none⟩) (Kd.R_far (p:=⟨gb1056,1,none⟩) (Kd.R_far (p:=⟨gb1056,0,none⟩) (Kd.R_types HO1037.out BK1056.out (by decide)) (fun _ hk=>hk.2) (.slice Ao24 t1046.length co24)) (fun _ hk=>hk.2) (.int .i64 t1049)) (fun _ hk=>hk.2) (.slice Ao28 t1050.length co28)) (fun _ hk=>hk.2) (.int .i64 t1053)) (fun _ hk=>hk.2) (.int .i64 t1054)) (fun _ h_=>h_.1)) hb);replace HO1041:=am (Kd.R_below (Kd.R_mono (Kd.R_far (p:=⟨gb1056,4,none⟩) (Kd.R_far (p:=⟨gb1056,3,none⟩) (Kd.R_far (p:=⟨gb1056,2,none⟩) (Kd.R_far (p:=⟨gb1056,1,none⟩) (Kd.R_far (p:=⟨gb1056,0,none⟩) (Kd.R_types HO1041.out BK1056.out (by decide)) (fun _ hk=>hk.2) (.slice Ao24 t1046.length co24)) (fun _ hk=>hk.2) (.int .i64 t1049)) (fun _ hk=>hk.2) (.slice Ao28 t1050.length co28)) (fun _ hk=>hk.2) (.int .i64 t1053)) (fun _ hk=>hk.2) (.int .i64 t1054)) (fun _ h_=>h_.1)) hb);replace HO1048:=am (Kd.V_below (Kd.V_mono (Kd.V_far (p:=⟨gb1056,4,none⟩) (Kd.V_far (p:=⟨gb1056,3,none⟩) (Kd.V_far (p:=⟨gb1056,2,none⟩) (Kd.V_far (p:=⟨gb1056,1,none⟩) (Kd.V_far (p:=⟨gb1056,0,none⟩) (Kd.V_mono HO1048.out (fun k_ hk=>(⟨hk,hk.2⟩ : _∧k_ ≠ gb1056))) (fun _ hk=>hk.2) (.slice Ao24 t1046.length co24)) (fun _ hk=>hk.2) (.int .i64 t1049)) (fun _ hk=>hk.2) (.slice Ao28 t1050.length co28)) (fun _ hk=>hk.2) (.int .i64 t1053)) (fun _ hk=>hk.2) (.int .i64 t1054)) (fun _ h_=>h_.1)) hb);replace HO1052:=am (Kd.R_below (Kd.R_mono (Kd.R_far (p:=⟨gb1056,4,none⟩) (Kd.R_far (p:=⟨gb1056,3,none⟩) (Kd.R_far (p:=⟨gb1056,2,none⟩) (Kd.R_far (p:=⟨gb1056,1,none⟩) (Kd.R_far (p:=⟨gb1056,0,none⟩) (Kd.R_types HO1052.out BK1056.out (by decide)) (fun _ hk=>hk.2) (.slice Ao24 t1046.length co24)) (fun _ hk=>hk.2) (.int .i64 t1049)) (fun _ hk=>hk.2) (.slice Ao28 t1050.length co28)) (fun _ hk=>hk.2) (.int .i64 t1053)) (fun _ hk=>hk.2) (.int .i64 t1054)) (fun _ h_=>h_.1)) hb);replace BK1033:=am (blk_below (blk_far (blk_far (blk_far (blk_far (blk_far BK1033.out NB1033_1056.out _) NB1033_1056.out _) NB1033_1056.out _) NB1033_1056.out _) NB1033_1056.out _) hb);replace BK1045:=am (blk_below (blk_far (blk_far (blk_far (blk_far (blk_far BK1045.out NB1045_1056.out _) NB1045_1056.out _) NB1045_1056.out _) NB1045_1056.out _) NB1045_1056.out _) hb);replace BK1056:=am (blk_below (blk_put (cs:=#[.slice Ao24 t1046.length co24,.int .i64 t1049,.slice Ao28 t1050.length co28,.int .i64 t1053,.int .i64 0]) (blk_put (cs:=#[.slice Ao24 t1046.length co24,.int .i64 t1049,.slice Ao28 t1050.length co28,.int .i64 0,.int .i64 0]) (blk_put (cs:=#[.slice Ao24 t1046.length co24,.int .i64 t1049,.slice none 0 0,.int .i64 0,.int .i64 0]) (blk_put (cs:=#[.slice Ao24 t1046.length co24,.int .i64 0,.slice none 0 0,.int .i64 0,.int .i64 0]) (blk_put (cs:=#[.slice none 0 0,.int .i64 0,.slice none 0 0,.int .i64 0,.int .i64 0]) BK1056.out 0 _ rfl) 1 _ rfl) 2 _ rfl) 3 _ rfl) 4 _ rfl) hb);replace HB:=am (below_step (by repeat (first | (with_reducible first | exact HB.out | refine below_set ?_ (Aside0.out (by assumption)) | apply below_alloc | apply pw_below_drewN) | exact HB.out)) hb);(try clear hb);(try clear hb2);(try clear hk);(try clear hi)))
       go_meet
       case rel=>exact ⟨_,(0),(by first | rfl | (simp;done) | (simp [*];done)),H',⟨by have:=HJ2.out;first | omega | exact Nat.le_refl _⟩,⟨by (with_reducible repeat (first | apply Kd.R_alloc | apply Kd.R_drewN | apply Kd.R_drew));exact HO1037.out⟩,⟨by (with_reducible repeat (first | apply Kd.R_alloc | apply Kd.R_drewN | apply Kd.R_drew));exact Kd.R_mono HO1041.out (fun _ hk=>hk.2)⟩,⟨by (with_reducible repeat (first | apply Kd.V_alloc | apply Kd.V_drewN | apply Kd.V_drew));exact Kd.V_mono HO1048.out (fun _ hk=>⟨hk.1.2.1,⟨hk.1.2.2.1,⟨hk.1.1,⟨hk.1.2.2.2.1,⟨hk.1.2.2.2.2,hk.2⟩⟩⟩⟩⟩)⟩,⟨by (with_reducible repeat (first | apply Kd.R_alloc | apply Kd.R_drewN | apply Kd.R_drew));exact Kd.R_mono HO1052.out (fun _ hk=>hk.2)⟩,⟨BK1033.out⟩,⟨BK1045.out⟩,⟨BK1056.out⟩,⟨HB.out⟩⟩
      ·replace c32:=Bool.eq_false_iff.mpr c32
       subst c32
       replace H : (l4_CastleReads.j1 kj2 a1 t1044 2 t1035 t1038 t1039 t1042 t1043 t1046 t1049 t1050 t1053 t1054) = some r:=by rw [if_neg (show ¬ (false = true) by decide)] at H;exact H
       replace H':=am H
       have hnb37:=NB1056_1033.out
       have hnc37:=NB1033_1056.out
       have hnb38:=NB1056_1045.out
       have hnc38:=NB1045_1056.out
       obtain ⟨hcz39_0,hcz39_1,hcz39_2,hcz39_3,hcz39_4⟩:=cO5 BK1056.out
       have hfz39_0:=blk_frozen BK1056.out 0
       have hfz39_1:=blk_frozen BK1056.out 1
       have hfz39_2:=blk_frozen BK1056.out 2
       have hfz39_3:=blk_frozen BK1056.out 3
       have hfz39_4:=blk_frozen BK1056.out 4
       go_wp2_with (first | ((with_reducible refine gate_callee (f:=15) rfl ?_);refine goesL_ (some 40) rfl rfl Tryz.func15 (by kernel_rfl) rfl #[.agg #[.slice Ao24 t1046.length co24,.int .i64 t1049,.slice Ao28 t1050.length co28,.int .i64 t1053,.int .i64 t1054]] rfl (by (try simp only [List.map_toArray,List.map_cons,List.map_nil]);first | done | rfl | (simp only [List.length_drop,List.length_take];rfl)) ?_;(refine (q4_Basin.calls kj2 _ _ t1046 t1049 _ _ t1050 t1053 t1054 false _ ?side1 ?side2 ?side3 ?side4 A31.out).mono ?_);(case side1=>refine (Kd.V_reads' (e:=126) (base:=w.heap.size) (ok:=fun k_=>((some k_ ≠ (.slice Ao28 t1050.length co28 : Value).ownBlock∧(some k_ ≠ (.slice Ao16 t1035.length co16 : Value).ownBlock∧(some k_ ≠ (.slice Ao19 t1039.length co19 : Value).ownBlock∧(k_ ≠ gb1033∧k_ ≠ gb1045))))∧k_ ≠ gb1056)) (n:=t1046.length) (c:=co24) ?_).2.2;exact (Kd.V_mono (Kd.V_far (p:=⟨gb1056,4,none⟩) (Kd.V_far (p:=⟨gb1056,3,none⟩) (Kd.V_far (p:=⟨gb1056,2,none⟩) (Kd.V_far (p:=⟨gb1056,1,none⟩) (Kd.V_far (p:=⟨gb1056,0,none⟩) (Kd.V_mono HO1048.out (fun k_ hk=>(⟨hk,hk.2⟩ : _∧k_ ≠ gb1056))) (fun _ hk=>hk.2) (.slice Ao24 t1046.length co24)) (fun _ hk=>hk.2) (.int .i64 t1049)) (fun _ hk=>hk.2) (.slice Ao28 t1050.length co28)) (fun _ hk=>hk.2) (.int .i64 t1053)) (fun _ hk=>hk.2) (.int .i64 t1054)) (fun _ h_=>h_.1)));(case side2=>exact (Kd.V_reads' HO1048.out).2.1);(case side3=>refine (Kd.R_reads' (e:=48) (base:=w.heap.size) (ok:=fun k_=>(True∧some k_ ≠ (.slice Ao19 t1039.length co19 : Value).ownBlock)) (n:=t1050.length) (c:=co28) ?_).2.2;exact (Kd.R_mono (Kd.R_far (p:=⟨gb1056,4,none⟩) (Kd.R_far (p:=⟨gb1056,3,none⟩) (Kd.R_far (p:=⟨gb1056,2,none⟩) (Kd.R_far (p:=⟨gb1056,1,none⟩) (Kd.R_far (p:=⟨gb1056,0,none⟩) (Kd.R_types HO1052.out BK1056.out (by decide)) (fun _ hk=>hk.2) (.slice Ao24 t1046.length co24)) (fun _ hk=>hk.2) (.int .i64 t1049)) (fun _ hk=>hk.2) (.slice Ao28 t1050.length co28)) (fun _ hk=>hk.2) (.int .i64 t1053)) (fun _ hk=>hk.2) (.int .i64 t1054)) (fun _ h_=>h_.1)));(case side4=>exact (Kd.R_reads' HO1052.out).2.1);rintro e w40 ⟨rfl,hb⟩;refine ⟨_,rfl,?_⟩;replace HO1037:=am (Kd.R_below (Kd.R_mono (Kd.R_far (p:=⟨gb1056,4,none⟩) (Kd.R_far (p:=⟨gb1056,3,none⟩) (Kd.R_far (p:=⟨gb1056,2,none⟩) (Kd.R_far (p:=⟨gb1056,1,none⟩) (Kd.R_far (p:=⟨gb1056,0,none⟩) (Kd.R_types HO1037.out BK1056.out (by decide)) (fun _ hk=>hk.2) (.slice Ao24 t1046.length co24)) (fun _ hk=>hk.2) (.int .i64 t1049)) (fun _ hk=>hk.2) (.slice Ao28 t1050.length co28)) (fun _ hk=>hk.2) (.int .i64 t1053)) (fun _ hk=>hk.2) (.int .i64 t1054)) (fun _ h_=>h_.1)) hb);replace HO1041:=am (Kd.R_below (Kd.R_mono (Kd.R_far (p:=⟨gb1056,4,none⟩) (Kd.R_far (p:=⟨gb1056,3,none⟩) (Kd.R_far (p:=⟨gb1056,2,none⟩) (Kd.R_far (p:=⟨gb1056,1,none⟩) (Kd.R_far (p:=⟨gb1056,0,none⟩) (Kd.R_types HO1041.out BK1056.out (by decide)) (fun _ hk=>hk.2) (.slice Ao24 t1046.length co24)) (fun _ hk=>hk.2) (.int .i64 t1049)) (fun _ hk=>hk.2) (.slice Ao28 t1050.length co28)) (fun _ hk=>hk.2) (.int .i64 t1053)) (fun _ hk=>hk.2) (.int .i64 t1054)) (fun _ h_=>h_.1)) hb);replace HO1048:=am (Kd.V_below (Kd.V_mono (Kd.V_far (p:=⟨gb1056,4,none⟩) (Kd.V_far (p:=⟨gb1056,3,none⟩) (Kd.V_far (p:=⟨gb1056,2,none⟩) (Kd.V_far (p:=⟨gb1056,1,none⟩) (Kd.V_far (p:=⟨gb1056,0,none⟩) (Kd.V_mono HO1048.out (fun k_ hk=>(⟨hk,hk.2⟩ : _∧k_ ≠ gb1056))) (fun _ hk=>hk.2) (.slice Ao24 t1046.length co24)) (fun _ hk=>hk.2) (.int .i64 t1049)) (fun _ hk=>hk.2) (.slice Ao28 t1050.length co28)) (fun _ hk=>hk.2) (.int .i64 t1053)) (fun _ hk=>hk.2) (.int .i64 t1054)) (fun _ h_=>h_.1)) hb);replace HO1052:=am (Kd.R_below (Kd.R_mono (Kd.R_far (p:=⟨gb1056,4,none⟩) (Kd.R_far (p:=⟨gb1056,3,none⟩) (Kd.R_far (p:=⟨gb1056,2,none⟩) (Kd.R_far (p:=⟨gb1056,1,none⟩) (Kd.R_far (p:=⟨gb1056,0,none⟩) (Kd.R_types HO1052.out BK1056.out (by decide)) (fun _ hk=>hk.2) (.slice Ao24 t1046.length co24)) (fun _ hk=>hk.2) (.int .i64 t1049)) (fun _ hk=>hk.2) (.slice Ao28 t1050.length co28)) (fun _ hk=>hk.2) (.int .i64 t1053)) (fun _ hk=>hk.2) (.int .i64 t1054)) (fun _ h_=>h_.1)) hb);replace BK1033:=am (blk_below (blk_far (blk_far (blk_far (blk_far (blk_far BK1033.out NB1033_1056.out _) NB1033_1056.out _) NB1033_1056.out _) NB1033_1056.out _) NB1033_1056.out _) hb);replace BK1045:=am (blk_below (blk_far (blk_far (blk_far (blk_far (blk_far BK1045.out NB1045_1056.out _) NB1045_1056.out _) NB1045_1056.out _) NB1045_1056.out _) NB1045_1056.out _) hb);replace BK1056:=am (blk_below (blk_put (cs:=#[.slice Ao24 t1046.length co24,.int .i64 t1049,.slice Ao28 t1050.length co28,.int .i64 t1053,.int .i64 0]) (blk_put (cs:=#[.slice Ao24 t1046.length co24,.int .i64 t1049,.slice Ao28 t1050.length co28,.int .i64 0,.int .i64 0]) (blk_put (cs:=#[.slice Ao24 t1046.length co24,.int .i64 t1049,.slice none 0 0,.int .i64 0,.int .i64 0]) (blk_put (cs:=#[.slice Ao24 t1046.length co24,.int .i64 0,.slice none 0 0,.int .i64 0,.int .i64 0]) (blk_put (cs:=#[.slice none 0 0,.int .i64 0,.slice none 0 0,.int .i64 0,.int .i64 0]) BK1056.out 0 _ rfl) 1 _ rfl) 2 _ rfl) 3 _ rfl) 4 _ rfl) hb);replace HB:=am (below_step (by repeat (first | (with_reducible first | exact HB.out | refine below_set ?_ (Aside0.out (by assumption)) | apply below_alloc | apply pw_below_drewN) | exact HB.out)) hb);(try clear hb);(try clear hb2);(try clear hk);(try clear hi)))
       go_meet
       case rel=>exact ⟨_,(2),(by first | rfl | (simp;done) | (simp [*];done)),H',⟨by have:=HJ2.out;first | omega | exact Nat.le_refl _⟩,⟨by (with_reducible repeat (first | apply Kd.R_alloc | apply Kd.R_drewN | apply Kd.R_drew));exact HO1037.out⟩,⟨by (with_reducible repeat (first | apply Kd.R_alloc | apply Kd.R_drewN | apply Kd.R_drew));exact Kd.R_mono HO1041.out (fun _ hk=>hk.2)⟩,⟨by (with_reducible repeat (first | apply Kd.V_alloc | apply Kd.V_drewN | apply Kd.V_drew));exact Kd.V_mono HO1048.out (fun _ hk=>⟨hk.1.2.1,⟨hk.1.2.2.1,⟨hk.1.1,⟨hk.1.2.2.2.1,⟨hk.1.2.2.2.2,hk.2⟩⟩⟩⟩⟩)⟩,⟨by (with_reducible repeat (first | apply Kd.R_alloc | apply Kd.R_drewN | apply Kd.R_drew));exact Kd.R_mono HO1052.out (fun _ hk=>hk.2)⟩,⟨BK1033.out⟩,⟨BK1045.out⟩,⟨BK1056.out⟩,⟨HB.out⟩⟩
    case rest =>
     clear HC12
     obtain ⟨kq,x9_11,rfl,HA,HJ11,HO_1046000,HO_1046002,HO_1057000,HO_1057002,BK1033,BK1045,BK1056,HB⟩:=hcut
     cases kq with
     | zero=>exact absurd HA.out (by simp [l4_CastleReads.j1])
     | succ kj11 =>
      have H:=HA.out
      clear HA
      simp only [l4_CastleReads.j1] at H
      by_cases c41 : x9_11 = 0
      case neg =>
       rw [if_neg c41] at H
       have c41b0 : (x9_11 == 0) = false:=beq_eq_false_iff_ne.mpr c41
       have c41b1 : (x9_11 != 0) = true:=bne_iff_ne.mpr c41
       by_cases c58 : t1044 = x9_11
       case neg =>
        rw [if_neg c58] at H
        exact absurd H (by simp)
       rw [if_pos c58] at H
       have c58b0 : (t1044 == x9_11) = true:=beq_iff_eq.mpr c58
       have c58b1 : (t1044 != x9_11) = false:=bne_eq_false_iff_eq.mpr c58
       clear c58
       replace H:=obm H
       obtain ⟨t1062,A590,H⟩:=H
       replace H : (if t1062 = true then ((l4_known.f).bind fun t1063=>(some t1063)) else (none)) = some r:=H
       have A59:=am A590
       clear A590
       by_cases c60 : t1062 = true
       case neg =>
        replace c60:=Bool.eq_false_iff.mpr c60
        subst c60
        replace H : (none) = some r:=by rw [if_neg (show ¬ (false = true) by decide)] at H;exact H
        exact absurd H (by simp)
       subst c60
       replace H : ((l4_known.f).bind fun t1063=>(some t1063)) = some r:=by rw [if_pos rfl] at H;exact H
       replace H:=obm H
       obtain ⟨t1063,A610,H⟩:=H
       replace H : (some t1063) = some r:=H
       have A61:=am A610
       clear A610
       obtain rfl:=Option.some.inj H
       have hnb62:=NB1045_1033.out
       have hnc62:=NB1033_1045.out
       have hnb63:=NB1045_1056.out
       have hnc63:=NB1056_1045.out
       obtain ⟨hcz64_0,hcz64_1,hcz64_2,hcz64_3,hcz64_4⟩:=cO5 BK1045.out
       have hfz64_0:=blk_frozen BK1045.out 0
       have hfz64_1:=blk_frozen BK1045.out 1
       have hfz64_2:=blk_frozen BK1045.out 2
       have hfz64_3:=blk_frozen BK1045.out 3
       have hfz64_4:=blk_frozen BK1045.out 4
       go_wp2_with (first | (go_at_call 52;(refine (q4_SameBasins.calls kj11 _ _ t1035 t1038 _ _ t1039 t1042 t1043 _ _ ([] : List (S126)) 0 _ _ ([] : List (S48)) 0 0 true _ ?side1 ?side2 ?side3 ?side4 ?side5 ?side6 ?side7 ?side8 A59.out).mono ?_);(case side1=>repeat (first | exact (Kd.R_reads' HO_1046000.out).2.2 | (with_reducible refine Kd.C_alloc ?_ _) | (with_reducible refine Kd.C_drewN ?_ _) | (with_reducible refine Kd.C_drew ?_)));(case side2=>exact (Kd.R_reads' HO_1046000.out).2.1);(case side3=>repeat (first | exact (Kd.R_reads' HO_1046002.out).2.2 | (with_reducible refine Kd.C_alloc ?_ _) | (with_reducible refine Kd.C_drewN ?_ _) | (with_reducible refine Kd.C_drew ?_)));(case side4=>exact (Kd.R_reads' HO_1046002.out).2.1);(case side5=>exact Kd.C_nil _ _);(case side6=>exact Nat.le_refl _);(case side7=>exact Kd.C_nil _ _);(case side8=>exact Nat.le_refl _);rintro e w65 ⟨rfl,hb⟩;replace HO_1046000:=am (Kd.R_below HO_1046000.out hb);replace HO_1046002:=am (Kd.R_below HO_1046002.out hb);replace HO_1057000:=am (Kd.V_below HO_1057000.out hb);replace HO_1057002:=am (Kd.R_below HO_1057002.out hb);replace BK1033:=(kmv hb BK1033);replace BK1045:=(kmv hb BK1045);replace BK1056:=(kmv hb BK1056);replace HB:=am (below_step (HB.out) hb);(try clear hb);(try clear hb2);(try clear hk);(try clear hi)) | (go_at_call 19;(refine (l4_known.calls  t1063 _ A61.out).mono ?_);rintro e w66 ⟨rfl,hb⟩;replace HO_1046000:=am (Kd.R_below HO_1046000.out hb);replace HO_1046002:=am (Kd.R_below HO_1046002.out hb);replace HO_1057000:=am (Kd.V_below HO_1057000.out hb);replace HO_1057002:=am (Kd.R_below HO_1057002.out hb);replace BK1033:=(kmv hb BK1033);replace BK1045:=(kmv hb BK1045);replace BK1056:=(kmv hb BK1056);replace HB:=am (below_step (HB.out) hb);(try clear hb);(try clear hb2);(try clear hk);(try clear hi)))
       go_ret
       exact ⟨by first | rfl | (simp [*]<;>rfl),HB.out⟩
      rw [if_pos c41] at H
      have c41b0 : (x9_11 == 0) = true:=beq_iff_eq.mpr c41
      have c41b1 : (x9_11 != 0) = false:=bne_eq_false_iff_eq.mpr c41
      clear c41
      replace H:=obm H
      obtain ⟨⟨t1058,t1059⟩,A420,H⟩:=H
      replace H : (if t1044 = 0 then ((q4_SameBasins.f kj11 t1035 t1038 t1039 t1042 t1043 t1046 t1049 t1050 t1053 t1054).bind fun t1060=>(if t1060 = true then (if t1059 = 0 then (if t1058.toList = a1.toList then ((l4_known.f).bind fun t1061=>(some t1061)) else (none)) else (none)) else (none))) else (none)) = some r:=H
      have A42:=am A420
      clear A420
      by_cases c43 : t1044 = 0
      case neg =>
       rw [if_neg c43] at H
       exact absurd H (by simp)
      rw [if_pos c43] at H
      have c43b0 : (t1044 == 0) = true:=beq_iff_eq.mpr c43
      have c43b1 : (t1044 != 0) = false:=bne_eq_false_iff_eq.mpr c43
      clear c43
      replace H:=obm H
      obtain ⟨t1060,A440,H⟩:=H
      replace H : (if t1060 = true then (if t1059 = 0 then (if t1058.toList = a1.toList then ((l4_known.f).bind fun t1061=>(some t1061)) else (none)) else (none)) else (none)) = some r:=H
      have A44:=am A440
      clear A440
      by_cases c45 : t1060 = true
      case neg =>
       replace c45:=Bool.eq_false_iff.mpr c45
       subst c45
       replace H : (none) = some r:=by rw [if_neg (show ¬ (false = true) by decide)] at H;exact H
       exact absurd H (by simp)
      subst c45
      replace H : (if t1059 = 0 then (if t1058.toList = a1.toList then ((l4_known.f).bind fun t1061=>(some t1061)) else (none)) else (none)) = some r:=by rw [if_pos rfl] at H;exact H
      by_cases c46 : t1059 = 0
      case neg =>
       rw [if_neg c46] at H
       exact absurd H (by simp)
      rw [if_pos c46] at H
      have c46b0 : (t1059 == 0) = true:=beq_iff_eq.mpr c46
      have c46b1 : (t1059 != 0) = false:=bne_eq_false_iff_eq.mpr c46
      clear c46
      by_cases c47 : t1058.toList = a1.toList
      case neg =>
       rw [if_neg c47] at H
       exact absurd H (by simp)
      rw [if_pos c47] at H
      have c47b0 : (t1058.toList == a1.toList) = true:=beq_iff_eq.mpr c47
      have c47b1 : (t1058.toList != a1.toList) = false:=bne_eq_false_iff_eq.mpr c47
      clear c47
      replace H:=obm H
      obtain ⟨t1061,A480,H⟩:=H
      replace H : (some t1061) = some r:=H
      have A48:=am A480
      clear A480
      obtain rfl:=Option.some.inj H
      have hnb49:=NB1045_1033.out
      have hnc49:=NB1033_1045.out
      have hnb50:=NB1045_1056.out
      have hnc50:=NB1056_1045.out
      obtain ⟨hcz51_0,hcz51_1,hcz51_2,hcz51_3,hcz51_4⟩:=cO5 BK1045.out
      have hfz51_0:=blk_frozen BK1045.out 0
      have hfz51_1:=blk_frozen BK1045.out 1
      have hfz51_2:=blk_frozen BK1045.out 2
      have hfz51_3:=blk_frozen BK1045.out 3
      have hfz51_4:=blk_frozen BK1045.out 4
      go_wp2_with (first | ((with_reducible refine gate_callee (f:=49) rfl ?_);refine goesL_ (some 57) rfl rfl Tryz.func49 (by kernel_rfl) rfl #[.agg #[.slice Ao16 t1035.length co16,.int .i64 t1038,.slice Ao19 t1039.length co19,.int .i64 t1042,.int .i64 t1043]] rfl (by (try simp only [List.map_toArray,List.map_cons,List.map_nil]);first | done | rfl | (simp only [List.length_drop,List.length_take];rfl)) ?_;(refine (ca_Print.calls _ _ t1035 t1038 _ _ t1039 t1042 t1043 t1058 t1059 _ ?side1 ?side2 ?side3 ?side4 (HG.out.below (by repeat (first | (with_reducible exact HB.out) | (with_reducible apply below_alloc) | (with_reducible apply pw_below_drewN) | (with_reducible apply below_drew1) | (with_reducible refine below_set ?_ (Aside0.out (by assumption))) | exact HB.out))) A42.out).mono ?_);(case side1=>repeat (first | exact (Kd.R_reads' HO_1046000.out).2.2 | (with_reducible refine Kd.C_alloc ?_ _) | (with_reducible refine Kd.C_drewN ?_ _) | (with_reducible refine Kd.C_drew ?_)));(case side2=>exact (Kd.R_reads' HO_1046000.out).2.1);(case side3=>repeat (first | exact (Kd.R_reads' HO_1046002.out).2.2 | (with_reducible refine Kd.C_alloc ?_ _) | (with_reducible refine Kd.C_drewN ?_ _) | (with_reducible refine Kd.C_drew ?_)));(case side4=>exact (Kd.R_reads' HO_1046002.out).2.1);rintro e w52 ⟨rfl,hb⟩;refine ⟨_,rfl,?_⟩;replace HO_1046000:=am (Kd.R_below HO_1046000.out hb);replace HO_1046002:=am (Kd.R_below HO_1046002.out hb);replace HO_1057000:=am (Kd.V_below HO_1057000.out hb);replace HO_1057002:=am (Kd.R_below HO_1057002.out hb);replace BK1033:=(kmv hb BK1033);replace BK1045:=(kmv hb BK1045);replace BK1056:=(kmv hb BK1056);replace HB:=am (below_step (HB.out) hb);(try clear hb);(try clear hb2);(try clear hk);(try clear hi);obtain ⟨hcz53_0,hcz53_1,hcz53_2,hcz53_3,hcz53_4⟩:=cO5 BK1045.out;have hfz53_0:=blk_frozen BK1045.out 0;have hfz53_1:=blk_frozen BK1045.out 1;have hfz53_2:=blk_frozen BK1045.out 2;have hfz53_3:=blk_frozen BK1045.out 3;have hfz53_4:=blk_frozen BK1045.out 4;have hnb54:=NB1056_1033.out;have hnc54:=NB1033_1056.out;obtain ⟨hcz55_0,hcz55_1,hcz55_2,hcz55_3,hcz55_4⟩:=cO5 BK1056.out;have hfz55_0:=blk_frozen BK1056.out 0;have hfz55_1:=blk_frozen BK1056.out 1;have hfz55_2:=blk_frozen BK1056.out 2;have hfz55_3:=blk_frozen BK1056.out 3;have hfz55_4:=blk_frozen BK1056.out 4) | (go_at_call 52;(refine (q4_SameBasins.calls kj11 _ _ t1035 t1038 _ _ t1039 t1042 t1043 _ _ t1046 t1049 _ _ t1050 t1053 t1054 true _ ?side1 ?side2 ?side3 ?side4 ?side5 ?side6 ?side7 ?side8 A44.out).mono ?_);(case side1=>repeat (first | exact (Kd.R_reads' HO_1046000.out).2.2 | (with_reducible refine Kd.C_alloc ?_ _) | (with_reducible refine Kd.C_drewN ?_ _) | (with_reducible refine Kd.C_drew ?_)));(case side2=>exact (Kd.R_reads' HO_1046000.out).2.1);(case side3=>repeat (first | exact (Kd.R_reads' HO_1046002.out).2.2 | (with_reducible refine Kd.C_alloc ?_ _) | (with_reducible refine Kd.C_drewN ?_ _) | (with_reducible refine Kd.C_drew ?_)));(case side4=>exact (Kd.R_reads' HO_1046002.out).2.1);(case side5=>repeat (first | exact (Kd.V_reads' HO_1057000.out).2.2 | (with_reducible refine Kd.C_alloc ?_ _) | (with_reducible refine Kd.C_drewN ?_ _) | (with_reducible refine Kd.C_drew ?_)));(case side6=>exact (Kd.V_reads' HO_1057000.out).2.1);(case side7=>repeat (first | exact (Kd.R_reads' HO_1057002.out).2.2 | (with_reducible refine Kd.C_alloc ?_ _) | (with_reducible refine Kd.C_drewN ?_ _) | (with_reducible refine Kd.C_drew ?_)));(case side8=>exact (Kd.R_reads' HO_1057002.out).2.1);rintro e w56 ⟨rfl,hb⟩;replace HO_1046000:=am (Kd.R_below HO_1046000.out hb);replace HO_1046002:=am (Kd.R_below HO_1046002.out hb);replace HO_1057000:=am (Kd.V_below HO_1057000.out hb);replace HO_1057002:=am (Kd.R_below HO_1057002.out hb);replace BK1033:=(kmv hb BK1033);replace BK1045:=(kmv hb BK1045);replace BK1056:=(kmv hb BK1056);replace HB:=am (below_step (HB.out) hb);(try clear hb);(try clear hb2);(try clear hk);(try clear hi)) | (go_at_call 19;(refine (l4_known.calls  t1061 _ A48.out).mono ?_);rintro e w57 ⟨rfl,hb⟩;replace HO_1046000:=am (Kd.R_below HO_1046000.out hb);replace HO_1046002:=am (Kd.R_below HO_1046002.out hb);replace HO_1057000:=am (Kd.V_below HO_1057000.out hb);replace HO_1057002:=am (Kd.R_below HO_1057002.out hb);replace BK1033:=(kmv hb BK1033);replace BK1045:=(kmv hb BK1045);replace BK1056:=(kmv hb BK1056);replace HB:=am (below_step (HB.out) hb);(try clear hb);(try clear hb2);(try clear hk);(try clear hi)))
      go_ret
      exact ⟨by first | rfl | (simp [*]<;>rfl),HB.out⟩
end
def ubl (b : ByteArray) : List UInt8:=b.data.toList
theorem bl_inj {a b : ByteArray} (h : ubl a = ubl b) : a = b:=ByteArray.ext (Array.toList_inj.1 h)
theorem bl_app (a b : ByteArray) : ubl (a ++ b) = ubl a ++ ubl b:=by simp [ubl]
theorem bl_size (a : ByteArray) : (ubl a).length = a.size:=by simp [ubl]
theorem bl_mk (l : List UInt8) : ubl ⟨l.toArray⟩ = l:=by simp [ubl]
theorem bls_inj {xs ys : List ByteArray} (h : xs.map ubl = ys.map ubl) : xs = ys:=by
 induction xs generalizing ys with
 | nil=>cases ys with
  | nil=>rfl
  | cons y ys=>simp at h
 | cons x xs ih=>cases ys with
  | nil=>simp at h
  | cons y ys =>
   simp only [List.map_cons,List.cons.injEq] at h
   rw [bl_inj h.1,ih h.2]
theorem bl_extract (s : ByteArray) (a b : Nat) : ubl (s.extract a b) = ((ubl s).take b).drop a:=by
 simp [ubl,ByteArray.data_extract,List.extract_eq_take_drop,List.drop_take]
def cut1 (c : UInt8) : List UInt8→List UInt8 × List (List UInt8)
 | []=>([],[])
 | x :: xs=>if x = c then ([],(cut1 c xs).1 :: (cut1 c xs).2) else (x :: (cut1 c xs).1,(cut1 c xs).2)
def cutL (c : UInt8) (s : List UInt8) : List (List UInt8):=(cut1 c s).1 :: (cut1 c s).2
theorem cut1_none {c : UInt8} : ∀ {a : List UInt8},c ∉ a→cut1 c a = (a,[])
 | [],_=>rfl
 | x :: xs,h=>by
  have h1 : x ≠ c:=fun e=>h (by simp [e])
  have h2 : c ∉ xs:=fun e=>h (by simp [e])
  rw [cut1,if_neg h1,cut1_none h2]
theorem cut1_app {c : UInt8} (s : List UInt8) : ∀ {a : List UInt8},c ∉ a→cut1 c (a ++ c :: s) = (a,(cut1 c s).1 :: (cut1 c s).2)
 | [],_=>by rw [List.nil_append,cut1,if_pos rfl]
 | x :: xs,h=>by
  have h1 : x ≠ c:=fun e=>h (by simp [e])
  have h2 : c ∉ xs:=fun e=>h (by simp [e])
  rw [List.cons_append,cut1,if_neg h1,cut1_app s h2]
theorem cutL_none {c : UInt8} {a : List UInt8} (h : c ∉ a) : cutL c a = [a]:=by rw [cutL,cut1_none h]
theorem cutL_app {c : UInt8} {a : List UInt8} (h : c ∉ a) (s : List UInt8) : cutL c (a ++ c :: s) = a :: cutL c s:=by rw [cutL,cut1_app s h];rfl
theorem cutL_lines {c : UInt8} (s : List UInt8) : ∀ {ls : List (List UInt8)},(∀ l ∈ ls,c ∉ l)→cutL c ((ls.map (· ++ [c])).flatten ++ s) = ls ++ cutL c s
 | [],_=>rfl
 | l :: ls,h=>by
  have ih:=cutL_lines s (ls:=ls) (fun x hx=>h x (by simp [hx]))
  have e : ((l :: ls).map (· ++ [c])).flatten ++ s = l ++ c :: ((ls.map (· ++ [c])).flatten ++ s):=by simp
  rw [e,cutL_app (h l (by simp)),ih];rfl
theorem splitK_cut (c : UInt8) : ∀ s : List UInt8,Lib.splitK [c] 0 (Lib.count s [c]) s = cutL c s
 | []=>rfl
 | b :: l=>by
  have ih:=splitK_cut c l
  by_cases e : b = c
  ·subst e
   rw [Lib.count_cons_eq,Nat.add_comm,Lib.splitK,cutL,cut1,if_pos rfl]
   have hi : Lib.index (b :: l) [b] = 0:=by simp [Lib.index]
   rw [hi,if_neg (by decide)]
   simp only [Int.toNat_zero,Nat.add_zero,List.take_zero,List.length_singleton,Nat.zero_add,List.drop_succ_cons,List.drop_zero,ih]
   rfl
  ·rw [Lib.count_cons_ne b c l e,cutL,cut1,if_neg e]
   have hi : Lib.index (b :: l) [c] = if Lib.index l [c] == -1 then -1 else Lib.index l [c] + 1:=by
    have : ([c].isPrefixOf (b :: l)) = false:=by simp [List.isPrefixOf,Ne.symm e]
    rw [Lib.index,this,if_neg (by decide)]
   cases hk : Lib.count l [c] with
   | zero =>
    rw [hk,Lib.splitK] at ih
    rw [Lib.splitK]
    unfold cutL at ih
    simp only [List.cons.injEq] at ih
    rw [← ih.1,← ih.2]
   | succ k =>
    have hn : (Lib.index l [c] == -1) = false:=by
     cases h : (Lib.index l [c] == -1) with
     | false=>rfl
     | true=>rw [Lib.count_miss (by simpa using h)] at hk;cases hk
    have g:=Lib.index_ge l [c]
    rw [hk,Lib.splitK,hn,if_neg (by decide)] at ih
    have hn2 : (Lib.index (b :: l) [c] == -1) = false:=by rw [hi,hn];simp;omega
    rw [Lib.splitK,hn2,if_neg (by decide),hi,hn,if_neg (by decide)]
    have g2 : Lib.index l [c] ≠ -1:=by simpa using hn
    have e1 : (Lib.index l [c] + 1).toNat = (Lib.index l [c]).toNat + 1:=by omega
    unfold cutL at ih
    simp only [List.cons.injEq,Nat.add_zero,List.length_singleton] at ih
    rw [e1]
    simp only [Nat.add_zero,List.take_succ_cons,List.length_singleton,List.drop_succ_cons,List.cons.injEq]
    exact ⟨⟨trivial,ih.1⟩,ih.2⟩
theorem splitF_cut (s sep : ByteArray) (c : UInt8) (h : ubl sep = [c]) : (splitF s sep).map ubl = cutL c (ubl s):=by
 have:=Lib.splitB_data sep 0 (Lib.countB s sep) s
 unfold splitF
 have e : Lib.countB s sep = Lib.count (ubl s) [c]:=by rw [← h];rfl
 rw [show (fun x : ByteArray=>x.data.toList) = ubl from rfl,show sep.data.toList = [c] from h,e] at this
 rw [e,this]
 exact splitK_cut c (ubl s)
def dig (n : Nat) : UInt8:=UInt8.ofNat (48 + n)
theorem dec1 {n : Nat} (h : n < 10) : Lib.decDigits n = [dig n]:=by rw [Lib.decDigits,dif_pos h];rfl
theorem dec2 {n : Nat} (h0 : 10≤n) (h1 : n < 100) : Lib.decDigits n = [dig (n / 10),dig (n % 10)]:=by rw [Lib.decDigits,dif_neg (by omega),dec1 (by omega)];rfl
theorem dec3 {n : Nat} (h0 : 100≤n) (h1 : n < 1000) : Lib.decDigits n = [dig (n / 100),dig (n / 10 % 10),dig (n % 10)]:=by
 rw [Lib.decDigits,dif_neg (by omega),dec2 (by omega) (by omega),show n / 10 / 10 = n / 100 by omega];rfl
theorem itB_nn {n : Int} (h : 0≤n) : ubl (itB n) = Lib.decDigits n.toNat:=by
 unfold itB Lib.itoa
 rw [if_neg (by omega),bl_mk]
theorem dig_toNat {n : Nat} (h : n < 10) : (dig n).toNat = 48 + n:=by
 unfold dig
 rw [UInt8.toNat_ofNat']
 omega
theorem dec_digit : ∀ (n : Nat) (x : UInt8),x ∈ Lib.decDigits n→48≤x.toNat∧x.toNat≤57:=by
 intro n
 induction n using Nat.strongRecOn with
 | _ n ih =>
  intro x hx
  rw [Lib.decDigits] at hx
  split at hx
  ·rename_i h
   rw [List.mem_singleton.1 hx]
   have:=dig_toNat h
   unfold dig at this
   omega
  ·rename_i h
   rcases List.mem_append.1 hx with hx | hx
   ·exact ih (n / 10) (by omega) x hx
   ·rw [List.mem_singleton.1 hx]
    have:=dig_toNat (n:=n % 10) (by omega)
    unfold dig at this
    omega
theorem itB_digit {n : Int} (h : 0≤n) {x : UInt8} (hx : x ∈ ubl (itB n)) : 48≤x.toNat∧x.toNat≤57:=by
 rw [itB_nn h] at hx;exact dec_digit _ _ hx
theorem bt_ubl (s : ByteArray) (p : Nat) : bt s (p : Int) = if h : p < (ubl s).length then (((ubl s)[p]'h).toNat : Int) else 0:=by
 unfold bt
 by_cases h : p < s.size
 ·rw [dif_pos (by simpa using h),dif_pos (by rw [bl_size];exact h)]
  simp [ubl]
  rfl
 ·rw [dif_neg (by simpa using h),dif_neg (by rw [bl_size];exact h)]
theorem numF_it {n : Int} (h0 : 0≤n) (h1 : n≤999) : numF (itB n) = some n:=by
 have hb:=itB_nn h0
 have key : ∀ l : List UInt8,ubl (itB n) = l→l.length ≠ 0→l.length≤3→(∀ x ∈ l,48≤x.toNat∧x.toNat≤57)→valTo (itB n) l.length = n→numF (itB n) = some n:=by
  intro l hl n0 n3 hd hv
  have hs : (itB n).size = l.length:=by rw [← bl_size,hl]
  have:=numF_some (x:=itB n) (by omega) (fun p hp=>by
   rw [bt_ubl,dif_pos (by rw [bl_size];exact hp)]
   have:=hd _ (by rw [← hl];exact List.getElem_mem (by rw [bl_size];exact hp))
   omega) (by omega) (by rw [hs,hv])
  rw [this,hs,hv]
 have dd:=fun x (hx : x ∈ Lib.decDigits n.toNat)=>dec_digit _ x hx
 by_cases a : n.toNat < 10
 ·rw [dec1 a] at hb dd
  refine key _ hb (by simp) (by simp) dd ?_
  simp only [List.length_singleton,valTo]
  have b0:=bt_ubl (itB n) 0
  rw [hb] at b0
  simp only [Int.natCast_zero] at b0
  rw [show ((0 : Nat) : Int) = 0 from rfl,b0]
  simp [dig_toNat a];omega
 ·by_cases b : n.toNat < 100
  ·rw [dec2 (by omega) b] at hb dd
   refine key _ hb (by simp) (by simp) dd ?_
   have b0:=bt_ubl (itB n) 0
   have b1:=bt_ubl (itB n) 1
   rw [hb] at b0 b1
   simp only [List.length_cons,List.length_nil,Nat.zero_add,Nat.reduceAdd,valTo]
   rw [b0,b1]
   simp [dig_toNat (n:=n.toNat / 10) (by omega),dig_toNat (n:=n.toNat % 10) (by omega)];omega
  ·rw [dec3 (by omega) (by omega)] at hb dd
   refine key _ hb (by simp) (by simp) dd ?_
   have b0:=bt_ubl (itB n) 0
   have b1:=bt_ubl (itB n) 1
   have b2:=bt_ubl (itB n) 2
   rw [hb] at b0 b1 b2
   simp only [List.length_cons,List.length_nil,Nat.zero_add,Nat.reduceAdd,valTo]
   rw [b0,b1,b2]
   simp [dig_toNat (n:=n.toNat / 100) (by omega),dig_toNat (n:=n.toNat / 10 % 10) (by omega),dig_toNat (n:=n.toNat % 10) (by omega)];omega
section
attribute [local go_sem] max2_int min2_int max_two min_two
set_option linter.unusedSimpArgs false
set_option linter.unusedSimpArgs false
end
theorem w64 {n : Int} (h : -9223372036854775808≤n∧n≤9223372036854775807) : wrap64 n = n:=by unfold wrap64;omega
theorem ksucc {k : Nat} (h : 0 < k) : ∃ m,k = m + 1:=⟨k - 1,by omega⟩
def rowOk (r : S126) : Bool:=decide (1≤r.f0∧r.f0≤60) && (decide (1≤r.f1∧r.f1≤60) && decide (1≤r.f2∧r.f2≤1000))
def nozOk (n : Int) (z : S48) : Bool:=decide (0≤z.f0∧z.f0≤n - 1) && decide (0≤z.f1∧z.f1≤40)
def okT (rows : List S126) (draw : Int) : Bool:=decide (1≤(rows.length : Int)∧(rows.length : Int)≤12) && (decide (0≤draw∧draw≤100) && rows.all rowOk)
def okB (rows : List S126) (draw : Int) (noz : List S48) (weir spill : Int) : Bool:=
 okT rows draw && (decide (1≤(noz.length : Int)∧(noz.length : Int)≤6) && (decide (0≤weir∧weir≤40) && (decide (0≤spill∧spill≤100) && noz.all (nozOk rows.length))))
theorem c_in (a b c : Int) : ca_in.f a b c = some (decide (b≤a∧a≤c)):=by
 unfold ca_in.f
 by_cases h : a ≥ b
 ·rw [if_pos h];have : b≤a:=h;simp [this]
 ·rw [if_neg h];have : ¬ b≤a:=h;simp [this]
theorem n_in (a b c : Int) : nz_in.f a b c = some (decide (b≤a∧a≤c)):=c_in a b c
theorem r4_in (a b c : Int) : q4_in.f a b c = some (decide (b≤a∧a≤c)):=c_in a b c
theorem r3_in (a b c : Int) : q3_in.f a b c = some (decide (b≤a∧a≤c)):=c_in a b c
theorem c_height (a : Int) : ca_isHeight.f a = some (decide (0≤a∧a≤40)):=by unfold ca_isHeight.f;rw [c_in];rfl
theorem r_height (a : Int) : q4_Height.f a = some (decide (0≤a∧a≤40)):=by unfold q4_Height.f;rw [r4_in];rfl
theorem anyM_total {α : Type} {q : α→Option Bool} {p : α→Bool} (h : ∀ x,q x = some (p x)) : ∀ xs,anyM q xs = some (xs.any p)
 | []=>rfl
 | x :: xs=>by
  simp only [anyM,h,Option.bind_some,List.any_cons,anyM_total h xs]
  cases p x<;>rfl
theorem row_bad (x : S126) : nz_isTable_1.f x.f0 x.f1 x.f2 = some (!rowOk x):=by
 unfold nz_isTable_1.f rowOk
 simp only [n_in,Option.bind_some]
 cases decide (1≤x.f0∧x.f0≤60)<;>cases decide (1≤x.f1∧x.f1≤60)<;>cases decide (1≤x.f2∧x.f2≤1000)<;>rfl
theorem noz_bad {rows : List S126} (hl : rows.length≤1000) (x : S48) : ca_isBasin_1.f rows x = some (!nozOk rows.length x):=by
 unfold ca_isBasin_1.f nozOk
 rw [w64 (by omega)]
 simp only [c_in,c_height,Option.bind_some]
 cases decide (0≤x.f0∧x.f0≤(rows.length : Int) - 1)<;>cases decide (0≤x.f1∧x.f1≤40)<;>rfl
theorem isTable_eq (rows : List S126) (draw : Int) : nz_isTable.f rows draw = some (okT rows draw):=by
 unfold nz_isTable.f okT cf_isTable.f
 rw [anyM_total row_bad,← List.not_all_eq_any_not]
 simp only [n_in,Option.bind_some]
 cases decide (1≤(rows.length : Int)∧(rows.length : Int)≤12)<;>cases decide (0≤draw∧draw≤100)<;>cases rows.all rowOk<;>rfl
theorem isBasin_eq {rows : List S126} {draw : Int} {noz : List S48} {weir spill : Int} (hl : rows.length≤1000) : ca_isBasin.f rows draw noz weir spill = some (okB rows draw noz weir spill):=by
 unfold ca_isBasin.f okB nz_Check.f
 rw [anyM_total (noz_bad hl),← List.not_all_eq_any_not,isTable_eq]
 simp only [c_in,c_height,Option.bind_some]
 cases okT rows draw<;>cases decide (1≤(noz.length : Int)∧(noz.length : Int)≤6)<;>cases decide (0≤weir∧weir≤40)<;>cases decide (0≤spill∧spill≤100)<;>cases noz.all (nozOk rows.length)<;>rfl
theorem refTable_go (rows : List S126) (draw : Int) (hl : rows.length≤1000) : ∀ (d k : Nat) (i : Int),0≤i→i + d = rows.length→d < k→
 q3_Table.l0 k i rows draw = some ((rows.drop i.toNat).all rowOk && (decide (1≤(rows.length : Int)∧(rows.length : Int)≤12) && decide (0≤draw∧draw≤100)))
 | 0,k,i,h0,hi,hk=>by
  obtain ⟨k,rfl⟩:=ksucc hk
  simp only [q3_Table.l0]
  rw [if_neg (by omega),List.drop_of_length_le (by omega)]
  simp only [r3_in,Option.bind_some,List.all_nil,Bool.true_and]
  cases decide (1≤(rows.length : Int)∧(rows.length : Int)≤12)<;>cases decide (0≤draw∧draw≤100)<;>rfl
 | d + 1,k,i,h0,hi,hk=>by
  obtain ⟨k,rfl⟩:=ksucc (by omega : 0 < k)
  simp only [q3_Table.l0]
  rw [if_pos (by omega),if_pos h0,w64 (by omega),refTable_go rows draw hl d k (i + 1) (by omega) (by omega) (by omega),drop_at z126 rows i h0 (by omega),List.all_cons]
  show _ = some ((rowOk (rd_T126 rows i) && _) && _)
  unfold rowOk
  simp only [r3_in,Option.bind_some]
  cases decide (1≤(rd_T126 rows i).f0∧(rd_T126 rows i).f0≤60)<;>cases decide (1≤(rd_T126 rows i).f1∧(rd_T126 rows i).f1≤60)<;>cases decide (1≤(rd_T126 rows i).f2∧(rd_T126 rows i).f2≤1000)<;>rfl
theorem refTable_eq {rows : List S126} {draw : Int} {k : Nat} (hl : rows.length≤1000) (hk : rows.length < k) : q3_Table.f k rows draw = some (okT rows draw):=by
 unfold q3_Table.f okT
 rw [refTable_go rows draw hl rows.length k 0 (by omega) (by omega) hk]
 show some (rows.all rowOk && _) = _
 cases decide (1≤(rows.length : Int)∧(rows.length : Int)≤12)<;>cases decide (0≤draw∧draw≤100)<;>cases rows.all rowOk<;>rfl
theorem refBasin_go (rows : List S126) (draw : Int) (noz : List S48) (weir spill : Int) (hl : rows.length≤1000) (hn : noz.length≤1000) : ∀ (d k : Nat) (i : Int),0≤i→i + d = noz.length→rows.length + d + 1 < k→
 q4_Basin.l0 k i rows draw noz weir spill = some ((noz.drop i.toNat).all (nozOk rows.length) && (okT rows draw && (decide (1≤(noz.length : Int)∧(noz.length : Int)≤6) && (decide (0≤weir∧weir≤40) && decide (0≤spill∧spill≤100)))))
 | 0,k,i,h0,hi,hk=>by
  obtain ⟨k,rfl⟩:=ksucc (by omega : 0 < k)
  simp only [q4_Basin.l0]
  rw [if_neg (by omega),List.drop_of_length_le (by omega),refTable_eq hl (by omega)]
  simp only [r4_in,r_height,Option.bind_some,List.all_nil,Bool.true_and]
  cases okT rows draw<;>cases decide (1≤(noz.length : Int)∧(noz.length : Int)≤6)<;>cases decide (0≤weir∧weir≤40)<;>cases decide (0≤spill∧spill≤100)<;>rfl
 | d + 1,k,i,h0,hi,hk=>by
  obtain ⟨k,rfl⟩:=ksucc (by omega : 0 < k)
  simp only [q4_Basin.l0]
  rw [if_pos (by omega),if_pos h0,w64 (n:=i + 1) (by omega),w64 (by omega),refBasin_go rows draw noz weir spill hl hn d k (i + 1) (by omega) (by omega) (by omega),drop_at z48 noz i h0 (by omega),List.all_cons]
  show _ = some ((nozOk rows.length (rd_T48 noz i) && _) && _)
  unfold nozOk
  simp only [r4_in,r_height,Option.bind_some]
  cases decide (0≤(rd_T48 noz i).f0∧(rd_T48 noz i).f0≤(rows.length : Int) - 1)<;>cases decide (0≤(rd_T48 noz i).f1∧(rd_T48 noz i).f1≤40)<;>rfl
theorem refBasin_eq {rows : List S126} {draw : Int} {noz : List S48} {weir spill : Int} {k : Nat} (hl : rows.length≤1000) (hn : noz.length≤1000) (hk : rows.length + noz.length + 1 < k) :
 q4_Basin.f k rows draw noz weir spill = some (okB rows draw noz weir spill):=by
 unfold q4_Basin.f okB
 rw [refBasin_go rows draw noz weir spill hl hn noz.length k 0 (by omega) (by omega) hk]
 show some (noz.all (nozOk rows.length) && _) = _
 cases okT rows draw<;>cases decide (1≤(noz.length : Int)∧(noz.length : Int)≤6)<;>cases decide (0≤weir∧weir≤40)<;>cases decide (0≤spill∧spill≤100)<;>cases noz.all (nozOk rows.length)<;>rfl
structure OkB (rows : List S126) (draw : Int) (noz : List S48) (weir spill : Int) : Prop where
 r1 : 1≤rows.length
 r2 : rows.length≤12
 tab : okT rows draw = true
 rr : ∀ r ∈ rows,1≤r.f2∧r.f2≤1000
 n1 : 1≤noz.length
 n2 : noz.length≤6
 w0 : 0≤weir
 w1 : weir≤40
 s0 : 0≤spill
 s1 : spill≤100
 nn : ∀ z ∈ noz,0≤z.f0∧z.f0 < rows.length∧0≤z.f1∧z.f1≤40
theorem okB_iff {rows : List S126} {draw : Int} {noz : List S48} {weir spill : Int} : okB rows draw noz weir spill = true↔OkB rows draw noz weir spill:=by
 constructor
 ·intro h
  unfold okB at h
  simp only [Bool.and_eq_true,decide_eq_true_eq,List.all_eq_true] at h
  obtain ⟨ht,h2,h3,h4,h5⟩:=h
  have ht':=ht
  unfold okT at ht'
  simp only [Bool.and_eq_true,decide_eq_true_eq,List.all_eq_true] at ht'
  obtain ⟨h0,h1,hr⟩:=ht'
  refine ⟨by omega,by omega,ht,fun r hm=>?_,by omega,by omega,by omega,by omega,by omega,by omega,fun z hm=>?_⟩
  ·have:=hr r hm;unfold rowOk at this;simp only [Bool.and_eq_true,decide_eq_true_eq] at this;omega
  ·have:=h5 z hm;unfold nozOk at this;simp only [Bool.and_eq_true,decide_eq_true_eq] at this;omega
 ·intro h
  unfold okB
  simp only [Bool.and_eq_true,decide_eq_true_eq,List.all_eq_true]
  have a1:=h.n1;have a2:=h.n2
  refine ⟨h.tab,by omega,⟨h.w0,h.w1⟩,⟨h.s0,h.s1⟩,fun z hz=>?_⟩
  have:=h.nn z hz
  unfold nozOk;simp only [Bool.and_eq_true,decide_eq_true_eq];omega
theorem son1 {n : Int} (h0 : 0≤n) (h1 : n < 256) : strOfNums [n] = ⟨#[UInt8.ofNat n.toNat]⟩:=by simp [strOfNums]
theorem decLen (n : Nat) : ∀ m : Nat,n < 10 ^ (m + 1)→(Lib.decDigits n).length≤m + 1:=by
 intro m
 induction m generalizing n with
 | zero=>intro h;rw [dec1 (by omega)];simp
 | succ m ih =>
  intro h
  rw [Lib.decDigits]
  split
  ·simp
  ·have:=ih (n / 10) (by rw [Nat.pow_succ] at h;omega)
   simp only [List.length_append,List.length_singleton];omega
theorem decimal_eq : ∀ (m : Nat) (n : Int) (k : Nat),0≤n→n < 10 ^ (m + 1)→m≤17→2 * m + 2≤k→q1_Decimal.f k n = some (itB n):=by
 intro m
 induction m with
 | zero =>
  intro n k h0 h1 hm hk
  obtain ⟨k,rfl⟩ : ∃ q,k = q + 1 + 1:=⟨k - 2,by omega⟩
  have h1 : n < 10:=by simpa using h1
  simp only [q1_Decimal.f,q1_Decimal.j0]
  rw [if_pos (by omega),decide_eq_false (by omega),if_neg (by decide),if_neg (by omega),if_pos (by omega),w64 (by omega),Int.emod_eq_of_lt (by omega) (by omega),son1 (by omega) (by omega)]
  congr 1
  apply bl_inj
  rw [itB_nn h0,dec1 (by omega),show (48 + n).toNat = 48 + n.toNat by omega]
  rfl
 | succ m ih =>
  intro n k h0 h1 hm hk
  obtain ⟨k,rfl⟩ : ∃ q,k = q + 1 + 1:=⟨k - 2,by omega⟩
  have p : (10 : Int) ^ (m + 1 + 1) = 10 * 10 ^ (m + 1):=by rw [Int.pow_succ];omega
  have pb : (10 : Int) ^ (m + 1)≤10 ^ 18:=by
   have : (10 : Nat) ^ (m + 1)≤10 ^ 18:=Nat.pow_le_pow_right (by omega) (by omega)
   exact_mod_cast this
  have pv : (10 : Int) ^ 18 = 1000000000000000000:=by decide
  simp only [q1_Decimal.f,q1_Decimal.j0]
  rw [if_pos (by omega),decide_eq_false (by omega),if_neg (by decide),if_neg (by omega)]
  by_cases c : n < 10
  ·rw [if_pos c,w64 (by omega),Int.emod_eq_of_lt (by omega) (by omega),son1 (by omega) (by omega)]
   congr 1
   apply bl_inj
   rw [itB_nn h0,dec1 (by omega),show (48 + n).toNat = 48 + n.toNat by omega]
   rfl
  ·rw [if_neg c,Int.tdiv_eq_ediv_of_nonneg h0,Int.tmod_eq_emod_of_nonneg h0,w64 (n:=n / 10) (by omega),w64 (n:=48 + n % 10) (by omega),ih (n / 10) k (by omega) (by omega) (by omega) (by omega),Option.bind_some,Option.bind_some,Int.emod_eq_of_lt (a:=48 + n % 10) (by omega) (by omega),son1 (by omega) (by omega)]
   have hl : (itB (n / 10)).size≤100:=by
    have:=decLen (n / 10).toNat 99 (by
     have : (n / 10).toNat < 10 ^ 18:=by omega
     exact Nat.lt_of_lt_of_le this (Nat.pow_le_pow_right (by omega) (by omega)))
    rw [← bl_size,itB_nn (by omega)];omega
   rw [if_pos (by
    have e1 : (⟨#[UInt8.ofNat (48 + n % 10).toNat]⟩ : ByteArray).size = 1:=rfl
    omega)]
   congr 1
   apply bl_inj
   rw [bl_app,itB_nn h0,itB_nn (show 0≤n / 10 by omega)]
   conv=>rhs;rw [Lib.decDigits,dif_neg (by omega)]
   rw [show (n / 10).toNat = n.toNat / 10 by omega,show (48 + n % 10).toNat = 48 + n.toNat % 10 by omega]
   rfl
theorem itB_size {n : Int} (h0 : 0≤n) (h1 : n < 10000) : (itB n).size≤4:=by
 rw [← bl_size,itB_nn h0]
 exact decLen n.toNat 3 (by omega)
theorem bt_in (s : ByteArray) (p : Int) : 0≤bt s p∧bt s p≤255:=by
 unfold bt
 split
 ·rename_i h
  have:=(s[p.toNat]'h).toNat_lt
  omega
 ·omega
theorem lineB_size {wd : ByteArray} {a b : Int} (hw : wd.size≤20) (a0 : 0≤a) (a1 : a≤1000) (b0 : 0≤b) (b1 : b≤1000) : (lineB wd a b).size≤30:=by
 have:=itB_size a0 (by omega)
 have:=itB_size b0 (by omega)
 have e : spB.size = 1:=rfl
 unfold lineB
 simp only [ByteArray.size_append]
 omega
theorem row_eq {wd : ByteArray} {a b : Int} (hw : wd.size≤20) (a0 : 0≤a) (a1 : a≤1000) (b0 : 0≤b) (b1 : b≤1000) {k : Nat} (hk : 20≤k) : q1_Row.f k wd [a,b] = some (lineB wd a b):=by
 obtain ⟨k,rfl⟩ : ∃ q,k = q + 1 + 1 + 1:=⟨k - 3,by omega⟩
 have za:=itB_size a0 (by omega)
 have zb:=itB_size b0 (by omega)
 have e : (⟨#[32]⟩ : ByteArray).size = 1:=rfl
 have ra : rd [a,b] 0 = a:=rfl
 have rb : rd [a,b] 1 = b:=rfl
 unfold q1_Row.f
 simp only [q1_Row.l0]
 rw [if_pos (by simp),if_pos (by omega),if_pos (by omega),ra,decimal_eq 3 a _ a0 (by omega) (by omega) (by omega),Option.bind_some,if_pos (by rw [ByteArray.size_append];omega),w64 (n:=0 + 1) (by omega)]
 simp only [Int.zero_add]
 rw [if_pos (by simp),if_pos (by rw [ByteArray.size_append,ByteArray.size_append];omega),if_pos (by omega),rb,decimal_eq 3 b _ b0 (by omega) (by omega) (by omega),Option.bind_some,if_pos (by rw [ByteArray.size_append,ByteArray.size_append,ByteArray.size_append];omega),w64 (n:=1 + 1) (by omega),if_neg (by simp)]
 congr 1
 apply bl_inj
 simp [lineB,bl_app,spB]
theorem rdOf_drop {d : ByteArray} {xs : List ByteArray} {i : Int} (h0 : 0≤i) (h1 : i < xs.length) : xs.drop i.toNat = rdOf d xs i :: xs.drop (i.toNat + 1):=by
 have hi : i.toNat < xs.length:=by omega
 rw [List.drop_eq_getElem_cons hi];simp [rdOf,hi]
def sealGo : List ByteArray→Int→ByteArray→Int→ByteArray × Int
 | [],_,out,chk=>(out,chk)
 | x :: rest,i,out,chk=>sealGo rest (i + 1) (out ++ (x ++ nlB)) (sumB x i x.size 0 chk)
theorem seal_l1 (xs : List ByteArray) (by_ : Int) (out : ByteArray) (i : Int) (h0 : 0≤i) (h1 : i < xs.length) (hl : xs.length≤1000) (hx : (rdOf ByteArray.empty xs i).size≤1000) (ho : out.size≤100000000) {r : Option ByteArray} {N0 : Nat} (chk1 : Int)
 (hr : ∀ k,N0≤k→q1_Sealed.l0 k xs by_ (out ++ (rdOf ByteArray.empty xs i ++ nlB)) chk1 (i + 1) = r) : ∀ (d k : Nat) (p : Nat) (chk : Int),p + d = (rdOf ByteArray.empty xs i).size→N0 + d < k→sumB (rdOf ByteArray.empty xs i) i d (p : Int) chk = chk1→
 q1_Sealed.l1 k xs by_ out chk i (p : Int) = r
 | 0,k,p,chk,hp,hk,hs=>by
  obtain ⟨k,rfl⟩:=ksucc (by omega : 0 < k)
  simp only [q1_Sealed.l1]
  have e : (⟨#[10]⟩ : ByteArray).size = 1:=rfl
  rw [if_pos h0,if_pos h1,if_neg (by omega),if_pos (by omega),if_pos (by rw [ByteArray.size_append];omega),w64 (n:=i + 1) (by omega)]
  have:=hr k (by omega)
  simp only [sumB] at hs
  rw [hs]
  have e2 : out ++ (rdOf ByteArray.empty xs i ++ nlB) = out ++ rdOf ByteArray.empty xs i ++ (⟨#[10]⟩ : ByteArray):=by
   apply bl_inj;simp [bl_app,nlB]
  rw [← e2];exact this
 | d + 1,k,p,chk,hp,hk,hs=>by
  obtain ⟨k,rfl⟩:=ksucc (by omega : 0 < k)
  simp only [q1_Sealed.l1]
  have hb:=bt_in (rdOf ByteArray.empty xs i) (p : Int)
  rw [if_pos h0,if_pos h1,if_pos (by omega),if_pos (by omega),w64 (n:=bt _ _) (by omega),w64 (n:=(p : Int) + 1) (by omega),w64 (n:=i + 1) (by omega)]
  have:=seal_l1 xs by_ out i h0 h1 hl hx ho chk1 hr d k (p + 1) _ (by omega) (by omega) hs
  rw [show (((p + 1 : Nat)) : Int) = (p : Int) + 1 by omega] at this
  exact this
theorem mul_in {b p i : Int} (b0 : 0≤b) (b1 : b≤255) (p0 : 0≤p) (p1 : p≤1000) (i0 : 0≤i) (i1 : i≤1000) : 0≤b * p * i∧b * p * i≤255000000∧0≤b * p∧b * p≤255000:=by
 have a1 : 0≤b * p:=Int.mul_nonneg b0 p0
 have a2 : b * p≤255 * 1000:=Int.mul_le_mul b1 p1 p0 (by omega)
 have a3 : 0≤b * p * i:=Int.mul_nonneg a1 i0
 have a4 : b * p * i≤255000 * 1000:=Int.mul_le_mul (by omega) i1 i0 (by omega)
 omega
def sumBd (d : Nat) : Int:=255000000 * (d : Int)
theorem sumBd_succ (d : Nat) : sumBd (d + 1) = sumBd d + 255000000:=by unfold sumBd;omega
theorem sum_in (s : ByteArray) (i : Int) (i0 : 0≤i) (i1 : i≤999) (d : Nat) : ∀ (p chk : Int),0≤p→p + d≤1000→0≤chk→chk + sumBd d≤1000000000000000→0≤sumB s i d p chk∧sumB s i d p chk≤chk + sumBd d:=by
 induction d with
 | zero =>
  intro p chk p0 p1 c0 c1
  simp only [sumB,sumBd];omega
 | succ d ih =>
  intro p chk p0 p1 c0 c1
  rw [sumBd_succ] at c1 ⊢
  have sd : 0≤sumBd d:=by unfold sumBd;omega
  simp only [sumB]
  have hb:=bt_in s p
  have m:=mul_in hb.1 hb.2 (show 0≤p + 1 by omega) (show p + 1≤1000 by omega) (show 0≤i + 1 by omega) (show i + 1≤1000 by omega)
  rw [w64 (n:=bt s p * (p + 1)) (by omega),w64 (n:=bt s p * (p + 1) * (i + 1)) (by omega),w64 (n:=chk + _) (by omega)]
  have:=ih (p + 1) (chk + bt s p * (p + 1) * (i + 1)) (by omega) (by omega) (by omega) (by omega)
  omega
theorem last_eq {out : ByteArray} (ho : out.size≤10000000) {c : Int} (c0 : 0≤c) (c1 : c≤998) {k : Nat} (hk : 20≤k) {r : Option ByteArray}
 (h : r = some (lastB out c)) : (if out.size + 4≤9223372036854775807 then ((q1_Decimal.f k (wrap64 (Int.tdiv c 100))).bind fun t944=>(if (out ++ (⟨#[101,110,100,32]⟩ : ByteArray)).size + t944.size≤9223372036854775807 then ((q1_Decimal.f k (Int.tmod (wrap64 (Int.tdiv c 10)) 10)).bind fun t945=>(if ((out ++ (⟨#[101,110,100,32]⟩ : ByteArray)) ++ t944).size + t945.size≤9223372036854775807 then ((q1_Decimal.f k (Int.tmod c 10)).bind fun t946=>(if (((out ++ (⟨#[101,110,100,32]⟩ : ByteArray)) ++ t944) ++ t945).size + t946.size≤9223372036854775807 then (if ((((out ++ (⟨#[101,110,100,32]⟩ : ByteArray)) ++ t944) ++ t945) ++ t946).size + 1≤9223372036854775807 then (some (((((out ++ (⟨#[101,110,100,32]⟩ : ByteArray)) ++ t944) ++ t945) ++ t946) ++ (⟨#[10]⟩ : ByteArray))) else (none)) else (none))) else (none))) else (none))) else (none)) = r:=by
 subst h
 have e4 : (⟨#[101,110,100,32]⟩ : ByteArray).size = 4:=rfl
 have q1 : Int.tdiv c 100 = c / 100:=Int.tdiv_eq_ediv_of_nonneg c0
 have q2 : Int.tdiv c 10 = c / 10:=Int.tdiv_eq_ediv_of_nonneg c0
 have q3 : Int.tmod c 10 = c % 10:=Int.tmod_eq_emod_of_nonneg c0
 have q4 : Int.tmod (c / 10) 10 = c / 10 % 10:=Int.tmod_eq_emod_of_nonneg (by omega)
 have z1:=itB_size (n:=c / 100) (by omega) (by omega)
 have z2:=itB_size (n:=c / 10 % 10) (by omega) (by omega)
 have z3:=itB_size (n:=c % 10) (by omega) (by omega)
 rw [if_pos (by omega),q1,q2,q3,w64 (n:=c / 100) (by omega),w64 (n:=c / 10) (by omega),q4,decimal_eq 3 (c / 100) k (by omega) (by omega) (by omega) (by omega),Option.bind_some,if_pos (by rw [ByteArray.size_append];omega),decimal_eq 3 (c / 10 % 10) k (by omega) (by omega) (by omega) (by omega),Option.bind_some,if_pos (by simp only [ByteArray.size_append];omega),decimal_eq 3 (c % 10) k (by omega) (by omega) (by omega) (by omega),Option.bind_some,if_pos (by simp only [ByteArray.size_append];omega),if_pos (by simp only [ByteArray.size_append];omega)]
 unfold lastB
 rw [q1,q2,q3,q4]
 rfl
theorem seal_l0 (xs : List ByteArray) (hl : xs.length≤900) (hx : ∀ x ∈ xs,x.size≤1000) : ∀ (d k : Nat) (i : Int) (out : ByteArray) (chk : Int),0≤i→i + d = xs.length→out.size≤1001 * i→0≤chk→chk≤255000000000 * i→1002 * d + 20 < k→
 q1_Sealed.l0 k xs 127 out chk i = some (lastB (sealGo (xs.drop i.toNat) i out chk).1 ((sealGo (xs.drop i.toNat) i out chk).2.tmod 127))
 | 0,k,i,out,chk,h0,h1,ho,c0,c1,hk=>by
  obtain ⟨k,rfl⟩:=ksucc (by omega : 0 < k)
  simp only [q1_Sealed.l0]
  rw [if_neg (by omega),if_neg (by decide),List.drop_of_length_le (by omega)]
  simp only [sealGo]
  have m : Int.tmod chk 127 = chk % 127:=Int.tmod_eq_emod_of_nonneg c0
  exact last_eq (by omega) (by rw [m];omega) (by rw [m];omega) (by omega) rfl
 | d + 1,k,i,out,chk,h0,h1,ho,c0,c1,hk=>by
  obtain ⟨k,rfl⟩:=ksucc (by omega : 0 < k)
  have hm : rdOf ByteArray.empty xs i ∈ xs:=by
   have hi : i.toNat < xs.length:=by omega
   have : rdOf ByteArray.empty xs i = xs[i.toNat]:=by simp [rdOf,hi]
   rw [this];exact List.getElem_mem _
  have hz:=hx _ hm
  simp only [q1_Sealed.l0]
  rw [if_pos (by omega),rdOf_drop (d:=ByteArray.empty) h0 (by omega)]
  simp only [sealGo]
  have e : nlB.size = 1:=rfl
  have sb : sumBd (rdOf ByteArray.empty xs i).size≤255000000000:=by unfold sumBd;omega
  have hs:=sum_in (rdOf ByteArray.empty xs i) i h0 (by omega) (rdOf ByteArray.empty xs i).size 0 chk (by omega) (by omega) c0 (by omega)
  have:=seal_l1 xs 127 out i h0 (by omega) (by omega) hz (by omega) (sumB (rdOf ByteArray.empty xs i) i (rdOf ByteArray.empty xs i).size 0 chk) (N0:=1002 * d + 21) (fun k hk=>seal_l0 xs hl hx d k (i + 1) (out ++ (rdOf ByteArray.empty xs i ++ nlB)) _ (by omega) (by omega) (by rw [ByteArray.size_append,ByteArray.size_append];omega) (by omega) (by omega) (by omega)) (rdOf ByteArray.empty xs i).size k 0 chk (by omega) (by omega) rfl
  rw [show (i + 1).toNat = i.toNat + 1 by omega] at this
  exact this
theorem sealed_eq {xs : List ByteArray} (hl : xs.length≤900) (hx : ∀ x ∈ xs,x.size≤1000) {k : Nat} (hk : 1002 * xs.length + 20 < k) : q1_Sealed.f k xs 127 = some (lastB (sealGo xs 0 ByteArray.empty 0).1 ((sealGo xs 0 ByteArray.empty 0).2.tmod 127)):=by
 have:=seal_l0 xs hl hx xs.length k 0 ByteArray.empty 0 (by omega) (by omega) (by show 0≤_;omega) (by omega) (by omega) hk
 rw [Int.toNat_zero,List.drop_zero] at this
 exact this
def linesL (weir spill : Int) (noz : List S48) : List ByteArray:=lineB castleB weir spill :: noz.map fun z=>lineB nozzleB z.f0 z.f1
theorem textGo_seal : ∀ (ps : List (Int × Int)) (i : Int) (out : ByteArray) (chk : Int),0 < i→textGo ps i out chk = sealGo (ps.map fun x=>lineB nozzleB x.1 x.2) i out chk
 | [],i,out,chk,h=>rfl
 | x :: ps,i,out,chk,h=>by
  simp only [textGo,List.map_cons,sealGo]
  rw [if_neg (by omega)]
  exact textGo_seal ps (i + 1) _ _ (by omega)
theorem text_seal (weir spill : Int) (noz : List S48) : ca_text.f weir spill noz = lastB (sealGo (linesL weir spill noz) 0 ByteArray.empty 0).1 ((sealGo (linesL weir spill noz) 0 ByteArray.empty 0).2.tmod 127):=by
 unfold ca_text.f linesL
 simp only [textGo,sealGo,if_true]
 rw [textGo_seal _ _ _ _ (by omega),List.map_map]
 rfl
def okN (weir spill : Int) (noz : List S48) : Prop:=noz.length≤800∧(0≤weir∧weir≤1000∧0≤spill∧spill≤1000)∧∀ z ∈ noz,0≤z.f0∧z.f0≤1000∧0≤z.f1∧z.f1≤1000
theorem lines_size {weir spill : Int} {noz : List S48} (h : okN weir spill noz) : ∀ x ∈ linesL weir spill noz,x.size≤30:=by
 obtain ⟨h0,h1,h2⟩:=h
 intro x hx
 rcases List.mem_cons.1 hx with rfl | hx
 ·exact lineB_size (by decide) h1.1 h1.2.1 h1.2.2.1 h1.2.2.2
 ·obtain ⟨z,hz,rfl⟩:=List.mem_map.1 hx
  have:=h2 z hz
  exact lineB_size (by decide) this.1 this.2.1 this.2.2.1 this.2.2.2
theorem rprint_go (rows : List S126) (draw : Int) {weir spill : Int} {noz : List S48} (h : okN weir spill noz) : ∀ (d k : Nat) (i : Int),0≤i→i + d = noz.length→1002 * (noz.length + 1) + 50 + d < k→
 q4_Print.l0 k (lineB castleB weir spill :: (noz.take i.toNat).map fun z=>lineB nozzleB z.f0 z.f1) i rows draw noz weir spill = some (ca_text.f weir spill noz)
 | 0,k,i,h0,h1,hk=>by
  obtain ⟨k,rfl⟩:=ksucc (by omega : 0 < k)
  simp only [q4_Print.l0]
  have hl:=h.1
  rw [if_neg (by omega),List.take_of_length_le (by omega)]
  have:=sealed_eq (xs:=linesL weir spill noz) (k:=k) (by simp [linesL];omega) (fun x hx=>by have:=lines_size h x hx;omega) (by simp [linesL];omega)
  unfold linesL at this
  rw [this,Option.bind_some,text_seal]
  rfl
 | d + 1,k,i,h0,h1,hk=>by
  obtain ⟨k,rfl⟩:=ksucc (by omega : 0 < k)
  simp only [q4_Print.l0]
  have hl:=h.1
  have hi : i.toNat < noz.length:=by omega
  have hz : rd_T48 noz i = noz[i.toNat]:=by simp [rd_T48,hi]
  have hb:=h.2.2 _ (List.getElem_mem hi)
  rw [if_pos (by omega),if_pos h0,hz,show (⟨#[110,111,122,122,108,101]⟩ : ByteArray) = nozzleB from rfl,row_eq (by decide) hb.1 hb.2.1 hb.2.2.1 hb.2.2.2 (by omega),Option.bind_some,if_pos (by simp;omega),w64 (n:=i + 1) (by omega)]
  have:=rprint_go rows draw h d k (i + 1) (by omega) (by omega) (by omega)
  rw [show (i + 1).toNat = i.toNat + 1 by omega,List.take_succ_eq_append_getElem hi,List.map_append] at this
  exact this
theorem rPrint_eq (rows : List S126) (draw : Int) {weir spill : Int} {noz : List S48} (h : okN weir spill noz) {k : Nat} (hk : 1003 * (noz.length + 1) + 60 < k) : q4_Print.f k rows draw noz weir spill = some (ca_text.f weir spill noz):=by
 unfold q4_Print.f
 obtain ⟨h0,h1,h2⟩:=h
 rw [show (⟨#[99,97,115,116,108,101]⟩ : ByteArray) = castleB from rfl,row_eq (by decide) h1.1 h1.2.1 h1.2.2.1 h1.2.2.2 (by omega),Option.bind_some]
 have:=rprint_go rows draw ⟨h0,h1,h2⟩ noz.length k 0 (by omega) (by omega) (by omega)
 simpa using this
section
attribute [local go_sem] max2_int min2_int max_two min_two
set_option linter.unusedSimpArgs false
end
end Go.Proofs.YtnnmnhpeblhiiaaGreatDoor.C

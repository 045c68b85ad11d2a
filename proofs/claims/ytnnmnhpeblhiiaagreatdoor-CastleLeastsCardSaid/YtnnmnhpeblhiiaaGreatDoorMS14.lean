/- A part of the proof: the walks of the functions that it reaches. TIGHT. -/
import Derived.Test.YtnnmnhpeblhiiaaGreatDoorMS13
import Derived.Laws.EntriesVeiled
set_option linter.unusedSimpArgs false
set_option linter.unusedVariables false
namespace Go.Proofs.YtnnmnhpeblhiiaaGreatDoor.C
open Go.RowKit Go.Proofs.YtnnmnhpeblhiiaaGreatDoorW.PrintWords Go.Proofs.YtnnmnhpeblhiiaaGreatDoorW.PrintLast Go.Proofs.YtnnmnhpeblhiiaaGreatDoorW.PrintMore
set_option maxHeartbeats 16000000
set_option maxRecDepth 100000
section
attribute [local go_sem] zwg zwf zwm zwl
def l4_CastleLeasts.j0 : Nat→Int→Int→Int→Int→Int→Bool→List (S27)→List (S66)→Option (Bool)
 | 0,_,_,_,_,_,_,_,_=>none
 | k + 1,x1,x2,x3,x9,x10,x38,x766000,x766001=>if x38 = true then (if x10 = 2 then (if x9 = 0 then ((l4_known.f).bind fun t773=>(some t773)) else (none)) else (none)) else ((q4_Least.f k x766000 x766001 x1 x2 x3).bind fun t774=>(if t774 < 0 then (if x10 = 5 then (if x9 = 0 then ((l4_known.f).bind fun t775=>(some t775)) else (none)) else (none)) else (if x10 = 0 then (if x9 = t774 then ((l4_known.f).bind fun t776=>(some t776)) else (none)) else (none))))
def l4_CastleLeasts.f (k : Nat) (lA : List (S27)) (lC : List (S66)) (a1 : Int) (a2 : Int) (a3 : Int) : Option (Bool):=(l4_brief.f k lA lC).bind fun t766=>(if t766 = true then ((ca_Least.f k lA lC a1 a2 a3).bind fun bt768=>((q4_Chain.f k lA lC).bind fun t770=>(if t770 = true then ((q4_Nozzle.f lA lC a1 a2).bind fun t771=>(if t771 = true then ((q4_Cups.f a3).bind fun t772=>(l4_CastleLeasts.j0 k a1 a2 a3 bt768.1 bt768.2 (!t772) lA lC)) else (l4_CastleLeasts.j0 k a1 a2 a3 bt768.1 bt768.2 true lA lC))) else (l4_CastleLeasts.j0 k a1 a2 a3 bt768.1 bt768.2 true lA lC)))) else ((l4_known.f).bind fun t767=>(some t767)))
theorem l4_CastleLeasts.calls (k : Nat) (AX : Option Addr) (c0_0 : Nat) (lA : List (S27)) (AZ : Option Addr) (cC : Nat) (lC : List (S66)) (a1 : Int) (a2 : Int) (a3 : Int) (r : Bool) (w : World) (hra : Kd.C k27 w AX lA.length lA) (hc0_0 : lA.length≤c0_0) (hr0_1 : Kd.C k66 w AZ lC.length lC) (hc0_1 : lC.length≤cC) (h : l4_CastleLeasts.f k lA lC a1 a2 a3 = some r) :
 Calls Tryz.prog 6 #[.agg #[.slice AX lA.length c0_0,.slice AZ lC.length cC],.int .i64 a1,.int .i64 a2,.int .i64 a3] w fun e w'=>e = .returned (.bool r)∧Below w.heap.size w w':=by
 have hu59:=Tryz.underlying59
 have HRA:=am hra
 have HCA:=am hc0_0
 clear hra hc0_0
 have HRC:=am hr0_1
 have HCC:=am hc0_1
 clear hr0_1 hc0_1
 have HB:=am (Below.refl w.heap.size w)
 have H : ((l4_brief.f k lA lC).bind fun t766=>(if t766 = true then ((ca_Least.f k lA lC a1 a2 a3).bind fun bt768=>((q4_Chain.f k lA lC).bind fun t770=>(if t770 = true then ((q4_Nozzle.f lA lC a1 a2).bind fun t771=>(if t771 = true then ((q4_Cups.f a3).bind fun t772=>(l4_CastleLeasts.j0 k a1 a2 a3 bt768.1 bt768.2 (!t772) lA lC)) else (l4_CastleLeasts.j0 k a1 a2 a3 bt768.1 bt768.2 true lA lC))) else (l4_CastleLeasts.j0 k a1 a2 a3 bt768.1 bt768.2 true lA lC)))) else ((l4_known.f).bind fun t767=>(some t767)))) = some r:=h
 clear h
 replace H:=obm H
 obtain ⟨t766,A50,H⟩:=H
 replace H : (if t766 = true then ((ca_Least.f k lA lC a1 a2 a3).bind fun bt768=>((q4_Chain.f k lA lC).bind fun t770=>(if t770 = true then ((q4_Nozzle.f lA lC a1 a2).bind fun t771=>(if t771 = true then ((q4_Cups.f a3).bind fun t772=>(l4_CastleLeasts.j0 k a1 a2 a3 bt768.1 bt768.2 (!t772) lA lC)) else (l4_CastleLeasts.j0 k a1 a2 a3 bt768.1 bt768.2 true lA lC))) else (l4_CastleLeasts.j0 k a1 a2 a3 bt768.1 bt768.2 true lA lC)))) else ((l4_known.f).bind fun t767=>(some t767))) = some r:=H
 have A5:=am A50
 clear A50
 by_cases c6 : t766 = true
 case neg =>
  replace c6:=Bool.eq_false_iff.mpr c6
  subst c6
  replace H : ((l4_known.f).bind fun t767=>(some t767)) = some r:=by rw [if_neg (show ¬ (false = true) by decide)] at H;exact H
  replace H:=obm H
  obtain ⟨t767,A480,H⟩:=H
  replace H : (some t767) = some r:=H
  have A48:=am A480
  clear A480
  obtain rfl:=Option.some.inj H
  go_enter Tryz.func6,Tryz.ntmps6
  go_wp2_with (first | ((refine zqm (N:=4) rfl ?_);refine zqk rfl (N:=4) rfl (cs:=#[.slice AX lA.length c0_0,.slice AZ lC.length cC]) (t:=59) ?hr ?_;(case hr=>go_simp;try rfl);intro gb765 hg w49 hbox hb;have BK765:=am (hbox);have GW765:=am (zqr (HB.out) hg);have GE765:=am (zqr (HB.out) hg);replace HB:=am (zqh (HB.out) hb);clear hb hbox hg;obtain ⟨hcz50_0,hcz50_1⟩:=cO2 BK765.out) | ((with_reducible refine zqq (f:=30) rfl ?_);refine zq8 (some 13) rfl rfl Tryz.func30 (by kernel_rfl) rfl #[.agg #[.slice AX lA.length c0_0,.slice AZ lC.length cC]] rfl (by (try simp only [List.map_toArray,List.map_cons,List.map_nil]);first | done | rfl | (simp only [List.length_drop,List.length_take];rfl)) ?_;(with_reducible refine (l4_brief.calls k _ _ lA _ _ lC false _ ?side1 ?side2 ?side3 ?side4 A5.out).mono ?_);(case side1=>exact kC HRA.out HB.out);(case side2=>exact HCA.out);(case side3=>exact kC HRC.out HB.out);(case side4=>exact HCC.out);rintro e w51 ⟨rfl,hb⟩;refine ⟨_,rfl,?_⟩;replace BK765:=(kmv hb BK765);replace HB:=am (zqh (HB.out) hb);(try clear hb);(try clear hb2);(try clear hk);(try clear hi)) | ((with_reducible refine zqq (f:=19) rfl ?_);refine zq8 (some 15) rfl rfl Tryz.func19 (by kernel_rfl) rfl #[] rfl (by (try simp only [List.map_toArray,List.map_cons,List.map_nil]);first | done | rfl | (simp only [List.length_drop,List.length_take];rfl)) ?_;(with_reducible refine (l4_known.calls  t767 _ A48.out).mono ?_);rintro e w52 ⟨rfl,hb⟩;refine ⟨_,rfl,?_⟩;replace BK765:=(kmv hb BK765);replace HB:=am (zqh (HB.out) hb);(try clear hb);(try clear hb2);(try clear hk);(try clear hi)))
  go_ret
  exact ⟨by first | rfl | (simp [*]<;>rfl),HB.out⟩
 subst c6
 replace H : ((ca_Least.f k lA lC a1 a2 a3).bind fun bt768=>((q4_Chain.f k lA lC).bind fun t770=>(if t770 = true then ((q4_Nozzle.f lA lC a1 a2).bind fun t771=>(if t771 = true then ((q4_Cups.f a3).bind fun t772=>(l4_CastleLeasts.j0 k a1 a2 a3 bt768.1 bt768.2 (!t772) lA lC)) else (l4_CastleLeasts.j0 k a1 a2 a3 bt768.1 bt768.2 true lA lC))) else (l4_CastleLeasts.j0 k a1 a2 a3 bt768.1 bt768.2 true lA lC)))) = some r:=by rw [if_pos rfl] at H;exact H
 replace H:=obm H
 obtain ⟨⟨t768,t769⟩,A70,H⟩:=H
 replace H : ((q4_Chain.f k lA lC).bind fun t770=>(if t770 = true then ((q4_Nozzle.f lA lC a1 a2).bind fun t771=>(if t771 = true then ((q4_Cups.f a3).bind fun t772=>(l4_CastleLeasts.j0 k a1 a2 a3 t768 t769 (!t772) lA lC)) else (l4_CastleLeasts.j0 k a1 a2 a3 t768 t769 true lA lC))) else (l4_CastleLeasts.j0 k a1 a2 a3 t768 t769 true lA lC))) = some r:=H
 have A7:=am A70
 clear A70
 have HC8:=am H
 clear H
 go_enter Tryz.func6,Tryz.ntmps6
 go_upto_region 4 with (first | ((refine zqm (N:=4) rfl ?_);refine zqk rfl (N:=4) rfl (cs:=#[.slice AX lA.length c0_0,.slice AZ lC.length cC]) (t:=59) ?hr ?_;(case hr=>go_simp;try rfl);intro gb765 hg w9 hbox hb;have BK765:=am (hbox);have GW765:=am (zqr (HB.out) hg);have GE765:=am (zqr (HB.out) hg);replace HB:=am (zqh (HB.out) hb);clear hb hbox hg;obtain ⟨hcz10_0,hcz10_1⟩:=cO2 BK765.out) | ((with_reducible refine zqq (f:=30) rfl ?_);refine zq8 (some 13) rfl rfl Tryz.func30 (by kernel_rfl) rfl #[.agg #[.slice AX lA.length c0_0,.slice AZ lC.length cC]] rfl (by (try simp only [List.map_toArray,List.map_cons,List.map_nil]);first | done | rfl | (simp only [List.length_drop,List.length_take];rfl)) ?_;(with_reducible refine (l4_brief.calls k _ _ lA _ _ lC true _ ?side1 ?side2 ?side3 ?side4 A5.out).mono ?_);(case side1=>exact kC HRA.out HB.out);(case side2=>exact HCA.out);(case side3=>exact kC HRC.out HB.out);(case side4=>exact HCC.out);rintro e w11 ⟨rfl,hb⟩;refine ⟨_,rfl,?_⟩;replace BK765:=(kmv hb BK765);replace HB:=am (zqh (HB.out) hb);(try clear hb);(try clear hb2);(try clear hk);(try clear hi);obtain ⟨hcz12_0,hcz12_1⟩:=cO2 BK765.out) | ((with_reducible refine zqq (f:=35) rfl ?_);refine zq8 (some 21) rfl rfl Tryz.func35 (by kernel_rfl) rfl #[.agg #[.slice AX lA.length c0_0,.slice AZ lC.length cC],.int .i64 a1,.int .i64 a2,.int .i64 a3] rfl (by (try simp only [List.map_toArray,List.map_cons,List.map_nil]);first | done | rfl | (simp only [List.length_drop,List.length_take];rfl)) ?_;(with_reducible refine (ca_Least.calls k _ _ lA _ _ lC a1 a2 a3 t768 t769 _ ?side1 ?side2 ?side3 ?side4 A7.out).mono ?_);(case side1=>exact kC HRA.out HB.out);(case side2=>exact HCA.out);(case side3=>exact kC HRC.out HB.out);(case side4=>exact HCC.out);rintro e w13 ⟨rfl,hb⟩;refine ⟨_,rfl,?_⟩;replace BK765:=(kmv hb BK765);replace HB:=am (zqh (HB.out) hb);(try clear hb);(try clear hb2);(try clear hk);(try clear hi)))
 (try simp only [Act.put,List.setIfInBounds_toArray,List.set_cons_zero,List.set_cons_succ])
 go_cut [38] (fun v38 wc=>∃ (kq : Nat) (x38_7 : Bool),v38 = .bool x38_7∧zqg (l4_CastleLeasts.j0 kq a1 a2 a3 t768 t769 x38_7 lA lC = some r)∧zqg (kq≤k)∧zqg (wc.heap[gb765]? = some (.cells #[(.slice AX lA.length c0_0),(.slice AZ lC.length cC)] 59 (0,0)))∧zqg (Below w.heap.size w wc))
 case first =>
  have H:=HC8.out
  clear HC8
  replace H:=obm H
  obtain ⟨t770,A140,H⟩:=H
  replace H : (if t770 = true then ((q4_Nozzle.f lA lC a1 a2).bind fun t771=>(if t771 = true then ((q4_Cups.f a3).bind fun t772=>(l4_CastleLeasts.j0 k a1 a2 a3 t768 t769 (!t772) lA lC)) else (l4_CastleLeasts.j0 k a1 a2 a3 t768 t769 true lA lC))) else (l4_CastleLeasts.j0 k a1 a2 a3 t768 t769 true lA lC)) = some r:=H
  have A14:=am A140
  clear A140
  by_cases c15 : t770 = true
  case neg =>
   replace c15:=Bool.eq_false_iff.mpr c15
   subst c15
   replace H : (l4_CastleLeasts.j0 k a1 a2 a3 t768 t769 true lA lC) = some r:=by rw [if_neg (show ¬ (false = true) by decide)] at H;exact H
   replace H':=am H
   obtain ⟨hcz27_0,hcz27_1⟩:=cO2 BK765.out
   go_wp2_with (first | ((with_reducible refine zqq (f:=31) rfl ?_);refine zq8 (some 25) rfl rfl Tryz.func31 (by kernel_rfl) rfl #[.agg #[.slice AX lA.length c0_0,.slice AZ lC.length cC]] rfl (by (try simp only [List.map_toArray,List.map_cons,List.map_nil]);first | done | rfl | (simp only [List.length_drop,List.length_take];rfl)) ?_;(with_reducible refine (q4_Chain.calls k _ _ lA _ _ lC false _ ?side1 ?side2 ?side3 ?side4 A14.out).mono ?_);(case side1=>exact kC HRA.out HB.out);(case side2=>exact HCA.out);(case side3=>exact kC HRC.out HB.out);(case side4=>exact HCC.out);rintro e w28 ⟨rfl,hb⟩;refine ⟨_,rfl,?_⟩;replace BK765:=(kmv hb BK765);replace HB:=am (zqh (HB.out) hb);(try clear hb);(try clear hb2);(try clear hk);(try clear hi)))
   go_meet
   case rel=>exact ⟨_,(true),(by first | rfl | (simp;done) | (simp [*];done)),H',⟨by first | omega | exact Nat.le_refl _⟩,⟨BK765.out⟩,⟨HB.out⟩⟩
  subst c15
  replace H : ((q4_Nozzle.f lA lC a1 a2).bind fun t771=>(if t771 = true then ((q4_Cups.f a3).bind fun t772=>(l4_CastleLeasts.j0 k a1 a2 a3 t768 t769 (!t772) lA lC)) else (l4_CastleLeasts.j0 k a1 a2 a3 t768 t769 true lA lC))) = some r:=by rw [if_pos rfl] at H;exact H
  replace H:=obm H
  obtain ⟨t771,A160,H⟩:=H
  replace H : (if t771 = true then ((q4_Cups.f a3).bind fun t772=>(l4_CastleLeasts.j0 k a1 a2 a3 t768 t769 (!t772) lA lC)) else (l4_CastleLeasts.j0 k a1 a2 a3 t768 t769 true lA lC)) = some r:=H
  have A16:=am A160
  clear A160
  by_cases c17 : t771 = true
  case neg =>
   replace c17:=Bool.eq_false_iff.mpr c17
   subst c17
   replace H : (l4_CastleLeasts.j0 k a1 a2 a3 t768 t769 true lA lC) = some r:=by rw [if_neg (show ¬ (false = true) by decide)] at H;exact H
   replace H':=am H
   obtain ⟨hcz23_0,hcz23_1⟩:=cO2 BK765.out
   go_wp2_with (first | ((with_reducible refine zqq (f:=31) rfl ?_);refine zq8 (some 25) rfl rfl Tryz.func31 (by kernel_rfl) rfl #[.agg #[.slice AX lA.length c0_0,.slice AZ lC.length cC]] rfl (by (try simp only [List.map_toArray,List.map_cons,List.map_nil]);first | done | rfl | (simp only [List.length_drop,List.length_take];rfl)) ?_;(with_reducible refine (q4_Chain.calls k _ _ lA _ _ lC true _ ?side1 ?side2 ?side3 ?side4 A14.out).mono ?_);(case side1=>exact kC HRA.out HB.out);(case side2=>exact HCA.out);(case side3=>exact kC HRC.out HB.out);(case side4=>exact HCC.out);rintro e w24 ⟨rfl,hb⟩;refine ⟨_,rfl,?_⟩;replace BK765:=(kmv hb BK765);replace HB:=am (zqh (HB.out) hb);(try clear hb);(try clear hb2);(try clear hk);(try clear hi);obtain ⟨hcz25_0,hcz25_1⟩:=cO2 BK765.out) | (go_at_call 36;(with_reducible refine (q4_Nozzle.calls _ _ lA _ _ lC a1 a2 false _ ?side1 ?side2 ?side3 ?side4 A16.out).mono ?_);(case side1=>exact kC HRA.out HB.out);(case side2=>exact HCA.out);(case side3=>exact kC HRC.out HB.out);(case side4=>exact HCC.out);rintro e w26 ⟨rfl,hb⟩;replace BK765:=(kmv hb BK765);replace HB:=am (zqh (HB.out) hb);(try clear hb);(try clear hb2);(try clear hk);(try clear hi)))
   go_meet
   case rel=>exact ⟨_,(true),(by first | rfl | (simp;done) | (simp [*];done)),H',⟨by first | omega | exact Nat.le_refl _⟩,⟨BK765.out⟩,⟨HB.out⟩⟩
  subst c17
  replace H : ((q4_Cups.f a3).bind fun t772=>(l4_CastleLeasts.j0 k a1 a2 a3 t768 t769 (!t772) lA lC)) = some r:=by rw [if_pos rfl] at H;exact H
  replace H:=obm H
  obtain ⟨t772,A180,H⟩:=H
  replace H : (l4_CastleLeasts.j0 k a1 a2 a3 t768 t769 (!t772) lA lC) = some r:=H
  have A18:=am A180
  clear A180
  replace H':=am H
  obtain ⟨hcz19_0,hcz19_1⟩:=cO2 BK765.out
  go_wp2_with (first | ((with_reducible refine zqq (f:=31) rfl ?_);refine zq8 (some 25) rfl rfl Tryz.func31 (by kernel_rfl) rfl #[.agg #[.slice AX lA.length c0_0,.slice AZ lC.length cC]] rfl (by (try simp only [List.map_toArray,List.map_cons,List.map_nil]);first | done | rfl | (simp only [List.length_drop,List.length_take];rfl)) ?_;(with_reducible refine (q4_Chain.calls k _ _ lA _ _ lC true _ ?side1 ?side2 ?side3 ?side4 A14.out).mono ?_);(case side1=>exact kC HRA.out HB.out);(case side2=>exact HCA.out);(case side3=>exact kC HRC.out HB.out);(case side4=>exact HCC.out);rintro e w20 ⟨rfl,hb⟩;refine ⟨_,rfl,?_⟩;replace BK765:=(kmv hb BK765);replace HB:=am (zqh (HB.out) hb);(try clear hb);(try clear hb2);(try clear hk);(try clear hi);obtain ⟨hcz21_0,hcz21_1⟩:=cO2 BK765.out) | (go_at_call 36;(with_reducible refine (q4_Nozzle.calls _ _ lA _ _ lC a1 a2 true _ ?side1 ?side2 ?side3 ?side4 A16.out).mono ?_);(case side1=>exact kC HRA.out HB.out);(case side2=>exact HCA.out);(case side3=>exact kC HRC.out HB.out);(case side4=>exact HCC.out);rintro e w22 ⟨rfl,hb⟩;replace BK765:=(kmv hb BK765);replace HB:=am (zqh (HB.out) hb);(try clear hb);(try clear hb2);(try clear hk);(try clear hi)) | (go_at_call 17;(with_reducible refine (q4_Cups.calls a3 t772 _ A18.out).mono ?_);rintro e w' ⟨rfl,⟨nd,rfl⟩⟩))
  go_meet
  case rel=>exact ⟨_,(!t772),(by first | rfl | (simp;done) | (simp [*];done)),H',⟨by first | omega | exact Nat.le_refl _⟩,⟨BK765.out⟩,⟨zqa HB.out _⟩⟩
 case rest =>
  clear HC8
  obtain ⟨kq,x38_7,rfl,HA,HJ7,BK765,HB⟩:=hcut
  cases kq with
  | zero=>exact absurd HA.out (by simp [l4_CastleLeasts.j0])
  | succ kj7 =>
   have H:=HA.out
   clear HA
   simp only [l4_CastleLeasts.j0] at H
   by_cases c29 : x38_7 = true
   ·subst c29
    replace H : (if t769 = 2 then (if t768 = 0 then ((l4_known.f).bind fun t773=>(some t773)) else (none)) else (none)) = some r:=by rw [if_pos rfl] at H;exact H
    by_cases c30 : t769 = 2
    case neg =>
     rw [if_neg c30] at H
     exact absurd H (by simp)
    rw [if_pos c30] at H
    have c30b0 : (t769 == 2) = true:=beq_iff_eq.mpr c30
    have c30b1 : (t769 != 2) = false:=bne_eq_false_iff_eq.mpr c30
    clear c30
    by_cases c31 : t768 = 0
    case neg =>
     rw [if_neg c31] at H
     exact absurd H (by simp)
    rw [if_pos c31] at H
    have c31b0 : (t768 == 0) = true:=beq_iff_eq.mpr c31
    have c31b1 : (t768 != 0) = false:=bne_eq_false_iff_eq.mpr c31
    clear c31
    replace H:=obm H
    obtain ⟨t773,A320,H⟩:=H
    replace H : (some t773) = some r:=H
    have A32:=am A320
    clear A320
    obtain rfl:=Option.some.inj H
    go_wp2_with (first | (go_at_call 19;(with_reducible refine (l4_known.calls  t773 _ A32.out).mono ?_);rintro e w33 ⟨rfl,hb⟩;replace BK765:=(kmv hb BK765);replace HB:=am (zqh (HB.out) hb);(try clear hb);(try clear hb2);(try clear hk);(try clear hi)))
    go_ret
    exact ⟨by first | rfl | (simp [*]<;>rfl),HB.out⟩
   ·replace c29:=Bool.eq_false_iff.mpr c29
    subst c29
    replace H : ((q4_Least.f kj7 lA lC a1 a2 a3).bind fun t774=>(if t774 < 0 then (if t769 = 5 then (if t768 = 0 then ((l4_known.f).bind fun t775=>(some t775)) else (none)) else (none)) else (if t769 = 0 then (if t768 = t774 then ((l4_known.f).bind fun t776=>(some t776)) else (none)) else (none)))) = some r:=by rw [if_neg (show ¬ (false = true) by decide)] at H;exact H
    replace H:=obm H
    obtain ⟨t774,A340,H⟩:=H
    replace H : (if t774 < 0 then (if t769 = 5 then (if t768 = 0 then ((l4_known.f).bind fun t775=>(some t775)) else (none)) else (none)) else (if t769 = 0 then (if t768 = t774 then ((l4_known.f).bind fun t776=>(some t776)) else (none)) else (none))) = some r:=H
    have A34:=am A340
    clear A340
    by_cases c35 : t774 < 0
    ·rw [if_pos c35] at H
     have c35b0 : decide (t774 < 0) = true:=decide_eq_true c35
     clear c35
     by_cases c36 : t769 = 5
     case neg =>
      rw [if_neg c36] at H
      exact absurd H (by simp)
     rw [if_pos c36] at H
     have c36b0 : (t769 == 5) = true:=beq_iff_eq.mpr c36
     have c36b1 : (t769 != 5) = false:=bne_eq_false_iff_eq.mpr c36
     clear c36
     by_cases c37 : t768 = 0
     case neg =>
      rw [if_neg c37] at H
      exact absurd H (by simp)
     rw [if_pos c37] at H
     have c37b0 : (t768 == 0) = true:=beq_iff_eq.mpr c37
     have c37b1 : (t768 != 0) = false:=bne_eq_false_iff_eq.mpr c37
     clear c37
     replace H:=obm H
     obtain ⟨t775,A380,H⟩:=H
     replace H : (some t775) = some r:=H
     have A38:=am A380
     clear A380
     obtain rfl:=Option.some.inj H
     obtain ⟨hcz39_0,hcz39_1⟩:=cO2 BK765.out
     go_wp2_with (first | ((with_reducible refine zqq (f:=37) rfl ?_);refine zq8 (some 52) rfl rfl Tryz.func37 (by kernel_rfl) rfl #[.agg #[.slice AX lA.length c0_0,.slice AZ lC.length cC],.int .i64 a1,.int .i64 a2,.int .i64 a3] rfl (by (try simp only [List.map_toArray,List.map_cons,List.map_nil]);first | done | rfl | (simp only [List.length_drop,List.length_take];rfl)) ?_;(with_reducible refine (q4_Least.calls kj7 _ _ lA _ _ lC a1 a2 a3 t774 _ ?side1 ?side2 ?side3 ?side4 A34.out).mono ?_);(case side1=>exact kC HRA.out HB.out);(case side2=>exact HCA.out);(case side3=>exact kC HRC.out HB.out);(case side4=>exact HCC.out);rintro e w40 ⟨rfl,hb⟩;refine ⟨_,rfl,?_⟩;replace BK765:=(kmv hb BK765);replace HB:=am (zqh (HB.out) hb);(try clear hb);(try clear hb2);(try clear hk);(try clear hi)) | (go_at_call 19;(with_reducible refine (l4_known.calls  t775 _ A38.out).mono ?_);rintro e w41 ⟨rfl,hb⟩;replace BK765:=(kmv hb BK765);replace HB:=am (zqh (HB.out) hb);(try clear hb);(try clear hb2);(try clear hk);(try clear hi)))
     go_ret
     exact ⟨by first | rfl | (simp [*]<;>rfl),HB.out⟩
    ·rw [if_neg c35] at H
     have c35b0 : decide (t774 < 0) = false:=decide_eq_false c35
     clear c35
     by_cases c42 : t769 = 0
     case neg =>
      rw [if_neg c42] at H
      exact absurd H (by simp)
     rw [if_pos c42] at H
     have c42b0 : (t769 == 0) = true:=beq_iff_eq.mpr c42
     have c42b1 : (t769 != 0) = false:=bne_eq_false_iff_eq.mpr c42
     clear c42
     by_cases c43 : t768 = t774
     case neg =>
      rw [if_neg c43] at H
      exact absurd H (by simp)
     rw [if_pos c43] at H
     have c43b0 : (t768 == t774) = true:=beq_iff_eq.mpr c43
     have c43b1 : (t768 != t774) = false:=bne_eq_false_iff_eq.mpr c43
     clear c43
     replace H:=obm H
     obtain ⟨t776,A440,H⟩:=H
     replace H : (some t776) = some r:=H
     have A44:=am A440
     clear A440
     obtain rfl:=Option.some.inj H
     obtain ⟨hcz45_0,hcz45_1⟩:=cO2 BK765.out
     go_wp2_with (first | ((with_reducible refine zqq (f:=37) rfl ?_);refine zq8 (some 52) rfl rfl Tryz.func37 (by kernel_rfl) rfl #[.agg #[.slice AX lA.length c0_0,.slice AZ lC.length cC],.int .i64 a1,.int .i64 a2,.int .i64 a3] rfl (by (try simp only [List.map_toArray,List.map_cons,List.map_nil]);first | done | rfl | (simp only [List.length_drop,List.length_take];rfl)) ?_;(with_reducible refine (q4_Least.calls kj7 _ _ lA _ _ lC a1 a2 a3 t774 _ ?side1 ?side2 ?side3 ?side4 A34.out).mono ?_);(case side1=>exact kC HRA.out HB.out);(case side2=>exact HCA.out);(case side3=>exact kC HRC.out HB.out);(case side4=>exact HCC.out);rintro e w46 ⟨rfl,hb⟩;refine ⟨_,rfl,?_⟩;replace BK765:=(kmv hb BK765);replace HB:=am (zqh (HB.out) hb);(try clear hb);(try clear hb2);(try clear hk);(try clear hi)) | (go_at_call 19;(with_reducible refine (l4_known.calls  t776 _ A44.out).mono ?_);rintro e w47 ⟨rfl,hb⟩;replace BK765:=(kmv hb BK765);replace HB:=am (zqh (HB.out) hb);(try clear hb);(try clear hb2);(try clear hk);(try clear hi)))
     go_ret
     exact ⟨by first | rfl | (simp [*]<;>rfl),HB.out⟩
end
section
attribute [local go_sem] zwg zwf zwm zwl
end
theorem w64 {n : Int} (h : -9223372036854775808≤n∧n≤9223372036854775807) : wrap64 n = n:=by unfold wrap64;omega
theorem ksucc {k : Nat} (h : 0 < k) : ∃ m,k = m + 1:=⟨k - 1,by omega⟩
def rowOk (r : S126) : Bool:=decide (1≤r.f0∧r.f0≤60) && (decide (1≤r.f1∧r.f1≤60) && decide (1≤r.f2∧r.f2≤1000))
def nozOk (n : Int) (z : S48) : Bool:=decide (0≤z.f0∧z.f0≤n - 1) && decide (0≤z.f1∧z.f1≤40)
def okT (rows : List S126) (draw : Int) : Bool:=decide (1≤(rows.length : Int)∧(rows.length : Int)≤12) && (decide (0≤draw∧draw≤100) && rows.all rowOk)
def okB (rows : List S126) (draw : Int) (noz : List S48) (weir spill : Int) : Bool:=
 okT rows draw && (decide (1≤(noz.length : Int)∧(noz.length : Int)≤6) && (decide (0≤weir∧weir≤40) && (decide (0≤spill∧spill≤100) && noz.all (nozOk rows.length))))
theorem c_in (a b c : Int) : ca_in.f a b c = some (decide (b≤a∧a≤c)):=by
 unfold ca_in.f
 by_cases h : a ≥ b
 ·rw [if_pos h];have : b≤a:=h;simp [this]
 ·rw [if_neg h];have : ¬ b≤a:=h;simp [this]
theorem n_in (a b c : Int) : nz_in.f a b c = some (decide (b≤a∧a≤c)):=c_in a b c
theorem r4_in (a b c : Int) : q4_in.f a b c = some (decide (b≤a∧a≤c)):=c_in a b c
theorem r3_in (a b c : Int) : q3_in.f a b c = some (decide (b≤a∧a≤c)):=c_in a b c
theorem c_height (a : Int) : ca_isHeight.f a = some (decide (0≤a∧a≤40)):=by unfold ca_isHeight.f;rw [c_in];rfl
theorem c_flow (a : Int) : ca_isFlow.f a = some (decide (0≤a∧a≤10000)):=by unfold ca_isFlow.f;rw [c_in];rfl
theorem r_height (a : Int) : q4_Height.f a = some (decide (0≤a∧a≤40)):=by unfold q4_Height.f;rw [r4_in];rfl
theorem r_cups (a : Int) : q4_Cups.f a = some (decide (0≤a∧a≤10000)):=by unfold q4_Cups.f;rw [r4_in];rfl
theorem zbf {α : Type} {q : α→Option Bool} {p : α→Bool} (h : ∀ x,q x = some (p x)) : ∀ xs,anyM q xs = some (xs.any p)
 | []=>rfl
 | x :: xs=>by
  simp only [anyM,h,Option.bind_some,List.any_cons,zbf h xs]
  cases p x<;>rfl
theorem row_bad (x : S126) : nz_isTable_1.f x.f0 x.f1 x.f2 = some (!rowOk x):=by
 unfold nz_isTable_1.f rowOk
 simp only [n_in,Option.bind_some]
 cases decide (1≤x.f0∧x.f0≤60)<;>cases decide (1≤x.f1∧x.f1≤60)<;>cases decide (1≤x.f2∧x.f2≤1000)<;>rfl
theorem noz_bad {rows : List S126} (hl : rows.length≤1000) (x : S48) : ca_isBasin_1.f rows x = some (!nozOk rows.length x):=by
 unfold ca_isBasin_1.f nozOk
 rw [w64 (by omega)]
 simp only [c_in,c_height,Option.bind_some]
 cases decide (0≤x.f0∧x.f0≤(rows.length : Int) - 1)<;>cases decide (0≤x.f1∧x.f1≤40)<;>rfl
theorem zmz (rows : List S126) (draw : Int) : nz_isTable.f rows draw = some (okT rows draw):=by
 unfold nz_isTable.f okT cf_isTable.f
 rw [zbf row_bad,← List.not_all_eq_any_not]
 simp only [n_in,Option.bind_some]
 cases decide (1≤(rows.length : Int)∧(rows.length : Int)≤12)<;>cases decide (0≤draw∧draw≤100)<;>cases rows.all rowOk<;>rfl
theorem isBasin_eq {rows : List S126} {draw : Int} {noz : List S48} {weir spill : Int} (hl : rows.length≤1000) : ca_isBasin.f rows draw noz weir spill = some (okB rows draw noz weir spill):=by
 unfold ca_isBasin.f okB nz_Check.f
 rw [zbf (noz_bad hl),← List.not_all_eq_any_not,zmz]
 simp only [c_in,c_height,Option.bind_some]
 cases okT rows draw<;>cases decide (1≤(noz.length : Int)∧(noz.length : Int)≤6)<;>cases decide (0≤weir∧weir≤40)<;>cases decide (0≤spill∧spill≤100)<;>cases noz.all (nozOk rows.length)<;>rfl
theorem zb6 (rows : List S126) (draw : Int) (hl : rows.length≤1000) : ∀ (d k : Nat) (i : Int),0≤i→i + d = rows.length→d < k→
 q3_Table.l0 k i rows draw = some ((rows.drop i.toNat).all rowOk && (decide (1≤(rows.length : Int)∧(rows.length : Int)≤12) && decide (0≤draw∧draw≤100)))
 | 0,k,i,h0,hi,hk=>by
  obtain ⟨k,rfl⟩:=ksucc hk
  simp only [q3_Table.l0]
  rw [if_neg (by omega),List.drop_of_length_le (by omega)]
  simp only [r3_in,Option.bind_some,List.all_nil,Bool.true_and]
  cases decide (1≤(rows.length : Int)∧(rows.length : Int)≤12)<;>cases decide (0≤draw∧draw≤100)<;>rfl
 | d + 1,k,i,h0,hi,hk=>by
  obtain ⟨k,rfl⟩:=ksucc (by omega : 0 < k)
  simp only [q3_Table.l0]
  rw [if_pos (by omega),if_pos h0,w64 (by omega),zb6 rows draw hl d k (i + 1) (by omega) (by omega) (by omega),zx7 z126 rows i h0 (by omega),List.all_cons]
  show _ = some ((rowOk (zq2 rows i) && _) && _)
  unfold rowOk
  simp only [r3_in,Option.bind_some]
  cases decide (1≤(zq2 rows i).f0∧(zq2 rows i).f0≤60)<;>cases decide (1≤(zq2 rows i).f1∧(zq2 rows i).f1≤60)<;>cases decide (1≤(zq2 rows i).f2∧(zq2 rows i).f2≤1000)<;>rfl
theorem refTable_eq {rows : List S126} {draw : Int} {k : Nat} (hl : rows.length≤1000) (hk : rows.length < k) : q3_Table.f k rows draw = some (okT rows draw):=by
 unfold q3_Table.f okT
 rw [zb6 rows draw hl rows.length k 0 (by omega) (by omega) hk]
 show some (rows.all rowOk && _) = _
 cases decide (1≤(rows.length : Int)∧(rows.length : Int)≤12)<;>cases decide (0≤draw∧draw≤100)<;>cases rows.all rowOk<;>rfl
theorem zb7 (rows : List S126) (draw : Int) (noz : List S48) (weir spill : Int) (hl : rows.length≤1000) (hn : noz.length≤1000) : ∀ (d k : Nat) (i : Int),0≤i→i + d = noz.length→rows.length + d + 1 < k→
 q4_Basin.l0 k i rows draw noz weir spill = some ((noz.drop i.toNat).all (nozOk rows.length) && (okT rows draw && (decide (1≤(noz.length : Int)∧(noz.length : Int)≤6) && (decide (0≤weir∧weir≤40) && decide (0≤spill∧spill≤100)))))
 | 0,k,i,h0,hi,hk=>by
  obtain ⟨k,rfl⟩:=ksucc (by omega : 0 < k)
  simp only [q4_Basin.l0]
  rw [if_neg (by omega),List.drop_of_length_le (by omega),refTable_eq hl (by omega)]
  simp only [r4_in,r_height,Option.bind_some,List.all_nil,Bool.true_and]
  cases okT rows draw<;>cases decide (1≤(noz.length : Int)∧(noz.length : Int)≤6)<;>cases decide (0≤weir∧weir≤40)<;>cases decide (0≤spill∧spill≤100)<;>rfl
 | d + 1,k,i,h0,hi,hk=>by
  obtain ⟨k,rfl⟩:=ksucc (by omega : 0 < k)
  simp only [q4_Basin.l0]
  rw [if_pos (by omega),if_pos h0,w64 (n:=i + 1) (by omega),w64 (by omega),zb7 rows draw noz weir spill hl hn d k (i + 1) (by omega) (by omega) (by omega),zx7 z48 noz i h0 (by omega),List.all_cons]
  show _ = some ((nozOk rows.length (zqt noz i) && _) && _)
  unfold nozOk
  simp only [r4_in,r_height,Option.bind_some]
  cases decide (0≤(zqt noz i).f0∧(zqt noz i).f0≤(rows.length : Int) - 1)<;>cases decide (0≤(zqt noz i).f1∧(zqt noz i).f1≤40)<;>rfl
theorem refBasin_eq {rows : List S126} {draw : Int} {noz : List S48} {weir spill : Int} {k : Nat} (hl : rows.length≤1000) (hn : noz.length≤1000) (hk : rows.length + noz.length + 1 < k) :
 q4_Basin.f k rows draw noz weir spill = some (okB rows draw noz weir spill):=by
 unfold q4_Basin.f okB
 rw [zb7 rows draw noz weir spill hl hn noz.length k 0 (by omega) (by omega) hk]
 show some (noz.all (nozOk rows.length) && _) = _
 cases okT rows draw<;>cases decide (1≤(noz.length : Int)∧(noz.length : Int)≤6)<;>cases decide (0≤weir∧weir≤40)<;>cases decide (0≤spill∧spill≤100)<;>cases noz.all (nozOk rows.length)<;>rfl
structure OkB (rows : List S126) (draw : Int) (noz : List S48) (weir spill : Int) : Prop where
 r1 : 1≤rows.length
 r2 : rows.length≤12
 tab : okT rows draw = true
 rr : ∀ r ∈ rows,1≤r.f2∧r.f2≤1000
 n1 : 1≤noz.length
 n2 : noz.length≤6
 w0 : 0≤weir
 w1 : weir≤40
 s0 : 0≤spill
 s1 : spill≤100
 nn : ∀ z ∈ noz,0≤z.f0∧z.f0 < rows.length∧0≤z.f1∧z.f1≤40
theorem okB_iff {rows : List S126} {draw : Int} {noz : List S48} {weir spill : Int} : okB rows draw noz weir spill = true↔OkB rows draw noz weir spill:=by
 constructor
 ·intro h
  unfold okB at h
  simp only [Bool.and_eq_true,decide_eq_true_eq,List.all_eq_true] at h
  obtain ⟨ht,h2,h3,h4,h5⟩:=h
  have ht':=ht
  unfold okT at ht'
  simp only [Bool.and_eq_true,decide_eq_true_eq,List.all_eq_true] at ht'
  obtain ⟨h0,h1,hr⟩:=ht'
  refine ⟨by omega,by omega,ht,fun r hm=>?_,by omega,by omega,by omega,by omega,by omega,by omega,fun z hm=>?_⟩
  ·have:=hr r hm;unfold rowOk at this;simp only [Bool.and_eq_true,decide_eq_true_eq] at this;omega
  ·have:=h5 z hm;unfold nozOk at this;simp only [Bool.and_eq_true,decide_eq_true_eq] at this;omega
 ·intro h
  unfold okB
  simp only [Bool.and_eq_true,decide_eq_true_eq,List.all_eq_true]
  have a1:=h.n1;have a2:=h.n2
  refine ⟨h.tab,by omega,⟨h.w0,h.w1⟩,⟨h.s0,h.s1⟩,fun z hz=>?_⟩
  have:=h.nn z hz
  unfold nozOk;simp only [Bool.and_eq_true,decide_eq_true_eq];omega
def gvz (rows : List S126) (z : S48) : Int:=(zq2 rows z.f0).f2
def pour (rows : List S126) (h : Int) (z : S48) : Int:=gvz rows z * mx 0 (mn 5 (h - z.f1)) / 5
def gat (rows : List S126) (noz : List S48) (h : Int) : List Int:=noz.map (pour rows h)
theorem zpz {rows : List S126} {draw : Int} {noz : List S48} {weir spill : Int} (h : OkB rows draw noz weir spill) {z : S48} (hz : z ∈ noz) : 1≤gvz rows z∧gvz rows z≤1000:=by
 have a:=h.nn z hz
 exact h.rr _ (zw6 z126 a.1 a.2.1)
theorem znx (x : Int) : mx 0 (mn 5 x) = 0∨mx 0 (mn 5 x) = 1∨mx 0 (mn 5 x) = 2∨mx 0 (mn 5 x) = 3∨mx 0 (mn 5 x) = 4∨mx 0 (mn 5 x) = 5:=by
 unfold mx mn;split<;>split<;>omega
theorem mm_swap (x : Int) : mn 5 (mx 0 x) = mx 0 (mn 5 x):=by unfold mx mn;(repeat' split)<;>omega
theorem zpt {g m : Int} (h0 : 0≤g) (h1 : g≤1000) (hm : m = 0∨m = 1∨m = 2∨m = 3∨m = 4∨m = 5) : wrap64 (Int.tdiv (wrap64 (g * m)) 5) = g * m / 5:=by
 have : 0≤g * m∧g * m≤5000:=by rcases hm with rfl | rfl | rfl | rfl | rfl | rfl<;>omega
 rw [w64 (n:=g * m) (by omega),Int.tdiv_eq_ediv_of_nonneg this.1,w64 (by omega)]
theorem pour_in {rows : List S126} {draw : Int} {noz : List S48} {weir spill : Int} (h : OkB rows draw noz weir spill) {z : S48} (hz : z ∈ noz) (x : Int) : 0≤pour rows x z∧pour rows x z≤1000:=by
 have a:=zpz h hz
 unfold pour
 rcases znx (x - z.f1) with e | e | e | e | e | e<;>rw [e]<;>omega
theorem rd_map (f : S48→Int) {noz : List S48} {i : Int} (h0 : 0≤i) (h1 : i < noz.length) : rd (noz.map f) i = f (zqt noz i):=by
 unfold rd zqt
 rw [List.getD_eq_getElem?_getD,List.getD_eq_getElem?_getD,List.getElem?_map,List.getElem?_eq_getElem (show i.toNat < noz.length by omega)]
 rfl
theorem zbz {α β : Type} (d : α) (f : α→β) (l : List α) {i : Int} (h0 : 0≤i) (h1 : i < l.length) : (l.take (i + 1).toNat).map f = (l.take i.toNat).map f ++ [f (l.getD i.toNat d)]:=by
 rw [show (i + 1).toNat = i.toNat + 1 by omega,List.take_succ_eq_append_getElem (show i.toNat < l.length by omega),List.map_append,List.getD_eq_getElem?_getD,List.getElem?_eq_getElem (show i.toNat < l.length by omega)]
 rfl
theorem sum_bd {l : List Int} {B : Int} (hB : 0≤B) (h : ∀ x ∈ l,-B≤x∧x≤B) : -(B * l.length)≤l.sum∧l.sum≤B * l.length:=by
 induction l with
 | nil=>simp
 | cons x l ih =>
  have a:=h x (by simp)
  have b:=ih (fun y hy=>h y (by simp [hy]))
  rw [List.sum_cons,List.length_cons,Int.natCast_add,Int.mul_add]
  omega
theorem sum_go (xs : List Int) (hl : xs.length≤1000) (hx : ∀ x ∈ xs,-1000000≤x∧x≤1000000) : ∀ (d k : Nat) (i acc : Int),0≤i→i + d = xs.length→d < k→-1000000 * i≤acc∧acc≤1000000 * i→
 ca_sum.l0 k acc xs xs.length i = some (acc + (xs.drop i.toNat).sum)
 | 0,k,i,acc,h0,hi,hk,hb=>by
  obtain ⟨k,rfl⟩:=ksucc hk
  simp only [ca_sum.l0]
  rw [if_neg (by omega),List.drop_of_length_le (by omega)]
  simp
 | d + 1,k,i,acc,h0,hi,hk,hb=>by
  obtain ⟨k,rfl⟩:=ksucc (by omega : 0 < k)
  simp only [ca_sum.l0]
  have e:=zx7 (0 : Int) xs i h0 (by omega)
  have m:=hx _ (zw6 (0 : Int) h0 (by omega : i < xs.length))
  rw [if_pos (by omega),if_pos h0,if_pos (by omega)]
  unfold rd
  rw [w64 (n:=acc + _) (by omega),w64 (by omega),sum_go xs hl hx d k (i + 1) _ (by omega) (by omega) (by omega) (by omega),e,List.sum_cons,Int.add_assoc]
theorem csum {k : Nat} {l : List Int} (hl : l.length≤1000) (hx : ∀ x ∈ l,-1000000≤x∧x≤1000000) (hk : l.length < k) : ca_sum.f k l = some l.sum:=by
 unfold ca_sum.f
 rw [sum_go l hl hx l.length k 0 0 (by omega) (by omega) hk (by omega)]
 simp
theorem nsum {k : Nat} {l : List Int} (hl : l.length≤1000) (hx : ∀ x ∈ l,-1000000≤x∧x≤1000000) (hk : l.length < k) : nz_sum.f k l = some l.sum:=by
 have e : ∀ k x3 x6 x7 x8,nz_sum.l0 k x3 x6 x7 x8 = ca_sum.l0 k x3 x6 x7 x8:=by
  intro k
  induction k with
  | zero=>intros;rfl
  | succ k ih=>intro a b c d;simp only [nz_sum.l0,ca_sum.l0,ih]
 have h:=csum hl hx hk
 unfold ca_sum.f at h
 unfold nz_sum.f
 rw [e,h]
theorem isRow_eq {rows : List S126} {draw n : Int} (hl : rows.length≤1000) : nz_isRow.f rows draw n = some (decide (0≤n∧n≤(rows.length : Int) - 1)):=by
 unfold nz_isRow.f
 rw [w64 (by omega),n_in]
 rfl
theorem isSet1_eq {rows : List S126} {draw n : Int} (h0 : 0≤n) (h1 : n < rows.length) (hl : rows.length≤1000) : nz_isSet.f rows draw [n] = some true:=by
 unfold nz_isSet.f
 rw [if_pos (by simp)]
 have : sl_IsSorted_int_int.f ([n].length + 1) [n] = some true:=by
  unfold sl_IsSorted_int_int.f
  simp only [sl_IsSorted_int_int.l0,List.length_cons,List.length_nil]
  rw [if_neg (by unfold wrap64;omega)]
 rw [this]
 simp only [Option.bind_some,anyM,isRow_eq hl]
 rw [decide_eq_true (show 0≤n∧n≤(rows.length : Int) - 1 by omega)]
 rfl
theorem gives1_eq {rows : List S126} {draw n : Int} {k : Nat} (h0 : 0≤n) (h1 : n < rows.length) (hl : rows.length≤1000) (hg : 0≤(zq2 rows n).f2∧(zq2 rows n).f2≤1000000) (hk : 5≤k) : nz_gives.f k rows draw [n] = some (zq2 rows n).f2:=by
 obtain ⟨m,rfl⟩ : ∃ m,k = m + 1 + 1:=⟨k - 2,by omega⟩
 unfold nz_gives.f
 have e0 : rd [n] 0 = n:=rfl
 have e1 : wrap64 (0 + 1) = 1:=by unfold wrap64;omega
 simp only [nz_gives.l0,List.length_cons,List.length_nil,e0,e1]
 rw [if_pos (by decide),if_pos (by decide),if_pos (by decide),if_pos h0,if_pos h1,if_pos (by decide),if_neg (by decide)]
 simp only [List.nil_append]
 rw [nsum (by simp) (by intro x hx;simp at hx;subst hx;omega) (by simp;omega)]
 simp
theorem Gives1_eq {rows : List S126} {draw : Int} {noz : List S48} {weir spill : Int} (h : OkB rows draw noz weir spill) {z : S48} (hz : z ∈ noz) {k : Nat} (hk : 5≤k) : nz_Gives.f k rows draw [z.f0] = some (gvz rows z,0):=by
 have a:=h.nn z hz
 have g:=zpz h hz
 unfold nz_Gives.f
 rw [zmz,h.tab,Option.bind_some,if_pos rfl,isSet1_eq a.1 a.2.1 (by have:=h.r2;omega),Option.bind_some,if_pos rfl,gives1_eq a.1 a.2.1 (by have:=h.r2;omega) (by unfold gvz at g;omega) hk]
 rfl
def grid (rows : List S126) (noz : List S48) : List (List Int):=(List.range 41).map fun (j : Nat)=>gat rows noz (j : Int)
theorem zbu (rows : List S126) (noz : List S48) : (grid rows noz).length = 41:=by simp [grid]
theorem grid_at (rows : List S126) (noz : List S48) {h : Int} (h0 : 0≤h) (h1 : h≤40) : rd_L3 (grid rows noz) h = gat rows noz h:=by
 unfold rd_L3 grid
 rw [List.getD_eq_getElem?_getD,List.getElem?_map,List.getElem?_range (by omega)]
 simp only [Option.map_some,Option.getD_some]
 rw [show ((h.toNat : Nat) : Int) = h by omega]
section
variable {rows : List S126} {draw : Int} {noz : List S48} {weir spill : Int}
theorem z_mem {i : Int} (h0 : 0≤i) (h1 : i < noz.length) : zqt noz i ∈ noz:=zw6 z48 h0 h1
theorem fill_l2 (h : OkB rows draw noz weir spill) (hh : Int) (p0 : 0≤hh) (p1 : hh≤40) (G : List (List Int)) (hG : G.length≤41) (r) (C : Nat) (hr : ∀ k,C≤k→ca_fill.l1 k (noz.map (gvz rows)) (hh + 1) rows draw noz weir spill rows draw noz weir spill (G ++ [gat rows noz hh]) = r) : ∀ (d k : Nat) (i : Int),0≤i→i + d = noz.length→C + d < k→
 ca_fill.l2 k (noz.map (gvz rows)) hh ((noz.take i.toNat).map (pour rows hh)) hh noz noz.length i rows draw noz weir spill rows draw noz weir spill G = r
 | 0,k,i,h0,hi,hk=>by
  obtain ⟨k,rfl⟩:=ksucc (by omega : 0 < k)
  simp only [ca_fill.l2]
  rw [if_neg (by omega),if_pos (by omega),w64 (by omega),List.take_of_length_le (by omega)]
  exact hr k (by omega)
 | d + 1,k,i,h0,hi,hk=>by
  obtain ⟨k,rfl⟩:=ksucc (by omega : 0 < k)
  have n2:=h.n2
  have hz:=z_mem h0 (by omega : i < noz.length)
  have a:=h.nn _ hz
  have g:=zpz h hz
  simp only [ca_fill.l2]
  rw [if_pos (by omega),if_pos h0,if_pos (by omega),if_pos (by rw [List.length_map];omega),if_pos (by rw [List.length_map,List.length_take];omega),rd_map _ h0 (by omega),w64 (n:=hh - _) (by omega),zpt (by omega) (by omega) (znx _),w64 (n:=i + 1) (by omega)]
  have e:=zbz z48 (pour rows hh) noz h0 (by omega)
  have f:=fill_l2 h hh p0 p1 G hG r C hr d k (i + 1) (by omega) (by omega) (by omega)
  rw [e] at f
  exact f
theorem fill_l1 (h : OkB rows draw noz weir spill) : ∀ (d k j : Nat),j + d = 41→d * (noz.length + 3) < k→
 ca_fill.l1 k (noz.map (gvz rows)) j rows draw noz weir spill rows draw noz weir spill ((List.range j).map fun (q : Nat)=>gat rows noz (q : Int)) = some (draw,weir,spill,grid rows noz)
 | 0,k,j,hj,hk=>by
  obtain ⟨k,rfl⟩:=ksucc (by omega : 0 < k)
  obtain rfl : j = 41:=by omega
  simp only [ca_fill.l1]
  rw [if_neg (by omega)]
  rfl
 | d + 1,k,j,hj,hk=>by
  rw [Nat.succ_mul] at hk
  obtain ⟨k,rfl⟩:=ksucc (by omega : 0 < k)
  simp only [ca_fill.l1]
  rw [if_pos (by omega)]
  refine fill_l2 h j (by omega) (by omega) _ (by simp;omega) _ (d * (noz.length + 3) + 1) (fun k' hk'=>?_) noz.length k 0 (by omega) (by omega) (by omega)
  have f:=fill_l1 h d k' (j + 1) (by omega) (by omega)
  rw [List.range_succ,List.map_append] at f
  exact f
theorem fill_l0 (h : OkB rows draw noz weir spill) : ∀ (d k : Nat) (i : Int),0≤i→i + d = noz.length→41 * (noz.length + 3) + d + 5 < k→
 ca_fill.l0 k ((noz.take i.toNat).map (gvz rows)) noz noz.length i rows draw noz weir spill rows draw noz weir spill = some (draw,weir,spill,grid rows noz)
 | 0,k,i,h0,hi,hk=>by
  obtain ⟨k,rfl⟩:=ksucc (by omega : 0 < k)
  simp only [ca_fill.l0]
  rw [if_neg (by omega),List.take_of_length_le (by omega)]
  exact fill_l1 h 41 k 0 (by omega) (by omega)
 | d + 1,k,i,h0,hi,hk=>by
  obtain ⟨k,rfl⟩:=ksucc (by omega : 0 < k)
  have n2:=h.n2
  simp only [ca_fill.l0]
  rw [if_pos (by omega),if_pos h0,if_pos (by omega),Gives1_eq h (z_mem h0 (by omega)) (by omega),Option.bind_some,if_pos (by rw [List.length_map,List.length_take];omega),w64 (by omega)]
  have e:=zbz z48 (gvz rows) noz h0 (by omega)
  have f:=fill_l0 h d k (i + 1) (by omega) (by omega) (by omega)
  rw [e] at f
  exact f
theorem fillK_eq (h : OkB rows draw noz weir spill) : ca_fill.f (fillK noz.length) rows draw noz weir spill = some (draw,weir,spill,grid rows noz):=
 fill_l0 h noz.length _ 0 (by omega) (by omega) (by unfold fillK;omega)
def over (weir spill h : Int) : Int:=spill * mx 0 (h - weir)
def tot (rows : List S126) (noz : List S48) (weir spill h : Int) : Int:=(gat rows noz h).sum + over weir spill h
theorem zkv (h : OkB rows draw noz weir spill) {x : Int} (h0 : 0≤x) (h1 : x≤40) : 0≤over weir spill x∧over weir spill x≤4000:=by
 have a:=h.s0;have b:=h.s1;have c:=h.w0
 unfold over
 have m : 0≤mx 0 (x - weir)∧mx 0 (x - weir)≤40:=by unfold mx;split<;>omega
 exact ⟨Int.mul_nonneg a m.1,by have:=Int.mul_le_mul b m.2 m.1 (by omega : (0 : Int)≤100);omega⟩
theorem zp0 (h : OkB rows draw noz weir spill) (x : Int) : ∀ y ∈ gat rows noz x,0≤y∧y≤1000:=by
 intro y hy
 unfold gat at hy
 obtain ⟨z,hz,rfl⟩:=List.mem_map.1 hy
 exact pour_in h hz x
theorem zvm (x : Int) : (gat rows noz x).length = noz.length:=by simp [gat]
theorem sum_nn {l : List Int} (h : ∀ x ∈ l,0≤x) : 0≤l.sum:=by
 induction l with
 | nil=>simp
 | cons x l ih=>rw [List.sum_cons];have:=h x (by simp);have:=ih (fun y hy=>h y (by simp [hy]));omega
theorem zn2 (h : OkB rows draw noz weir spill) (x : Int) : 0≤(gat rows noz x).sum∧(gat rows noz x).sum≤6000:=by
 have a:=zp0 h x
 have b:=sum_bd (l:=gat rows noz x) (B:=1000) (by omega) (fun y hy=>by have:=a y hy;omega)
 rw [zvm] at b
 have:=h.n2
 exact ⟨sum_nn (fun y hy=>(a y hy).1),by omega⟩
theorem tot_in (h : OkB rows draw noz weir spill) {x : Int} (h0 : 0≤x) (h1 : x≤40) : 0≤tot rows noz weir spill x∧tot rows noz weir spill x≤10000:=by
 have a:=zn2 h x
 have b:=zkv h h0 h1
 unfold tot
 omega
theorem weir_eq (h : OkB rows draw noz weir spill) {x : Int} (h0 : 0≤x) (h1 : x≤40) : gf_weir.f rows draw noz weir spill (grid rows noz) x = some (over weir spill x):=by
 have a:=zkv h h0 h1
 have c:=h.w0;have c1:=h.w1
 unfold gf_weir.f
 rw [w64 (n:=x - weir) (by omega),w64 (n:=spill * _) (by unfold over at a;omega)]
 rfl
theorem out_eq (h : OkB rows draw noz weir spill) {x : Int} (h0 : 0≤x) (h1 : x≤40) : gf_out.f rows draw noz weir spill (grid rows noz) x = some (tot rows noz weir spill x):=by
 have a:=zp0 h x
 have b:=zkv h h0 h1
 have c:=zn2 h x
 unfold gf_out.f gf_nozzles.f
 rw [if_pos h0,if_pos (by rw [zbu];omega),grid_at _ _ h0 h1,csum (by rw [zvm];have:=h.n2;omega) (fun y hy=>by have:=a y hy;omega) (by omega),weir_eq h h0 h1]
 simp only [Option.bind_some]
 rw [w64 (n:=(gat rows noz x).sum) (by omega),w64 (by omega)]
 rfl
theorem mm_mono {a b : Int} (h : a≤b) : mx 0 (mn 5 a)≤mx 0 (mn 5 b):=by unfold mx mn;(repeat' split)<;>omega
theorem zpu (h : OkB rows draw noz weir spill) {z : S48} (hz : z ∈ noz) {a b : Int} (hab : a≤b) : pour rows a z≤pour rows b z:=by
 have g:=zpz h hz
 unfold pour
 exact Int.ediv_le_ediv (by omega) (Int.mul_le_mul_of_nonneg_left (mm_mono (by omega)) (by omega))
theorem zbj {f g : S48→Int} : ∀ {l : List S48},(∀ z ∈ l,f z≤g z)→(l.map f).sum≤(l.map g).sum
 | [],_=>by simp
 | z :: l,h=>by
  simp only [List.map_cons,List.sum_cons]
  have:=h z (by simp)
  have:=zbj (l:=l) (fun y hy=>h y (by simp [hy]))
  omega
theorem over_mono (h : OkB rows draw noz weir spill) {a b : Int} (hab : a≤b) : over weir spill a≤over weir spill b:=by
 unfold over
 exact Int.mul_le_mul_of_nonneg_left (by unfold mx;(repeat' split)<;>omega) h.s0
theorem tot_mono (h : OkB rows draw noz weir spill) {a b : Int} (hab : a≤b) : tot rows noz weir spill a≤tot rows noz weir spill b:=by
 have:=over_mono h hab
 have:=zbj (f:=pour rows a) (g:=pour rows b) (l:=noz) (fun z hz=>zpu h hz hab)
 unfold tot gat
 omega
theorem znm (h : OkB rows draw noz weir spill) : tot rows noz weir spill 0 = 0:=by
 have e : gat rows noz 0 = noz.map (fun _=>0):=by
  unfold gat
  refine List.map_congr_left fun z hz=>?_
  have a:=h.nn z hz
  unfold pour
  rw [show mx 0 (mn 5 (0 - z.f1)) = 0 by unfold mx mn;(repeat' split)<;>omega]
  simp
 have s : ∀ l : List S48,(l.map (fun _=>(0 : Int))).sum = 0:=by
  intro l
  induction l with
  | nil=>rfl
  | cons z l ih=>simp only [List.map_cons,List.sum_cons,ih];rfl
 have o : over weir spill 0 = 0:=by
  have:=h.w0
  unfold over
  rw [show mx 0 (0 - weir) = 0 by unfold mx;split<;>omega]
  simp
 unfold tot
 rw [e,s,o]
 rfl
def Lev (rows : List S126) (noz : List S48) (weir spill cups h : Int) : Prop:=0≤h∧h≤40∧tot rows noz weir spill h≤cups∧(h < 40→cups < tot rows noz weir spill (h + 1))
theorem Lev.uniq (h : OkB rows draw noz weir spill) {cups a b : Int} (ha : Lev rows noz weir spill cups a) (hb : Lev rows noz weir spill cups b) : a = b:=by
 obtain ⟨a0,a1,a2,a3⟩:=ha
 obtain ⟨b0,b1,b2,b3⟩:=hb
 rcases Int.lt_trichotomy a b with l | l | l
 ·have:=a3 (by omega)
  have:=tot_mono h (show a + 1≤b by omega)
  omega
 ·exact l
 ·have:=b3 (by omega)
  have:=tot_mono h (show b + 1≤a by omega)
  omega
theorem zmy (h : OkB rows draw noz weir spill) {cups : Int} : ∀ (n : Nat) (i : Int),0≤i→i + n = 41→(0 < i→tot rows noz weir spill (i - 1)≤cups)→0≤cups→
 ∃ r,zkx rows draw noz weir spill (grid rows noz) cups n i (mx 0 (i - 1)) = some r∧Lev rows noz weir spill cups r
 | 0,i,h0,hi,hp,hc=>by
  obtain rfl : i = 41:=by omega
  exact ⟨_,rfl,by unfold mx;split<;>omega,by unfold mx;split<;>omega,hp (by omega),fun hh=>absurd hh (by unfold mx;split<;>omega)⟩
 | n + 1,i,h0,hi,hp,hc=>by
  simp only [zkx]
  rw [out_eq h h0 (by omega),Option.bind_some]
  by_cases g : tot rows noz weir spill i > cups
  ·rw [if_pos g]
   have i0 : 0 < i:=by
    rcases Int.lt_or_eq_of_le h0 with l | l
    ·exact l
    ·rw [← l,znm h] at g;omega
   have e : mx 0 (i - 1) = i - 1:=by unfold mx;split<;>omega
   rw [e]
   exact ⟨_,rfl,by omega,by omega,hp i0,fun _=>by rw [show i - 1 + 1 = i by omega];exact g⟩
  ·rw [if_neg g]
   obtain ⟨r,hr,hl⟩:=zmy h n (i + 1) (by omega) (by omega) (fun _=>by rw [show i + 1 - 1 = i by omega];omega) hc
   rw [show mx 0 (i + 1 - 1) = i by unfold mx;split<;>omega] at hr
   exact ⟨r,hr,hl⟩
theorem level_eq (h : OkB rows draw noz weir spill) {cups : Int} (hc : 0≤cups) : ∃ r,gf_level.f rows draw noz weir spill (grid rows noz) cups = some r∧Lev rows noz weir spill cups r:=by
 unfold gf_level.f
 rw [zbu]
 have:=zmy h (cups:=cups) 41 0 (by omega) (by omega) (fun h=>by omega) hc
 simpa [mx] using this
end
section
attribute [local go_sem] zwg zwf zwm zwl
end
section
attribute [local go_sem] zwg zwf zwm zwl
end
def shGo : List Int→List Int→Int→List Int × Int
 | x :: l,y :: n,r=>((x + mn r (y - x)) :: (shGo l n (r - mn r (y - x))).1,(shGo l n (r - mn r (y - x))).2)
 | l,_,r=>(l,r)
def zmt : List Int→List Int→Prop
 | x :: l,y :: n=>(0≤x∧x≤y∧y≤1000)∧zmt l n
 | [],[]=>True
 | _,_=>False
theorem mn_in {r d : Int} (h0 : 0≤r) (h1 : 0≤d) : 0≤mn r d∧mn r d≤r∧mn r d≤d:=by unfold mn;split<;>omega
theorem zb3 : ∀ {l n : List Int} {r : Int},zmt l n→0≤r→(∀ x ∈ (shGo l n r).1,0≤x∧x≤1000)∧0≤(shGo l n r).2∧(shGo l n r).2≤r∧(shGo l n r).1.length = l.length∧(shGo l n r).1.sum + (shGo l n r).2 = l.sum + r
 | [],[],r,_,hr=>by simp [shGo];omega
 | x :: l,y :: n,r,h,hr=>by
  have m:=mn_in (r:=r) (d:=y - x) hr (by have:=h.1;omega)
  have ih:=zb3 (r:=r - mn r (y - x)) h.2 (by omega)
  have hx:=h.1
  simp only [shGo,List.length_cons,List.sum_cons]
  refine ⟨fun z hz=>?_,ih.2.1,by omega,by rw [ih.2.2.2.1],by omega⟩
  rcases List.mem_cons.1 hz with rfl | hz
  ·omega
  ·exact ih.1 z hz
 | [],_ :: _,_,h,_=>h.elim
 | _ :: _,[],_,h,_=>h.elim
theorem rd_app (P : List Int) (x : Int) (l : List Int) : rd (P ++ x :: l) (P.length : Int) = x:=by simp [rd]
theorem set_app {α : Type} (P : List α) (x v : α) (l : List α) : (P ++ x :: l).set (P.length : Int).toNat v = P ++ [v] ++ l:=by simp
theorem sh_go {cups : Int} (hc0 : 0≤cups) (hc1 : cups≤10000) : ∀ (l n P Q : List Int) (r : Int) (k : Nat),zmt l n→P.length = Q.length→(∀ x ∈ P,0≤x∧x≤1000)→P.length + l.length≤100→0≤r→r≤10000→P.length + 2 * l.length + 2 < k→
 gf_shares.l0 k cups (P ++ l) r (Q ++ n) (Q ++ n).length P.length = some (P ++ (shGo l n r).1,cups - (P ++ (shGo l n r).1).sum)
 | [],[],P,Q,r,k,_,hPQ,hP,hl,hr0,hr1,hk=>by
  obtain ⟨k,rfl⟩:=ksucc (by omega : 0 < k)
  simp only [gf_shares.l0,shGo,List.append_nil]
  rw [if_neg (by omega)]
  simp only [List.length_nil] at hl hk
  rw [csum (by omega) (fun x hx=>by have:=hP x hx;omega) (by omega)]
  have s:=sum_bd (l:=P) (B:=1000) (by omega) (fun x hx=>by have:=hP x hx;omega)
  simp only [Option.bind_some]
  rw [w64 (by omega)]
 | x :: l,y :: n,P,Q,r,k,h,hPQ,hP,hl,hr0,hr1,hk=>by
  obtain ⟨k,rfl⟩:=ksucc (by omega : 0 < k)
  simp only [List.length_cons] at hl hk
  have hx:=h.1
  have m:=mn_in (r:=r) (d:=y - x) hr0 (by omega)
  simp only [gf_shares.l0]
  have e : rd (Q ++ y :: n) (P.length : Int) = y:=by rw [hPQ];exact rd_app Q y n
  rw [if_pos (by rw [List.length_append,List.length_cons];omega),if_pos (by omega),if_pos (by rw [List.length_append,List.length_cons];omega),if_pos (by rw [List.length_append,List.length_cons];omega),rd_app,e,w64 (n:=y - x) (by omega),w64 (n:=x + _) (by omega),w64 (n:=r - _) (by omega),w64 (n:=(P.length : Int) + 1) (by omega),set_app]
  have ih:=sh_go hc0 hc1 l n (P ++ [x + mn r (y - x)]) (Q ++ [y]) (r - mn r (y - x)) k h.2 (by simp [hPQ]) (fun z hz=>by
   rcases List.mem_append.1 hz with hz | hz
   ·exact hP z hz
   ·simp at hz;omega) (by simp;omega) (by omega) (by omega) (by simp;omega)
  have e2 : Q ++ y :: n = Q ++ [y] ++ n:=by simp
  rw [e2,show (P.length : Int) + 1 = ((P ++ [x + mn r (y - x)]).length : Int) by simp,ih]
  simp [shGo]
 | [],_ :: _,_,_,_,_,h,_,_,_,_,_,_=>h.elim
 | _ :: _,[],_,_,_,_,h,_,_,_,_,_,_=>h.elim
section
variable {rows : List S126} {draw : Int} {noz : List S48} {weir spill : Int}
def levN (rows : List S126) (noz : List S48) (weir spill cups : Int) : Nat→Int
 | 0=>0
 | n + 1=>if tot rows noz weir spill ((n : Int) + 1)≤cups then (n : Int) + 1 else levN rows noz weir spill cups n
def lev (rows : List S126) (noz : List S48) (weir spill cups : Int) : Int:=levN rows noz weir spill cups 40
theorem levN_is (h : OkB rows draw noz weir spill) {cups : Int} (hc : 0≤cups) : ∀ n : Nat,n≤40→(n < 40→cups < tot rows noz weir spill ((n : Int) + 1))→Lev rows noz weir spill cups (levN rows noz weir spill cups n)
 | 0,_,hn=>⟨by simp [levN],by simp [levN],by simp [levN,znm h,hc],fun _=>by simpa [levN] using hn (by omega)⟩
 | n + 1,h1,hn=>by
  unfold levN
  by_cases g : tot rows noz weir spill ((n : Int) + 1)≤cups
  ·rw [if_pos g]
   exact ⟨by omega,by omega,g,fun _=>by have:=hn (by omega);rw [Int.natCast_add] at this;exact this⟩
  ·rw [if_neg g]
   exact levN_is h hc n (by omega) (fun _=>by omega)
theorem zjl (h : OkB rows draw noz weir spill) {cups : Int} (hc : 0≤cups) : Lev rows noz weir spill cups (lev rows noz weir spill cups):=levN_is h hc 40 (by omega) (fun h=>by omega)
theorem level_lev (h : OkB rows draw noz weir spill) {cups : Int} (hc : 0≤cups) : gf_level.f rows draw noz weir spill (grid rows noz) cups = some (lev rows noz weir spill cups):=by
 obtain ⟨r,hr,hl⟩:=level_eq h hc
 rw [hr,hl.uniq h (zjl h hc)]
def zvt (rows : List S126) (noz : List S48) (weir spill cups : Int) : List Int:=
 if lev rows noz weir spill cups < 40 then (shGo (gat rows noz (lev rows noz weir spill cups)) (gat rows noz (lev rows noz weir spill cups + 1)) (cups - tot rows noz weir spill (lev rows noz weir spill cups))).1 else gat rows noz (lev rows noz weir spill cups)
theorem zx6 (h : OkB rows draw noz weir spill) {a b : Int} (hab : a≤b) : zmt (gat rows noz a) (gat rows noz b):=by
 have : ∀ l : List S48,(∀ z ∈ l,z ∈ noz)→zmt (l.map (pour rows a)) (l.map (pour rows b)):=by
  intro l
  induction l with
  | nil=>intro _;trivial
  | cons z l ih =>
   intro hl
   have hz:=hl z (by simp)
   exact ⟨⟨(pour_in h hz a).1,zpu h hz hab,(pour_in h hz b).2⟩,ih (fun y hy=>hl y (by simp [hy]))⟩
 exact this noz (fun _ hz=>hz)
theorem zpi (h : OkB rows draw noz weir spill) {cups : Int} (hc : 0≤cups) : (∀ x ∈ zvt rows noz weir spill cups,0≤x∧x≤1000)∧(zvt rows noz weir spill cups).length = noz.length:=by
 have L:=zjl h hc
 unfold zvt
 by_cases g : lev rows noz weir spill cups < 40
 ·rw [if_pos g]
  have a:=zb3 (r:=cups - tot rows noz weir spill (lev rows noz weir spill cups)) (zx6 h (show lev rows noz weir spill cups≤lev rows noz weir spill cups + 1 by omega)) (by have:=L.2.2.1;omega)
  exact ⟨a.1,by rw [a.2.2.2.1,zvm]⟩
 ·rw [if_neg g]
  exact ⟨zp0 h _,zvm _⟩
theorem clone_int {l : List Int} (hl : l.length≤1000) : sl_Clone_int.f l = some l:=by unfold sl_Clone_int.f;rw [if_pos (by omega)]
theorem shares_eq (h : OkB rows draw noz weir spill) {cups : Int} (hc0 : 0≤cups) (hc1 : cups≤10000) {k : Nat} (hk : 20≤k) :
 gf_shares.f k rows draw noz weir spill (grid rows noz) cups = some (zvt rows noz weir spill cups,cups - (zvt rows noz weir spill cups).sum):=by
 have L:=zjl h hc0
 have n2:=h.n2
 have t0:=tot_in h L.1 L.2.1
 have B:=zpi h hc0
 have s:=sum_bd (l:=zvt rows noz weir spill cups) (B:=1000) (by omega) (fun x hx=>by have:=B.1 x hx;omega)
 rw [B.2] at s
 unfold gf_shares.f
 rw [level_lev h hc0,Option.bind_some,if_pos L.1,if_pos (by rw [zbu];have:=L.2.1;omega),grid_at _ _ L.1 L.2.1,clone_int (by rw [zvm];omega),Option.bind_some]
 unfold zvt
 by_cases g : lev rows noz weir spill cups < 40
 ·rw [if_pos g,if_pos g,out_eq h L.1 L.2.1,Option.bind_some,w64 (n:=_ + 1) (by have:=L.1;omega),if_pos (by have:=L.1;omega),if_pos (by rw [zbu];omega),grid_at _ _ (by have:=L.1;omega) (by omega),w64 (by omega)]
  have f:=sh_go hc0 hc1 (gat rows noz (lev rows noz weir spill cups)) (gat rows noz (lev rows noz weir spill cups + 1)) [] [] (cups - tot rows noz weir spill (lev rows noz weir spill cups)) k (zx6 h (by omega)) rfl (fun x hx=>by simp at hx) (by simp [zvm];omega) (by have:=L.2.2.1;omega) (by omega) (by simp [zvm];omega)
  simpa using f
 ·rw [if_neg g,if_neg g]
  have a:=zp0 h (lev rows noz weir spill cups)
  rw [csum (by rw [zvm];omega) (fun x hx=>by have:=a x hx;omega) (by rw [zvm];omega),Option.bind_some]
  have c:=zn2 h (lev rows noz weir spill cups)
  rw [w64 (by omega)]
def setH (noz : List S48) (l : List Int) : List S48:=List.zipWith (fun z x=>(⟨z.f0,x⟩ : S48)) noz l
theorem rout_go (h : OkB rows draw noz weir spill) (x : Int) (x0 : 0≤x) (x1 : x≤40) : ∀ (d k : Nat) (i : Int),0≤i→i + d = noz.length→d < k→
 q4_Out.l0 k x ((noz.take i.toNat).map (pour rows x)) i rows draw noz weir spill = some (gat rows noz x,over weir spill x)
 | 0,k,i,h0,hi,hk=>by
  obtain ⟨k,rfl⟩:=ksucc hk
  have a:=zkv h x0 x1
  have c:=h.w0;have c1:=h.w1
  simp only [q4_Out.l0]
  rw [if_neg (by omega),List.take_of_length_le (by omega),w64 (n:=x - weir) (by omega),w64 (n:=spill * _) (by unfold over at a;omega)]
  rfl
 | d + 1,k,i,h0,hi,hk=>by
  obtain ⟨k,rfl⟩:=ksucc (by omega : 0 < k)
  have n2:=h.n2
  have hz:=z_mem h0 (by omega : i < noz.length)
  have a:=h.nn _ hz
  have g:=zpz h hz
  simp only [q4_Out.l0]
  rw [if_pos (by omega),if_pos h0,if_pos a.1,if_pos a.2.1,if_pos (by rw [List.length_map,List.length_take];omega),w64 (n:=x - _) (by omega),mm_swap]
  have e:=zbz z48 (pour rows x) noz h0 (by omega)
  have f:=rout_go h x x0 x1 d k (i + 1) (by omega) (by omega) (by omega)
  rw [e] at f
  have p : wrap64 (Int.tdiv (wrap64 ((zq2 rows (zqt noz i).f0).f2 * mx 0 (mn 5 (x - (zqt noz i).f1)))) 5) = pour rows x (noz.getD i.toNat z48):=
   zpt (g:=gvz rows (zqt noz i)) (by omega) (by omega) (znx _)
  rw [p,w64 (n:=i + 1) (by omega)]
  exact f
theorem rout_eq (h : OkB rows draw noz weir spill) {x : Int} (x0 : 0≤x) (x1 : x≤40) {k : Nat} (hk : 10≤k) : q4_Out.f k rows draw noz weir spill x = some (gat rows noz x,over weir spill x):=
 rout_go h x x0 x1 noz.length k 0 (by omega) (by omega) (by have:=h.n2;omega)
theorem rtot_go (xs : List Int) (hl : xs.length≤1000) (hx : ∀ x ∈ xs,0≤x∧x≤1000) : ∀ (d k : Nat) (i acc : Int),0≤i→i + d = xs.length→d < k→0≤acc→acc≤4000 + 1000 * i→
 q4_Total.l0 k xs acc i = some (acc + (xs.drop i.toNat).sum)
 | 0,k,i,acc,h0,hi,hk,hb,hb2=>by
  obtain ⟨k,rfl⟩:=ksucc hk
  simp only [q4_Total.l0]
  rw [if_neg (by omega),List.drop_of_length_le (by omega)]
  simp
 | d + 1,k,i,acc,h0,hi,hk,hb,hb2=>by
  obtain ⟨k,rfl⟩:=ksucc (by omega : 0 < k)
  simp only [q4_Total.l0]
  have e:=zx7 (0 : Int) xs i h0 (by omega)
  have m:=hx _ (zw6 (0 : Int) h0 (by omega : i < xs.length))
  rw [if_pos (by omega),if_pos h0]
  unfold rd
  rw [w64 (n:=acc + _) (by omega),w64 (by omega),rtot_go xs hl hx d k (i + 1) _ (by omega) (by omega) (by omega) (by omega) (by omega),e,List.sum_cons,Int.add_assoc]
theorem rtot_eq (h : OkB rows draw noz weir spill) {x : Int} (x0 : 0≤x) (x1 : x≤40) {k : Nat} (hk : 10≤k) : q4_Total.f k rows draw noz weir spill x = some (tot rows noz weir spill x):=by
 have a:=zp0 h x
 have b:=zkv h x0 x1
 have n2:=h.n2
 unfold q4_Total.f
 rw [rout_eq h x0 x1 hk,Option.bind_some,rtot_go _ (by rw [zvm];omega) a noz.length k 0 _ (by omega) (by rw [zvm];omega) (by omega) (by omega) (by omega)]
 simp only [Int.toNat_zero,List.drop_zero]
 unfold tot
 rw [Int.add_comm]
theorem zpg (h : OkB rows draw noz weir spill) {cups : Int} (hc : 0≤cups) : ∀ (n k : Nat),n≤40→(n < 40→cups < tot rows noz weir spill ((n : Int) + 1))→n + 11≤k→
 q4_Stands.l0 k cups n rows draw noz weir spill = some (lev rows noz weir spill cups)
 | n,k,h1,hn,hk=>by
  obtain ⟨k,rfl⟩:=ksucc (by omega : 0 < k)
  simp only [q4_Stands.l0]
  rw [rtot_eq h (by omega) (by omega) (by omega),Option.bind_some]
  by_cases g : tot rows noz weir spill (n : Int) > cups
  ·rw [if_pos g]
   cases n with
   | zero=>rw [show ((0 : Nat) : Int) = 0 from rfl,znm h] at g;omega
   | succ n =>
    rw [w64 (by omega),show ((n + 1 : Nat) : Int) - 1 = (n : Int) by omega]
    exact zpg h hc n k (by omega) (fun _=>by rw [Int.natCast_add] at g;exact g) (by omega)
  ·rw [if_neg g]
   have : Lev rows noz weir spill cups (n : Int):=⟨by omega,by omega,by omega,fun _=>hn (by omega)⟩
   rw [this.uniq h (zjl h hc)]
theorem stands_eq (h : OkB rows draw noz weir spill) {cups : Int} (hc : 0≤cups) {k : Nat} (hk : 51≤k) : q4_Stands.f k rows draw noz weir spill cups = some (lev rows noz weir spill cups):=
 zpg h hc 40 k (by omega) (fun h=>by omega) (by omega)
end
theorem short_eq {rows : List S126} {draw : Int} {noz : List S48} {weir spill : Int} : l4_short.f rows draw noz weir spill = some (decide (rows.length≤15∧noz.length≤8)):=by
 unfold l4_short.f
 by_cases h : (rows.length : Int)≤15
 ·rw [if_pos h,show decide (rows.length≤15∧noz.length≤8) = decide ((noz.length : Int)≤8) from by rw [decide_eq_decide];omega]
 ·rw [if_neg h,decide_eq_false (by omega)]
section
variable {rows : List S126} {draw : Int} {noz : List S48} {weir spill : Int}
end
section
variable {rows : List S126} {draw : Int} {noz : List S48} {weir spill : Int}
end
theorem rsh_go {ov : Int} (ho0 : 0≤ov) (ho1 : ov≤10000) : ∀ (l n P Q : List Int) (r : Int) (k : Nat),zmt l n→P.length = Q.length→P.length + l.length≤100→0≤r→r≤10000→l.length < k→
 q4_Shares.l0 k (P ++ l) ov r (Q ++ n) P.length = some (P ++ (shGo l n r).1,ov + (shGo l n r).2)
 | [],[],P,Q,r,k,_,hPQ,hl,hr0,hr1,hk=>by
  obtain ⟨k,rfl⟩:=ksucc (by omega : 0 < k)
  simp only [q4_Shares.l0,shGo,List.append_nil]
  rw [if_neg (by omega),w64 (by omega)]
 | x :: l,y :: n,P,Q,r,k,h,hPQ,hl,hr0,hr1,hk=>by
  obtain ⟨k,rfl⟩:=ksucc (by omega : 0 < k)
  simp only [List.length_cons] at hl hk
  have hx:=h.1
  have m:=mn_in (r:=r) (d:=y - x) hr0 (by omega)
  simp only [q4_Shares.l0]
  have e : rd (Q ++ y :: n) (P.length : Int) = y:=by rw [hPQ];exact rd_app Q y n
  rw [if_pos (by rw [List.length_append,List.length_cons];omega),if_pos (by omega),if_pos (by rw [List.length_append,List.length_cons];omega),rd_app,e,w64 (n:=y - x) (by omega),w64 (n:=x + _) (by omega),w64 (n:=r - _) (by omega),w64 (n:=(P.length : Int) + 1) (by omega),set_app]
  have ih:=rsh_go ho0 ho1 l n (P ++ [x + mn r (y - x)]) (Q ++ [y]) (r - mn r (y - x)) k h.2 (by simp [hPQ]) (by simp;omega) (by omega) (by omega) (by omega)
  have e2 : Q ++ y :: n = Q ++ [y] ++ n:=by simp
  rw [e2,show (P.length : Int) + 1 = ((P ++ [x + mn r (y - x)]).length : Int) by simp,ih]
  simp [shGo]
 | [],_ :: _,_,_,_,_,h,_,_,_,_,_=>h.elim
 | _ :: _,[],_,_,_,_,h,_,_,_,_,_=>h.elim
section
variable {rows : List S126} {draw : Int} {noz : List S48} {weir spill : Int}
theorem rShares_eq (h : OkB rows draw noz weir spill) {cups : Int} (hc0 : 0≤cups) (hc1 : cups≤10000) {k : Nat} (hk : 60≤k) :
 q4_Shares.f k rows draw noz weir spill cups = some (zvt rows noz weir spill cups,cups - (zvt rows noz weir spill cups).sum):=by
 have L:=zjl h hc0
 have n2:=h.n2
 have t0:=tot_in h L.1 L.2.1
 have o0:=zkv h L.1 L.2.1
 have g0:=zn2 h (lev rows noz weir spill cups)
 have te : tot rows noz weir spill (lev rows noz weir spill cups) = (gat rows noz (lev rows noz weir spill cups)).sum + over weir spill (lev rows noz weir spill cups):=rfl
 unfold q4_Shares.f
 rw [stands_eq h hc0 (by omega),Option.bind_some,rout_eq h L.1 L.2.1 (by omega),Option.bind_some,rtot_eq h L.1 L.2.1 (by omega),Option.bind_some,w64 (n:=cups - _) (by omega)]
 unfold zvt
 by_cases g : lev rows noz weir spill cups < 40
 ·rw [if_pos g,if_pos g,w64 (n:=_ + 1) (by have:=L.1;omega),rout_eq h (by have:=L.1;omega) (by omega) (by omega),Option.bind_some]
  have hp:=zx6 h (show lev rows noz weir spill cups≤lev rows noz weir spill cups + 1 by omega)
  have hr : 0≤cups - tot rows noz weir spill (lev rows noz weir spill cups):=by have:=L.2.2.1;omega
  have f:=rsh_go o0.1 (by omega) (gat rows noz (lev rows noz weir spill cups)) (gat rows noz (lev rows noz weir spill cups + 1)) [] [] (cups - tot rows noz weir spill (lev rows noz weir spill cups)) k hp rfl (by simp [zvm];omega) hr (by omega) (by simp [zvm];omega)
  have s:=(zb3 hp hr).2.2.2.2
  simp only [List.nil_append,List.length_nil,Int.natCast_zero] at f
  rw [f]
  congr 2
  omega
 ·rw [if_neg g,if_neg g]
  congr 2
  rw [w64 (by omega)]
  omega
end
def okX (x : S27) : Bool:=okB x.f0.f0 x.f0.f1 x.f1 x.f2 x.f3
def nozN (bs : List S27) (n : Int) : Int:=((zqo bs n).f1.length : Int)
def shX (x : S27) : Bool:=decide (x.f0.f0.length≤15∧x.f1.length≤8)
theorem zjt {C : List S27} {i : Int} (h0 : 0≤i) (h1 : i < C.length) : C.drop i.toNat = zqo C i :: C.drop (i.toNat + 1):=by
 have hi : i.toNat < C.length:=by omega
 rw [List.drop_eq_getElem_cons hi];simp [zqo,hi]
theorem zp8 {C : List S66} {i : Int} (h0 : 0≤i) (h1 : i < C.length) : C.drop i.toNat = zqc C i :: C.drop (i.toNat + 1):=by
 have hi : i.toNat < C.length:=by omega
 rw [List.drop_eq_getElem_cons hi];simp [zqc,hi]
theorem zpd {C : List S66} {i : Int} (h0 : 0≤i) (h1 : i < C.length) : C.take (i.toNat + 1) = C.take i.toNat ++ [zqc C i]:=by
 have hi : i.toNat < C.length:=by omega
 rw [List.take_succ_eq_append_getElem hi];simp [zqc,hi]
theorem mem_bas {bs : List S27} {i : Int} (h0 : 0≤i) (h1 : i < bs.length) : zqo bs i ∈ bs:=zw6 z27 h0 h1
theorem all_rd {bs : List S27} {p : S27→Bool} (h : bs.all p = true) {i : Int} (h0 : 0≤i) (h1 : i < bs.length) : p (zqo bs i) = true:=List.all_eq_true.1 h _ (mem_bas h0 h1)
theorem brief_go (bs : List S27) (fs : List S66) : ∀ (d k : Nat) (i : Int),0≤i→i≤6→i≤bs.length→i + d = 6→2 * d + 2≤k→l4_brief.l0 k i bs fs = some (((bs.drop i.toNat).take d).all shX && decide (bs.length≤6∧fs.length≤6))
 | 0,k,i,h0,h6,hl,h1,hk=>by
  obtain ⟨k,rfl⟩ : ∃ m,k = m + 1 + 1:=⟨k - 2,by omega⟩
  simp only [l4_brief.l0,l4_brief.j1]
  rw [decide_eq_false (by omega : ¬ i < 6)]
  simp only [Bool.false_eq_true,if_false,List.take_zero,List.all_nil,Bool.true_and,ite_self]
  by_cases c : (bs.length : Int)≤6
  ·rw [if_pos c,decide_eq_decide.2 (show (fs.length : Int)≤6↔bs.length≤6∧fs.length≤6 by omega)]
  ·rw [if_neg c,decide_eq_false (by omega)]
 | d + 1,k,i,h0,h6,hl,h1,hk=>by
  obtain ⟨k,rfl⟩ : ∃ m,k = m + 1 + 1:=⟨k - 2,by omega⟩
  simp only [l4_brief.l0,l4_brief.j1]
  by_cases c : i < (bs.length : Int)
  ·rw [if_pos c,decide_eq_true (by omega : i < 6),if_pos rfl,if_pos h0,if_pos c,short_eq,Option.bind_some,w64 (n:=i + 1) (by omega),zjt h0 c,List.take_succ_cons,List.all_cons]
   cases s : shX (zqo bs i) with
   | true =>
    unfold shX at s
    rw [s,if_pos rfl,brief_go bs fs d k (i + 1) (by omega) (by omega) (by omega) (by omega) (by omega),show (i + 1).toNat = i.toNat + 1 by omega,Bool.true_and]
   | false =>
    unfold shX at s
    rw [s,if_neg (by decide),Bool.false_and,Bool.false_and]
  ·rw [if_neg c,List.drop_of_length_le (by omega)]
   simp only [Bool.false_eq_true,if_false,List.take_nil,List.all_nil,Bool.true_and]
   by_cases c : (bs.length : Int)≤6
   ·rw [if_pos c,decide_eq_decide.2 (show (fs.length : Int)≤6↔bs.length≤6∧fs.length≤6 by omega)]
   ·rw [if_neg c,decide_eq_false (by omega)]
def briefB (bs : List S27) (fs : List S66) : Bool:=(bs.take 6).all shX && decide (bs.length≤6∧fs.length≤6)
theorem brief_eq (bs : List S27) (fs : List S66) {k : Nat} (hk : 20≤k) : l4_brief.f k bs fs = some (briefB bs fs):=by
 unfold l4_brief.f
 have:=brief_go bs fs 6 k 0 (by omega) (by omega) (by omega) (by omega) (by omega)
 simpa [briefB] using this
theorem briefB_iff {bs : List S27} {fs : List S66} : briefB bs fs = true↔bs.all shX = true∧bs.length≤6∧fs.length≤6:=by
 unfold briefB
 simp only [Bool.and_eq_true,decide_eq_true_eq]
 constructor
 ·rintro ⟨a,b,c⟩
  rw [List.take_of_length_le b] at a
  exact ⟨a,b,c⟩
 ·rintro ⟨a,b,c⟩
  exact ⟨by rw [List.take_of_length_le b];exact a,b,c⟩
def feedB (bs : List S27) (met : List S66) (i : Int) (x : S66) : Bool:=!zw8 met x && (decide (0≤x.f0∧x.f0≤i) && decide (-1≤x.f1∧x.f1≤nozN bs x.f0 - 1))
def zjs (bs : List S27) : List S66→Int→List S66→Bool
 | [],_,_=>true
 | x :: rest,i,met=>feedB bs met i x && zjs bs rest (i + 1) (met ++ [x])
def okCh (bs : List S27) (fs : List S66) : Bool:=bs.all okX && (decide (1≤bs.length∧bs.length≤4∧fs.length + 1 = bs.length) && zjs bs fs 0 [])
theorem znd (bs : List S27) (hS : bs.all shX = true) : ∀ (rest : List S66) (i : Int) (met : List S66),0≤i→i + rest.length + 1≤bs.length→zbc bs rest i met = some (zjs bs rest i met)
 | [],i,met,h0,h1=>rfl
 | x :: rest,i,met,h0,h1=>by
  simp only [List.length_cons] at h1
  simp only [zbc,zjs,feedB]
  cases hm : zw8 met x with
  | true=>rfl
  | false =>
   rw [if_neg (by decide),c_in,Option.bind_some]
   by_cases c : 0≤x.f0∧x.f0≤i
   ·have hs:=all_rd hS c.1 (show x.f0 < (bs.length : Int) by omega)
    simp only [shX,decide_eq_true_eq] at hs
    rw [decide_eq_true c,if_pos rfl,if_pos c.1,if_pos (by omega),w64 (by omega),c_in,Option.bind_some]
    by_cases e : -1≤x.f1∧x.f1≤nozN bs x.f0 - 1
    ·rw [decide_eq_true e]
     have e' : -1≤x.f1∧x.f1≤((zqo bs x.f0).f1.length : Int) - 1:=e
     rw [decide_eq_true e',if_pos rfl,znd bs hS rest (i + 1) (met ++ [x]) (by omega) (by omega)]
     rfl
    ·rw [decide_eq_false e]
     have e' : ¬ (-1≤x.f1∧x.f1≤((zqo bs x.f0).f1.length : Int) - 1):=e
     rw [decide_eq_false e',if_neg (by decide)]
     rfl
   ·rw [decide_eq_false c,if_neg (by decide)];rfl
theorem zg0 {bs : List S27} {fs : List S66} (hS : bs.all shX = true) : ca_isChain.f bs fs = some (okCh bs fs):=by
 unfold ca_isChain.f okCh
 rw [c_in,Option.bind_some]
 have hc : cf_isChain.f bs = some (!bs.all okX):=by
  unfold cf_isChain.f
  have : ∀ xs : List S27,(∀ x ∈ xs,x.f0.f0.length≤1000)→anyM (fun x=>ca_isChain_1.f x.f0.f0 x.f0.f1 x.f1 x.f2 x.f3) xs = some (!xs.all okX):=by
   intro xs
   induction xs with
   | nil=>intro _;rfl
   | cons x xs ih =>
    intro hx
    simp only [anyM,List.all_cons]
    have : ca_isChain_1.f x.f0.f0 x.f0.f1 x.f1 x.f2 x.f3 = some (!okX x):=by
     unfold ca_isChain_1.f
     rw [isBasin_eq (hx x (by simp))];rfl
    rw [this,Option.bind_some,ih (fun y hy=>hx y (by simp [hy]))]
    cases okX x<;>rfl
  refine this bs (fun x hx=>?_)
  have:=List.all_eq_true.1 hS x hx
  simp only [shX,decide_eq_true_eq] at this
  omega
 by_cases c : 1≤(bs.length : Int)∧(bs.length : Int)≤4
 ·rw [decide_eq_true c,if_pos rfl]
  by_cases e : (fs.length : Int) = (bs.length : Int) - 1
  ·rw [if_pos e,hc,Option.bind_some,decide_eq_true (by omega)]
   cases ha : bs.all okX with
   | false=>rfl
   | true =>
    rw [if_neg (by decide),znd bs hS fs 0 [] (by omega) (by omega)]
    rfl
  ·rw [if_neg e,decide_eq_false (by omega),Bool.false_and,Bool.and_false]
 ·rw [decide_eq_false c,if_neg (by decide),decide_eq_false (by omega),Bool.false_and,Bool.and_false]
theorem rc_l2 (bs : List S27) (fs : List S66) (hf : fs.length≤6) (i : Int) (h0 : 0≤i) (h1 : i < fs.length) {r : Option Bool} {N0 : Nat} (a b : Int) (hr : ∀ k,N0≤k→q4_Chain.l1 k (i + 1) bs fs = r) : ∀ (d k : Nat) (j : Int),0≤j→j + d = i→N0 + d < k→
 q4_Chain.l2 k i j bs fs a b = if ((fs.take i.toNat).drop j.toNat).any (fun g=>g.f0 == a && (g.f1 == b)) = true then some false else r
 | 0,k,j,p0,p1,hk=>by
  obtain ⟨k,rfl⟩:=ksucc (by omega : 0 < k)
  simp only [q4_Chain.l2]
  rw [if_neg (by omega),w64 (n:=i + 1) (by omega),hr k (by omega),List.drop_of_length_le (by rw [List.length_take];omega),List.any_nil,if_neg (by decide)]
 | d + 1,k,j,p0,p1,hk=>by
  obtain ⟨k,rfl⟩:=ksucc (by omega : 0 < k)
  simp only [q4_Chain.l2]
  have hj : j.toNat < (fs.take i.toNat).length:=by rw [List.length_take];omega
  have e : (fs.take i.toNat).drop j.toNat = zqc fs j :: (fs.take i.toNat).drop (j.toNat + 1):=by
   rw [List.drop_eq_getElem_cons hj]
   have hj2 : j.toNat < fs.length:=by omega
   simp [zqc,hj2]
  rw [if_pos (by omega),if_pos p0,if_pos (by omega),e,List.any_cons,w64 (n:=j + 1) (by omega)]
  cases c : ((zqc fs j).f0 == a && ((zqc fs j).f1 == b)) with
  | true=>rw [if_pos rfl,Bool.true_or,if_pos rfl]
  | false=>rw [if_neg (by decide),Bool.false_or,rc_l2 bs fs hf i h0 h1 a b hr d k (j + 1) (by omega) (by omega) (by omega),show (j + 1).toNat = j.toNat + 1 by omega]
theorem has_any (met : List S66) (x : S66) : met.any (fun g=>g.f0 == x.f0 && (g.f1 == x.f1)) = zw8 met x:=by
 unfold zw8
 congr 1
 funext g
 rw [Bool.beq_comm (a:=g.f0),Bool.beq_comm (a:=g.f1)]
theorem rc_l1 (bs : List S27) (fs : List S66) (hS : bs.all shX = true) (hb : bs.length≤6) (hl : fs.length + 1 = bs.length) : ∀ (d k : Nat) (i : Int),0≤i→i + d = fs.length→10 * d < k→
 q4_Chain.l1 k i bs fs = some (zjs bs (fs.drop i.toNat) i (fs.take i.toNat))
 | 0,k,i,h0,h1,hk=>by
  obtain ⟨k,rfl⟩:=ksucc (by omega : 0 < k)
  simp only [q4_Chain.l1]
  rw [if_neg (by omega),List.drop_of_length_le (by omega)];rfl
 | d + 1,k,i,h0,h1,hk=>by
  obtain ⟨k,rfl⟩ : ∃ m,k = m + 1 + 1:=⟨k - 2,by omega⟩
  simp only [q4_Chain.l1,q4_Chain.j3]
  rw [if_pos (by omega),if_pos h0,r4_in,Option.bind_some,zp8 h0 (by omega)]
  simp only [zjs,feedB]
  by_cases c : 0≤(zqc fs i).f0∧(zqc fs i).f0≤i
  ·have hs:=all_rd hS c.1 (show (zqc fs i).f0 < (bs.length : Int) by omega)
   simp only [shX,decide_eq_true_eq] at hs
   rw [decide_eq_true c,if_pos rfl,if_pos c.1,if_pos (by omega),w64 (n:=_ - 1) (by omega),r4_in,Option.bind_some]
   by_cases e : -1≤(zqc fs i).f1∧(zqc fs i).f1≤nozN bs (zqc fs i).f0 - 1
   ·have e' : -1≤(zqc fs i).f1∧(zqc fs i).f1≤((zqo bs (zqc fs i).f0).f1.length : Int) - 1:=e
    rw [decide_eq_true e,decide_eq_true e',Bool.not_true,if_neg (by decide)]
    rw [rc_l2 bs fs (by omega) i h0 (by omega) (N0:=10 * d + 1) _ _ (fun k hk=>rc_l1 bs fs hS hb hl d k (i + 1) (by omega) (by omega) (by omega)) i.toNat k 0 (by omega) (by omega) (by omega)]
    rw [Int.toNat_zero,List.drop_zero,has_any,show (i + 1).toNat = i.toNat + 1 by omega,zpd h0 (by omega)]
    cases zw8 (fs.take i.toNat) (zqc fs i)<;>simp
   ·have e' : ¬ (-1≤(zqc fs i).f1∧(zqc fs i).f1≤((zqo bs (zqc fs i).f0).f1.length : Int) - 1):=e
    rw [decide_eq_false e,decide_eq_false e',Bool.not_false,if_pos rfl]
    simp
  ·rw [decide_eq_false c,if_neg (by decide)]
   simp
theorem rc_l0 (bs : List S27) (fs : List S66) (hS : bs.all shX = true) (hb : bs.length≤6) (hf : fs.length≤6) : ∀ (d k : Nat) (i : Int),0≤i→i + d = bs.length→100 + d < k→
 q4_Chain.l0 k i bs fs = some ((bs.drop i.toNat).all okX && (decide (1≤bs.length∧bs.length≤4∧fs.length + 1 = bs.length) && zjs bs fs 0 []))
 | 0,k,i,h0,h1,hk=>by
  obtain ⟨k,rfl⟩ : ∃ m,k = m + 1 + 1:=⟨k - 2,by omega⟩
  simp only [q4_Chain.l0,q4_Chain.j1]
  rw [if_neg (by omega),r4_in,Option.bind_some,List.drop_of_length_le (by omega),List.all_nil,Bool.true_and]
  by_cases c : 1≤(bs.length : Int)∧(bs.length : Int)≤4
  ·rw [decide_eq_true c,if_pos rfl,w64 (by omega)]
   by_cases e : (fs.length : Int) = (bs.length : Int) - 1
   ·rw [show ((fs.length : Int) != (bs.length : Int) - 1) = false by simpa using e,if_neg (by decide),decide_eq_true (by omega),rc_l1 bs fs hS hb (by omega) fs.length k 0 (by omega) (by omega) (by omega)]
    rfl
   ·rw [show ((fs.length : Int) != (bs.length : Int) - 1) = true by simpa using e,if_pos rfl,decide_eq_false (by omega)];rfl
  ·rw [decide_eq_false c,if_neg (by decide),if_pos trivial,decide_eq_false (by omega)];rfl
 | d + 1,k,i,h0,h1,hk=>by
  obtain ⟨k,rfl⟩:=ksucc (by omega : 0 < k)
  simp only [q4_Chain.l0]
  have hs:=all_rd hS h0 (show i < (bs.length : Int) by omega)
  simp only [shX,decide_eq_true_eq] at hs
  rw [if_pos (by omega),if_pos h0,refBasin_eq (by omega) (by omega) (by omega),Option.bind_some,zjt h0 (by omega),List.all_cons,w64 (n:=i + 1) (by omega)]
  cases c : okX (zqo bs i) with
  | true =>
   unfold okX at c
   rw [c,if_pos rfl,rc_l0 bs fs hS hb hf d k (i + 1) (by omega) (by omega) (by omega),show (i + 1).toNat = i.toNat + 1 by omega,Bool.true_and]
  | false =>
   unfold okX at c
   rw [c,if_neg (by decide)];rfl
theorem rChain_eq {bs : List S27} {fs : List S66} (hS : bs.all shX = true) (hb : bs.length≤6) (hf : fs.length≤6) {k : Nat} (hk : 110≤k) : q4_Chain.f k bs fs = some (okCh bs fs):=by
 unfold q4_Chain.f okCh
 have:=rc_l0 bs fs hS hb hf bs.length k 0 (by omega) (by omega) (by omega)
 simpa using this
theorem zp3 (bs : List S27) (fs : List S66) : ∀ (d : Nat) (i : Int),0≤i→i + d = fs.length→zjs bs (fs.drop i.toNat) i (fs.take i.toNat) = true→∀ j : Int,i≤j→j < fs.length→feedB bs (fs.take j.toNat) j (zqc fs j) = true
 | 0,i,h0,h1,h,j,p0,p1=>by omega
 | d + 1,i,h0,h1,h,j,p0,p1=>by
  rw [zp8 h0 (by omega)] at h
  simp only [zjs,Bool.and_eq_true] at h
  by_cases e : j = i
  ·subst e;exact h.1
  ·rw [← zpd h0 (by omega),show i.toNat + 1 = (i + 1).toNat by omega] at h
   exact zp3 bs fs d (i + 1) (by omega) (by omega) h.2 j (by omega) p1
structure OkCh (bs : List S27) (fs : List S66) : Prop where
 n1 : 1≤bs.length
 n2 : bs.length≤4
 nf : fs.length + 1 = bs.length
 bas : ∀ i : Int,0≤i→i < bs.length→OkB (zqo bs i).f0.f0 (zqo bs i).f0.f1 (zqo bs i).f1 (zqo bs i).f2 (zqo bs i).f3
 feed : ∀ i : Int,0≤i→i < fs.length→(0≤(zqc fs i).f0∧(zqc fs i).f0≤i)∧-1≤(zqc fs i).f1∧(zqc fs i).f1≤nozN bs (zqc fs i).f0 - 1
 new : ∀ i : Int,0≤i→i < fs.length→zw8 (fs.take i.toNat) (zqc fs i) = false
theorem zj0 {bs : List S27} {fs : List S66} (h : okCh bs fs = true) : OkCh bs fs:=by
 unfold okCh at h
 simp only [Bool.and_eq_true,decide_eq_true_eq] at h
 obtain ⟨ha,⟨h1,h2,h3⟩,hf⟩:=h
 have at_:=zp3 bs fs fs.length 0 (by omega) (by omega) (by simpa using hf)
 refine ⟨h1,h2,h3,fun i i0 i1=>okB_iff.1 (all_rd ha i0 i1),fun i i0 i1=>?_,fun i i0 i1=>?_⟩
 ·have:=at_ i i0 i1
  simp only [feedB,Bool.and_eq_true,decide_eq_true_eq,Bool.not_eq_true'] at this
  exact ⟨this.2.1,this.2.2⟩
 ·have:=at_ i i0 i1
  simp only [feedB,Bool.and_eq_true,decide_eq_true_eq,Bool.not_eq_true'] at this
  exact this.1
def leL : List Int→List Int→Prop
 | x :: l,y :: m=>x≤y∧leL l m
 | [],[]=>True
 | _,_=>False
theorem leL.refl : ∀ l : List Int,leL l l
 | []=>trivial
 | x :: l=>⟨Int.le_refl x,leL.refl l⟩
theorem leL.trans : ∀ {a b c : List Int},leL a b→leL b c→leL a c
 | [],[],[],_,_=>trivial
 | x :: a,y :: b,z :: c,h,k=>⟨Int.le_trans h.1 k.1,leL.trans h.2 k.2⟩
 | [],_ :: _,_,h,_=>h.elim
 | _ :: _,[],_,h,_=>h.elim
 | [],[],_ :: _,_,k=>k.elim
 | _ :: _,_ :: _,[],_,k=>k.elim
section
variable {rows : List S126} {draw : Int} {noz : List S48} {weir spill : Int}
theorem over_is (h : OkB rows draw noz weir spill) {c : Int} (hc : 0≤c) (g : lev rows noz weir spill c < 40) :
 c - (zvt rows noz weir spill c).sum = over weir spill (lev rows noz weir spill c) + (shGo (gat rows noz (lev rows noz weir spill c)) (gat rows noz (lev rows noz weir spill c + 1)) (c - tot rows noz weir spill (lev rows noz weir spill c))).2:=by
 have L:=zjl h hc
 have q:=(zb3 (r:=c - tot rows noz weir spill (lev rows noz weir spill c)) (zx6 h (show lev rows noz weir spill c≤lev rows noz weir spill c + 1 by omega)) (by have:=L.2.2.1;omega)).2.2.2.2
 have te : tot rows noz weir spill (lev rows noz weir spill c) = (gat rows noz (lev rows noz weir spill c)).sum + over weir spill (lev rows noz weir spill c):=rfl
 have e : zvt rows noz weir spill c = (shGo (gat rows noz (lev rows noz weir spill c)) (gat rows noz (lev rows noz weir spill c + 1)) (c - tot rows noz weir spill (lev rows noz weir spill c))).1:=by unfold zvt;rw [if_pos g]
 rw [e];omega
theorem over_ge (h : OkB rows draw noz weir spill) {c : Int} (hc : 0≤c) : over weir spill (lev rows noz weir spill c)≤c - (zvt rows noz weir spill c).sum:=by
 have L:=zjl h hc
 have l3:=L.2.2.1
 by_cases g : lev rows noz weir spill c < 40
 ·rw [over_is h hc g]
  have q:=(zb3 (r:=c - tot rows noz weir spill (lev rows noz weir spill c)) (zx6 h (show lev rows noz weir spill c≤lev rows noz weir spill c + 1 by omega)) (by omega)).2.1
  omega
 ·have te : tot rows noz weir spill (lev rows noz weir spill c) = (gat rows noz (lev rows noz weir spill c)).sum + over weir spill (lev rows noz weir spill c):=rfl
  unfold zvt;rw [if_neg g];omega
end
def inn (fs : List S66) (cups i : Int) (xs : List (List Int)) (ys : List Int) : Int:=
 if 0 < i then (if 0≤(zqc fs (i - 1)).f1 then rd (rd_L3 xs (zqc fs (i - 1)).f0) (zqc fs (i - 1)).f1 else rd ys (zqc fs (i - 1)).f0) else cups
def shX' (x : S27) (c : Int) : List Int:=zvt x.f0.f0 x.f1 x.f2 x.f3 c
def flL (fs : List S66) (cups : Int) : List S27→Int→List (List Int)→List Int→List (List Int) × List Int
 | [],_,xs,ys=>(xs,ys)
 | x :: rest,i,xs,ys=>flL fs cups rest (i + 1) (xs ++ [shX' x (inn fs cups i xs ys)]) (ys ++ [inn fs cups i xs ys - (shX' x (inn fs cups i xs ys)).sum])
structure FInv (bs : List S27) (i : Int) (xs : List (List Int)) (ys : List Int) : Prop where
 lx : (xs.length : Int) = i
 ly : (ys.length : Int) = i
 rows : ∀ j : Int,0≤j→j < i→((rd_L3 xs j).length : Int) = nozN bs j∧∀ v ∈ rd_L3 xs j,0≤v∧v≤1000
 over : ∀ j : Int,0≤j→j < i→0≤rd ys j∧rd ys j≤10000
theorem rdL_snoc {xs : List (List Int)} {l : List Int} {j : Int} (h0 : 0≤j) : rd_L3 (xs ++ [l]) j = if j < (xs.length : Int) then rd_L3 xs j else if j = (xs.length : Int) then l else []:=by
 unfold rd_L3
 by_cases c : j < (xs.length : Int)
 ·rw [if_pos c,List.getD_eq_getElem?_getD,List.getD_eq_getElem?_getD,List.getElem?_append_left (by omega)]
 ·rw [if_neg c,List.getD_eq_getElem?_getD,List.getElem?_append_right (by omega)]
  by_cases e : j = (xs.length : Int)
  ·rw [if_pos e,show j.toNat - xs.length = 0 by omega];rfl
  ·rw [if_neg e,List.getElem?_eq_none (by simp;omega)];rfl
theorem rd_snoc {ys : List Int} {n : Int} {j : Int} (h0 : 0≤j) : rd (ys ++ [n]) j = if j < (ys.length : Int) then rd ys j else if j = (ys.length : Int) then n else 0:=by
 unfold rd
 by_cases c : j < (ys.length : Int)
 ·rw [if_pos c,List.getD_eq_getElem?_getD,List.getD_eq_getElem?_getD,List.getElem?_append_left (by omega)]
 ·rw [if_neg c,List.getD_eq_getElem?_getD,List.getElem?_append_right (by omega)]
  by_cases e : j = (ys.length : Int)
  ·rw [if_pos e,show j.toNat - ys.length = 0 by omega];rfl
  ·rw [if_neg e,List.getElem?_eq_none (by simp;omega)];rfl
theorem share_X {bs : List S27} {fs : List S66} (h : OkCh bs fs) {i c : Int} (h0 : 0≤i) (h1 : i < bs.length) (c0 : 0≤c) (c1 : c≤10000) :
 (∀ v ∈ shX' (zqo bs i) c,0≤v∧v≤1000)∧((shX' (zqo bs i) c).length : Int) = nozN bs i∧0≤c - (shX' (zqo bs i) c).sum∧c - (shX' (zqo bs i) c).sum≤10000:=by
 have hb:=h.bas i h0 h1
 have s:=zpi hb c0
 have o:=over_ge hb c0
 have o2:=zkv hb (zjl hb c0).1 (zjl hb c0).2.1
 have n0:=sum_nn (fun x hx=>(s.1 x hx).1)
 refine ⟨s.1,by unfold shX' nozN;rw [s.2],?_,?_⟩
 ·unfold shX';omega
 ·unfold shX';omega
theorem rd_inR {X : List Int} {i : Int} (hX : ∀ x ∈ X,0≤x∧x≤1000) (h0 : 0≤i) (h1 : i < X.length) : 0≤rd X i∧rd X i≤1000:=by
 have hi : i.toNat < X.length:=by omega
 have : rd X i = X[i.toNat]:=by simp [rd,hi]
 rw [this];exact hX _ (List.getElem_mem _)
theorem inn_in {bs : List S27} {fs : List S66} (h : OkCh bs fs) {cups i : Int} {xs : List (List Int)} {ys : List Int} (c0 : 0≤cups) (c1 : cups≤10000) (h0 : 0≤i) (h1 : i < bs.length) (hI : FInv bs i xs ys) : 0≤inn fs cups i xs ys∧inn fs cups i xs ys≤10000:=by
 unfold inn
 by_cases p : 0 < i
 ·rw [if_pos p]
  have nf:=h.nf
  have f:=h.feed (i - 1) (by omega) (by omega)
  by_cases q : 0≤(zqc fs (i - 1)).f1
  ·rw [if_pos q]
   have r:=hI.rows (zqc fs (i - 1)).f0 (by omega) (by omega)
   have:=rd_inR r.2 q (by omega)
   omega
  ·rw [if_neg q]
   have:=hI.over (zqc fs (i - 1)).f0 (by omega) (by omega)
   omega
 ·rw [if_neg p];omega
theorem FInv.step {bs : List S27} {fs : List S66} (h : OkCh bs fs) {i c : Int} {xs : List (List Int)} {ys : List Int} (h0 : 0≤i) (h1 : i < bs.length) (hI : FInv bs i xs ys) (c0 : 0≤c) (c1 : c≤10000) : FInv bs (i + 1) (xs ++ [shX' (zqo bs i) c]) (ys ++ [c - (shX' (zqo bs i) c).sum]):=by
 have s:=share_X h h0 h1 c0 c1
 have lx:=hI.lx
 have ly:=hI.ly
 refine ⟨by simp;omega,by simp;omega,fun j j0 j1=>?_,fun j j0 j1=>?_⟩
 ·rw [rdL_snoc j0]
  by_cases e : j < (xs.length : Int)
  ·rw [if_pos e];exact hI.rows j j0 (by omega)
  ·rw [if_neg e,if_pos (by omega),show j = i by omega];exact ⟨s.2.1,s.1⟩
 ·rw [rd_snoc j0]
  by_cases e : j < (ys.length : Int)
  ·rw [if_pos e];exact hI.over j j0 (by omega)
  ·rw [if_neg e,if_pos (by omega)];exact s.2.2
theorem FInv.nil (bs : List S27) : FInv bs 0 [] []:=⟨rfl,rfl,fun j a b=>by omega,fun j a b=>by omega⟩
def filX (x : S27) : S110:=zkh x (x.f0.f1,x.f2,x.f3,grid x.f0.f0 x.f1)
theorem zg4 : ∀ (l : List S27) (acc : List S110),(∀ x ∈ l,OkB x.f0.f0 x.f0.f1 x.f1 x.f2 x.f3)→acc.length + l.length≤1000→zxx l acc = some (acc ++ l.map filX)
 | [],acc,h,hl=>by simp [zxx]
 | x :: l,acc,h,hl=>by
  simp only [List.length_cons] at hl
  rw [zxx,fillK_eq (h x (by simp)),Option.bind_some,if_pos (by omega),zg4 l _ (fun y hy=>h y (by simp [hy])) (by simp;omega)]
  simp [filX]
theorem flow_go {bs : List S27} {fs : List S66} (h : OkCh bs fs) {cups : Int} (c0 : 0≤cups) (c1 : cups≤10000) {k : Nat} (hk : 20≤k) : ∀ (d : Nat) (i : Int) (xs : List (List Int)) (ys : List Int) (u : Int),0≤i→i + d = bs.length→FInv bs i xs ys→(¬ 0 < i→u = cups)→
 zgr k fs ((bs.drop i.toNat).map filX) i u xs ys = some (flL fs cups (bs.drop i.toNat) i xs ys)
 | 0,i,xs,ys,u,h0,h1,hI,hu=>by
  rw [List.drop_of_length_le (by omega)];rfl
 | d + 1,i,xs,ys,u,h0,h1,hI,hu=>by
  have n2:=h.n2
  have nf:=h.nf
  have lx:=hI.lx
  have ly:=hI.ly
  have ii:=inn_in h c0 c1 h0 (show i < (bs.length : Int) by omega) hI
  rw [zjt h0 (by omega),List.map_cons]
  simp only [zgr,flL]
  have e : flowIn fs i u xs ys = some (inn fs cups i xs ys):=by
   unfold flowIn inn
   by_cases p : 0 < i
   ·have f:=h.feed (i - 1) (by omega) (by omega)
    rw [if_pos p,if_pos p,if_pos (by omega),if_pos f.1.1,if_pos (by omega)]
    by_cases q : 0≤(zqc fs (i - 1)).f1
    ·have r:=hI.rows (zqc fs (i - 1)).f0 (by omega) (by omega)
     rw [if_pos q,if_pos q,if_pos (by omega),if_pos (by omega)]
    ·rw [if_neg q,if_neg q]
   ·rw [if_neg p,if_neg p,hu p]
  have hb:=h.bas i h0 (by omega)
  have sh : gf_shares.f k (filX (zqo bs i)).f0.f0.f0 (filX (zqo bs i)).f0.f0.f1 (filX (zqo bs i)).f0.f1 (filX (zqo bs i)).f0.f2 (filX (zqo bs i)).f0.f3 (filX (zqo bs i)).f1 (inn fs cups i xs ys) = some (shX' (zqo bs i) (inn fs cups i xs ys),inn fs cups i xs ys - (shX' (zqo bs i) (inn fs cups i xs ys)).sum):=shares_eq hb ii.1 ii.2 hk
  rw [e,Option.bind_some,sh,Option.bind_some,if_pos (by omega),if_pos (by omega)]
  have:=flow_go h c0 c1 hk d (i + 1) _ _ (inn fs cups i xs ys) (by omega) (by omega) (hI.step h h0 (by omega) ii.1 ii.2) (fun p=>absurd (show 0 < i + 1 by omega) p)
  rw [show (i + 1).toNat = i.toNat + 1 by omega] at this
  exact this
def zxi (bs : List S27) (fs : List S66) (cups : Int) : List (List Int) × List Int:=flL fs cups bs 0 [] []
theorem okX_all {bs : List S27} {fs : List S66} (h : okCh bs fs = true) : ∀ x ∈ bs,OkB x.f0.f0 x.f0.f1 x.f1 x.f2 x.f3:=by
 unfold okCh at h
 simp only [Bool.and_eq_true] at h
 intro x hx
 exact okB_iff.1 (List.all_eq_true.1 h.1 x hx)
theorem basins_eq {bs : List S27} {fs : List S66} (h : okCh bs fs = true) : ca_basins.f bs = some (bs.map filX):=by
 have n2:=(zj0 h).n2
 have:=zg4 bs [] (okX_all h) (by simp;omega)
 simpa [ca_basins.f] using this
theorem cflow_eq {bs : List S27} {fs : List S66} (h : okCh bs fs = true) {cups : Int} (c0 : 0≤cups) (c1 : cups≤10000) {k : Nat} (hk : 20≤k) : ca_flow.f k (bs.map filX) fs cups = some (zxi bs fs cups):=by
 have:=flow_go (zj0 h) c0 c1 hk bs.length 0 [] [] cups (by omega) (by omega) (FInv.nil bs) (fun _=>rfl)
 simpa [ca_flow.f,zxi] using this
theorem rflow_go {bs : List S27} {fs : List S66} (h : OkCh bs fs) {cups : Int} (c0 : 0≤cups) (c1 : cups≤10000) : ∀ (d k : Nat) (i : Int) (xs : List (List Int)) (ys : List Int),0≤i→i + d = bs.length→FInv bs i xs ys→70 + d < k→
 q4_Flows.l0 k cups xs ys i bs fs = some (flL fs cups (bs.drop i.toNat) i xs ys)
 | 0,k,i,xs,ys,h0,h1,hI,hk=>by
  obtain ⟨k,rfl⟩:=ksucc (by omega : 0 < k)
  simp only [q4_Flows.l0]
  rw [if_neg (by omega),List.drop_of_length_le (by omega)];rfl
 | d + 1,k,i,xs,ys,h0,h1,hI,hk=>by
  obtain ⟨k,rfl⟩:=ksucc (by omega : 0 < k)
  have n2:=h.n2
  have nf:=h.nf
  have lx:=hI.lx
  have ly:=hI.ly
  have ii:=inn_in h c0 c1 h0 (show i < (bs.length : Int) by omega) hI
  have hb:=h.bas i h0 (by omega)
  have ih:=rflow_go h c0 c1 d k (i + 1) _ _ (by omega) (by omega) (hI.step h h0 (by omega) ii.1 ii.2) (by omega)
  rw [show (i + 1).toNat = i.toNat + 1 by omega] at ih
  have sh : ∀ c,c = inn fs cups i xs ys→q4_Shares.f k (zqo bs i).f0.f0 (zqo bs i).f0.f1 (zqo bs i).f1 (zqo bs i).f2 (zqo bs i).f3 c = some (shX' (zqo bs i) (inn fs cups i xs ys),inn fs cups i xs ys - (shX' (zqo bs i) (inn fs cups i xs ys)).sum):=fun c e=>by
   subst e;exact rShares_eq hb ii.1 ii.2 (by omega)
  simp only [q4_Flows.l0]
  rw [if_pos (by omega),zjt h0 (by omega),w64 (n:=i + 1) (by omega)]
  simp only [flL]
  by_cases p : i > 0
  ·have f:=h.feed (i - 1) (by omega) (by omega)
   rw [if_pos p,w64 (n:=i - 1) (by omega),if_pos (by omega),if_pos (by omega),if_pos f.1.1,if_pos (by omega)]
   by_cases q : (zqc fs (i - 1)).f1 ≥ 0
   ·have r:=hI.rows (zqc fs (i - 1)).f0 (by omega) (by omega)
    rw [if_pos q,if_pos (by omega),if_pos q,if_pos (by omega),if_pos h0,sh _ (by unfold inn;rw [if_pos p,if_pos q]),Option.bind_some,if_pos (by omega),if_pos (by omega)]
    exact ih
   ·rw [if_neg q,if_pos h0,sh _ (by unfold inn;rw [if_pos p,if_neg q]),Option.bind_some,if_pos (by omega),if_pos (by omega)]
    exact ih
  ·rw [if_neg p,if_pos h0,sh _ (by unfold inn;rw [if_neg p]),Option.bind_some,if_pos (by omega),if_pos (by omega)]
   exact ih
theorem rFlows_eq {bs : List S27} {fs : List S66} (h : okCh bs fs = true) {cups : Int} (c0 : 0≤cups) (c1 : cups≤10000) {k : Nat} (hk : 80≤k) : q4_Flows.f k bs fs cups = some (zxi bs fs cups):=by
 have n2:=(zj0 h).n2
 have:=rflow_go (zj0 h) c0 c1 bs.length k 0 [] [] (by omega) (by omega) (FInv.nil bs) (by omega)
 simpa [q4_Flows.f,zxi] using this
theorem flL_inv {bs : List S27} {fs : List S66} (h : OkCh bs fs) {cups : Int} (c0 : 0≤cups) (c1 : cups≤10000) : ∀ (d : Nat) (i : Int) (xs : List (List Int)) (ys : List Int),0≤i→i + d = bs.length→FInv bs i xs ys→FInv bs bs.length (flL fs cups (bs.drop i.toNat) i xs ys).1 (flL fs cups (bs.drop i.toNat) i xs ys).2
 | 0,i,xs,ys,h0,h1,hI=>by
  rw [List.drop_of_length_le (by omega),show (bs.length : Int) = i by omega];exact hI
 | d + 1,i,xs,ys,h0,h1,hI=>by
  have ii:=inn_in h c0 c1 h0 (show i < (bs.length : Int) by omega) hI
  rw [zjt h0 (by omega)]
  have:=flL_inv h c0 c1 d (i + 1) _ _ (by omega) (by omega) (hI.step h h0 (by omega) ii.1 ii.2)
  rw [show (i + 1).toNat = i.toNat + 1 by omega] at this
  exact this
theorem flowsL_inv {bs : List S27} {fs : List S66} (h : okCh bs fs = true) {cups : Int} (c0 : 0≤cups) (c1 : cups≤10000) : FInv bs bs.length (zxi bs fs cups).1 (zxi bs fs cups).2:=by
 have:=flL_inv (zj0 h) c0 c1 bs.length 0 [] [] (by omega) (by omega) (FInv.nil bs)
 simpa [zxi] using this
def bis (g : Int→Bool) : Nat→Int→Int→Int
 | 0,lo,_=>lo
 | n + 1,lo,hi=>if lo < hi then (if g ((lo + hi) / 2) = true then bis g n lo ((lo + hi) / 2) else bis g n ((lo + hi) / 2 + 1) hi) else lo
theorem mid {lo hi : Int} (h0 : 0≤lo) (h1 : hi≤10000) (h : lo < hi) : wrap64 (Int.tdiv (wrap64 (lo + hi)) 2) = (lo + hi) / 2∧lo≤(lo + hi) / 2∧(lo + hi) / 2 < hi:=by
 rw [w64 (n:=lo + hi) (by omega),Int.tdiv_eq_ediv_of_nonneg (by omega),w64 (by omega)]
 omega
theorem zn9 {q : Int→Option Bool} {g : Int→Bool} (hq : ∀ m,0≤m→m≤10000→q m = some (g m)) : ∀ (n k : Nat) (lo hi : Int),0≤lo→hi≤10000→hi - lo < 2 ^ n→n < k→bisGo q k lo hi = some (bis g n lo hi)
 | 0,k,lo,hi,h0,h1,hd,hk=>by
  obtain ⟨k,rfl⟩:=ksucc (by omega : 0 < k)
  rw [bisGo,if_neg (by omega)];rfl
 | n + 1,k,lo,hi,h0,h1,hd,hk=>by
  obtain ⟨k,rfl⟩:=ksucc (by omega : 0 < k)
  rw [bisGo,bis]
  by_cases c : lo < hi
  ·obtain ⟨e,m0,m1⟩:=mid h0 h1 c
   have p : (2 : Int) ^ (n + 1) = 2 * 2 ^ n:=by rw [Int.pow_succ];omega
   rw [if_pos c,if_pos c,e,hq _ (by omega) (by omega),Option.bind_some,w64 (n:=(lo + hi) / 2 + 1) (by omega)]
   cases g ((lo + hi) / 2) with
   | true=>rw [if_pos rfl,if_pos rfl];exact zn9 hq n k _ _ (by omega) (by omega) (by omega) (by omega)
   | false=>rw [if_neg (by decide),if_neg (by decide)];exact zn9 hq n k _ _ (by omega) (by omega) (by omega) (by omega)
  ·rw [if_neg c,if_neg c]
def getsL (bs : List S27) (fs : List S66) (b n cups : Int) : Int:=rd (rd_L3 (zxi bs fs cups).1 b) n
def nozB (bs : List S27) (b n : Int) : Bool:=decide (0≤b∧b≤(bs.length : Int) - 1) && decide (0≤n∧n≤nozN bs b - 1)
theorem zji {bs : List S27} {b n : Int} : nozB bs b n = true↔(0≤b∧b≤(bs.length : Int) - 1)∧0≤n∧n≤nozN bs b - 1:=by
 unfold nozB;simp only [Bool.and_eq_true,decide_eq_true_eq]
theorem zb2 {bs : List S27} (hS : bs.all shX = true) {b : Int} (h0 : 0≤b) (h1 : b < bs.length) : nozN bs b≤8∧0≤nozN bs b:=by
 have hs:=all_rd hS h0 h1
 simp only [shX,decide_eq_true_eq] at hs
 unfold nozN;omega
theorem nz_eq {bs : List S27} {fs : List S66} (hS : bs.all shX = true) (hb : bs.length≤6) {b n : Int} : q4_Nozzle.f bs fs b n = some (nozB bs b n):=by
 unfold q4_Nozzle.f nozB
 rw [w64 (by omega),r4_in,Option.bind_some]
 by_cases c : 0≤b∧b≤(bs.length : Int) - 1
 ·have:=zb2 hS c.1 (by omega)
  have e : w64 (n:=(((zqo bs b).f1.length : Nat) : Int) - 1) (by unfold nozN at this;omega) = w64 (n:=(((zqo bs b).f1.length : Nat) : Int) - 1) (by unfold nozN at this;omega):=rfl
  rw [decide_eq_true c,if_pos rfl,if_pos c.1,if_pos (by omega),w64 (n:=(((zqo bs b).f1.length : Nat) : Int) - 1) (by unfold nozN at this;omega),r4_in]
  rfl
 ·rw [decide_eq_false c,if_neg (by decide)];rfl
section
variable {bs : List S27} {fs : List S66}
theorem gets_in (h : okCh bs fs = true) {b n cups : Int} (hN : nozB bs b n = true) (c0 : 0≤cups) (c1 : cups≤10000) : (b < ((zxi bs fs cups).1.length : Int))∧n < ((rd_L3 (zxi bs fs cups).1 b).length : Int)∧((zxi bs fs cups).1.length = bs.length)∧((rd_L3 (zxi bs fs cups).1 b).length : Int) = nozN bs b∧((zxi bs fs cups).2.length = bs.length):=by
 have I:=flowsL_inv h c0 c1
 obtain ⟨p,q⟩:=zji.1 hN
 have lx:=I.lx
 have ly:=I.ly
 have r:=(I.rows b p.1 (by omega)).1
 exact ⟨by omega,by omega,by omega,r,by omega⟩
theorem rGets_eq (h : okCh bs fs = true) {b n cups : Int} (hN : nozB bs b n = true) (c0 : 0≤cups) (c1 : cups≤10000) {k : Nat} (hk : 80≤k) : q4_Gets.f k bs fs b n cups = some (getsL bs fs b n cups):=by
 have g:=gets_in h hN c0 c1
 obtain ⟨p,q⟩:=zji.1 hN
 unfold q4_Gets.f
 rw [rFlows_eq h c0 c1 hk,Option.bind_some,if_pos p.1,if_pos g.1,if_pos q.1,if_pos g.2.1]
 rfl
theorem zp7 (h : okCh bs fs = true) {b n claim cups : Int} (hN : nozB bs b n = true) (c0 : 0≤cups) (c1 : cups≤10000) {k : Nat} (hk : 20≤k) : enough.f k (bs.map filX) fs b n claim cups = some (decide (claim≤getsL bs fs b n cups)):=by
 have g:=gets_in h hN c0 c1
 obtain ⟨p,q⟩:=zji.1 hN
 unfold enough.f
 rw [cflow_eq h c0 c1 hk,Option.bind_some,if_pos p.1,if_pos g.1,if_pos q.1,if_pos g.2.1]
 rfl
def leastL (bs : List S27) (fs : List S66) (b n claim : Int) : Int:=bis (fun m=>decide (claim≤getsL bs fs b n m)) 14 0 10000
theorem cLeast_eq (hS : bs.all shX = true) (h : okCh bs fs = true) {b n claim : Int} (hN : nozB bs b n = true) (c0 : 0≤claim) (c1 : claim≤10000) {k : Nat} (hk : 20≤k) : ca_Least.f k bs fs b n claim = some (if claim≤getsL bs fs b n 10000 then (leastL bs fs b n claim,0) else (0,5)):=by
 have n2:=(zj0 h).n2
 obtain ⟨p,q⟩:=zji.1 hN
 have sn:=zb2 hS p.1 (by omega)
 unfold ca_Least.f
 rw [zg0 hS,h,Option.bind_some,if_pos rfl,w64 (by omega),c_in,decide_eq_true p,Option.bind_some,if_pos rfl,if_pos p.1,if_pos (by omega),w64 (by unfold nozN at sn;omega),c_in,decide_eq_true (by unfold nozN at q;exact q),Option.bind_some,if_pos rfl,c_flow,decide_eq_true ⟨c0,c1⟩,Option.bind_some,if_pos rfl,basins_eq h,Option.bind_some,zp7 h hN (by omega) (by omega) hk,Option.bind_some]
 by_cases c : claim≤getsL bs fs b n 10000
 ·rw [decide_eq_true c,if_pos rfl,if_pos c,zn9 (g:=fun m=>decide (claim≤getsL bs fs b n m)) (fun m m0 m1=>zp7 h hN m0 m1 hk) 14 k 0 10000 (by omega) (by omega) (by decide) (by omega)]
  rfl
 ·rw [decide_eq_false c,if_neg (by decide),if_neg c]
theorem cLeast_bad (hS : bs.all shX = true) (hb : bs.length≤6) {b n claim : Int} (h : ¬ (okCh bs fs = true∧nozB bs b n = true∧0≤claim∧claim≤10000)) {k : Nat} : ca_Least.f k bs fs b n claim = some (0,2):=by
 unfold ca_Least.f
 rw [zg0 hS,Option.bind_some]
 cases c : okCh bs fs with
 | false=>rfl
 | true =>
  rw [if_pos rfl,w64 (by omega),c_in,Option.bind_some]
  by_cases p : 0≤b∧b≤(bs.length : Int) - 1
  ·have sn:=zb2 hS p.1 (by omega)
   rw [decide_eq_true p,if_pos rfl,if_pos p.1,if_pos (by omega),w64 (by unfold nozN at sn;omega),c_in,Option.bind_some]
   by_cases q : 0≤n∧n≤((zqo bs b).f1.length : Int) - 1
   ·rw [decide_eq_true q,if_pos rfl,c_flow,Option.bind_some]
    by_cases e : 0≤claim∧claim≤10000
    ·exact absurd ⟨c,zji.2 ⟨p,q⟩,e⟩ h
    ·rw [decide_eq_false e];rfl
   ·rw [decide_eq_false q];rfl
  ·rw [decide_eq_false p];rfl
theorem rl_go (h : okCh bs fs = true) {b n claim : Int} (hN : nozB bs b n = true) : ∀ (m k : Nat) (lo hi : Int),0≤lo→hi≤10000→hi - lo < 2 ^ m→80 + m < k→q4_Least.l0 k b n claim lo hi bs fs = some (bis (fun m=>decide (claim≤getsL bs fs b n m)) m lo hi)
 | 0,k,lo,hi,h0,h1,hd,hk=>by
  obtain ⟨k,rfl⟩:=ksucc (by omega : 0 < k)
  simp only [q4_Least.l0]
  rw [if_neg (by omega)];rfl
 | m + 1,k,lo,hi,h0,h1,hd,hk=>by
  obtain ⟨k,rfl⟩:=ksucc (by omega : 0 < k)
  simp only [q4_Least.l0]
  rw [bis]
  by_cases c : lo < hi
  ·obtain ⟨e,m0,m1⟩:=mid h0 h1 c
   have p : (2 : Int) ^ (m + 1) = 2 * 2 ^ m:=by rw [Int.pow_succ];omega
   rw [if_pos c,if_pos c,e,rGets_eq h hN (by omega) (by omega) (by omega),Option.bind_some,w64 (n:=(lo + hi) / 2 + 1) (by omega)]
   by_cases g : claim≤getsL bs fs b n ((lo + hi) / 2)
   ·rw [if_pos g,decide_eq_true g,if_pos rfl];exact rl_go h hN m k _ _ (by omega) (by omega) (by omega) (by omega)
   ·rw [if_neg g,decide_eq_false g,if_neg (by decide)];exact rl_go h hN m k _ _ (by omega) (by omega) (by omega) (by omega)
  ·rw [if_neg c,if_neg c]
theorem rLeast_eq (h : okCh bs fs = true) {b n claim : Int} (hN : nozB bs b n = true) {k : Nat} (hk : 100≤k) : q4_Least.f k bs fs b n claim = some (if claim≤getsL bs fs b n 10000 then leastL bs fs b n claim else -1):=by
 unfold q4_Least.f
 rw [rGets_eq h hN (by omega) (by omega) (by omega),Option.bind_some]
 by_cases c : claim≤getsL bs fs b n 10000
 ·rw [if_neg (by omega),if_pos c,rl_go h hN 14 k 0 10000 (by omega) (by omega) (by decide) (by omega)];rfl
 ·rw [if_pos (by omega),if_neg c]
end
theorem bis_in (g : Int→Bool) : ∀ (n : Nat) (lo hi : Int),0≤lo→lo≤hi→lo≤bis g n lo hi∧bis g n lo hi≤hi
 | 0,lo,hi,h0,h1=>⟨Int.le_refl _,h1⟩
 | n + 1,lo,hi,h0,h1=>by
  rw [bis]
  by_cases c : lo < hi
  ·rw [if_pos c]
   split
   ·have:=bis_in g n lo ((lo + hi) / 2) h0 (by omega);omega
   ·have:=bis_in g n ((lo + hi) / 2 + 1) hi (by omega) (by omega);omega
  ·rw [if_neg c];omega
theorem leasts_pure (bs : List S27) (fs : List S66) (b n claim : Int) {k : Nat} (hk : 500≤k) : l4_CastleLeasts.f k bs fs b n claim = some true:=by
 obtain ⟨k,rfl⟩ : ∃ m,k = m + 1 + 1:=⟨k - 2,by omega⟩
 unfold l4_CastleLeasts.f
 rw [brief_eq bs fs (by omega),Option.bind_some]
 cases s : briefB bs fs with
 | false=>rw [if_neg (by decide),zkf];rfl
 | true =>
  obtain ⟨hS,hb,hf⟩:=briefB_iff.1 s
  rw [if_pos rfl,rChain_eq hS hb hf (by omega)]
  by_cases g : okCh bs fs = true∧nozB bs b n = true∧0≤claim∧claim≤10000
  ·obtain ⟨h,hN,c⟩:=g
   rw [cLeast_eq hS h hN c.1 c.2 (by omega),Option.bind_some,Option.bind_some,h,if_pos rfl,nz_eq hS hb,hN,Option.bind_some,if_pos rfl,r_cups,decide_eq_true c,Option.bind_some]
   simp only [l4_CastleLeasts.j0,Bool.not_true,Bool.false_eq_true,if_false]
   rw [rLeast_eq h hN (by omega),Option.bind_some]
   by_cases e : claim≤getsL bs fs b n 10000
   ·have:=bis_in (fun m=>decide (claim≤getsL bs fs b n m)) 14 0 10000 (by omega) (by omega)
    rw [if_pos e,if_pos e,if_neg (by unfold leastL;omega)]
    simp [zkf]
   ·rw [if_neg e,if_neg e]
    simp [zkf]
  ·rw [cLeast_bad hS hb g,Option.bind_some,Option.bind_some]
   have fin : l4_CastleLeasts.j0 (k + 1 + 1) b n claim 0 2 true bs fs = some true:=by
    simp [l4_CastleLeasts.j0,zkf]
   cases h : okCh bs fs with
   | false=>rw [if_neg (by decide)];exact fin
   | true =>
    rw [if_pos rfl,nz_eq hS hb,Option.bind_some]
    cases hN : nozB bs b n with
    | false=>rw [if_neg (by decide)];exact fin
    | true =>
     rw [if_pos rfl,r_cups,Option.bind_some]
     by_cases c : 0≤claim∧claim≤10000
     ·exact absurd ⟨h,hN,c⟩ g
     ·rw [decide_eq_false c];exact fin
end Go.Proofs.YtnnmnhpeblhiiaaGreatDoor.C

/- A part of the proof: the walks of the functions that it reaches. TIGHT. -/
import Derived.Test.YtclkbedbocnpkaaGreatDoorMFew13
set_option linter.unusedVariables false
set_option linter.unusedSimpArgs false
namespace Go.Proofs.YtclkbedbocnpkaaGreatDoor.C
open Go.RowKit Go.Proofs.YtclkbedbocnpkaaGreatDoorW.PrintWords Go.Proofs.YtclkbedbocnpkaaGreatDoorW.PrintLast Go.Proofs.YtclkbedbocnpkaaGreatDoorW.PrintMore
set_option linter.unusedVariables false
set_option linter.unusedSimpArgs false
set_option maxHeartbeats 16000000
set_option maxRecDepth 100000
mutual
def l8_GateFewests.j0 : Nat→List Int→List Int→Bool→List (S37)→List (S65)→Option (Bool)
 | 0,_,_,_,_,_=>none
 | k + 1,x1,x2,x27,x556000,x556001=>if x27 = true then ((l8_known.f).bind fun t557=>(some t557)) else ((ga_Fewest.f k x556000 x556001).bind fun bt558=>((ga_Moves.f k x556000 x556001 x1 x2).bind fun bt562=>((q8_Net.f k x556000 x556001).bind fun t566=>(if t566 = true then ((q8_Fewest.f k x556000 x556001).bind fun bt568=>(if bt568.2 = true then (if bt558.2 = 0 then ((q8_Same.f k bt558.1 bt568.1).bind fun t572=>(if t572 = true then (l8_GateFewests.j1 k x1 x2 bt562.1 bt562.2 false x556000 x556001) else (l8_GateFewests.j1 k x1 x2 bt562.1 bt562.2 true x556000 x556001))) else (l8_GateFewests.j1 k x1 x2 bt562.1 bt562.2 true x556000 x556001)) else (if bt558.2 = 5 then (l8_GateFewests.j1 k x1 x2 bt562.1 bt562.2 ((bt558.1.length : Int) != 0) x556000 x556001) else (l8_GateFewests.j1 k x1 x2 bt562.1 bt562.2 true x556000 x556001)))) else (if bt558.2 = 2 then (if (bt558.1.length : Int) = 0 then (if bt562.2 = 2 then (if (bt562.1.length : Int) = 0 then ((l8_known.f).bind fun t567=>(some t567)) else (some false)) else (some false)) else (some false)) else (some false))))))
def l8_GateFewests.j1 : Nat→List Int→List Int→List Int→Int→Bool→List (S37)→List (S65)→Option (Bool)
 | 0,_,_,_,_,_,_,_=>none
 | k + 1,x1,x2,x9,x10,x91,x556000,x556001=>if x91 = true then (some false) else ((q8_Some.f k x556000 x556001 x1).bind fun t573=>(if t573 = true then ((q8_Some.f k x556000 x556001 x2).bind fun t574=>(l8_GateFewests.j2 k x1 x2 x9 x10 (!t574) x556000 x556001)) else (l8_GateFewests.j2 k x1 x2 x9 x10 true x556000 x556001)))
def l8_GateFewests.j2 : Nat→List Int→List Int→List Int→Int→Bool→List (S37)→List (S65)→Option (Bool)
 | 0,_,_,_,_,_,_,_=>none
 | k + 1,x1,x2,x9,x10,x101,x556000,x556001=>if x101 = true then (if x10 = 2 then (if (x9.length : Int) = 0 then ((l8_known.f).bind fun t575=>(some t575)) else (some false)) else (some false)) else ((q8_Moves.f k x556000 x556001 x1 x2).bind fun bt576=>(if bt576.2 = true then (if x10 = 0 then ((q8_Same.f k x9 bt576.1).bind fun t580=>(if t580 = true then ((l8_known.f).bind fun t581=>(some t581)) else (some false))) else (some false)) else (if x10 = 5 then (if (x9.length : Int) = 0 then ((l8_known.f).bind fun t582=>(some t582)) else (some false)) else (some false))))
end
def l8_GateFewests.f (k : Nat) (l0_0 : List (S37)) (l0_1 : List (S65)) (l1 : List Int) (l2 : List Int) : Option (Bool):=(l8_short.f l0_0 l0_1).bind fun t556=>(if t556 = true then (if (l1.length : Int) > 10 then (l8_GateFewests.j0 k l1 l2 true l0_0 l0_1) else (l8_GateFewests.j0 k l1 l2 (decide ((l2.length : Int) > 10)) l0_0 l0_1)) else (l8_GateFewests.j0 k l1 l2 true l0_0 l0_1))
theorem l8_GateFewests.calls (k : Nat) (A0_0 : Option Addr) (c0_0 : Nat) (l0_0 : List (S37)) (A0_1 : Option Addr) (c0_1 : Nat) (l0_1 : List (S65)) (A1 : Option Addr) (c1 : Nat) (l1 : List Int) (A2 : Option Addr) (c2 : Nat) (l2 : List Int) (r : Bool) (w : World) (hr0_0 : Kd.C k37 w A0_0 l0_0.length l0_0) (hc0_0 : l0_0.length≤c0_0) (hr0_1 : Kd.C k65 w A0_1 l0_1.length l0_1) (hc0_1 : l0_1.length≤c0_1) (hr1 : Kd.C (Kd.int .i64) w A1 l1.length l1) (hc1 : l1.length≤c1) (hr2 : Kd.C (Kd.int .i64) w A2 l2.length l2) (hc2 : l2.length≤c2) (h : l8_GateFewests.f k l0_0 l0_1 l1 l2 = some r) :
 Calls Tryz.prog 9 #[.agg #[.slice A0_0 l0_0.length c0_0,.slice A0_1 l0_1.length c0_1],.slice A1 l1.length c1,.slice A2 l2.length c2] w fun e w'=>e = .returned (.bool r)∧Below w.heap.size w w':=by
 have hu25:=Tryz.underlying25
 have HR0_0:=am hr0_0
 have HC0_0:=am hc0_0
 clear hr0_0 hc0_0
 have HR0_1:=am hr0_1
 have HC0_1:=am hc0_1
 clear hr0_1 hc0_1
 have HR1:=am hr1
 have HC1:=am hc1
 clear hr1 hc1
 have HR2:=am hr2
 have HC2:=am hc2
 clear hr2 hc2
 have HB:=am (Below.refl w.heap.size w)
 have H : ((l8_short.f l0_0 l0_1).bind fun t556=>(if t556 = true then (if (l1.length : Int) > 10 then (l8_GateFewests.j0 k l1 l2 true l0_0 l0_1) else (l8_GateFewests.j0 k l1 l2 (decide ((l2.length : Int) > 10)) l0_0 l0_1)) else (l8_GateFewests.j0 k l1 l2 true l0_0 l0_1))) = some r:=h
 clear h
 have HC4:=am H
 clear H
 go_enter Tryz.func9,Tryz.ntmps9
 go_upto_region 1 with (first | ((with_reducible refine ga_dst (N:=3) rfl ?_);(try (refine ga_guard (by rfl) ?_;dsimp only));refine box_event ?hg (N:=3) ?hd (cs:=#[.slice A0_0 l0_0.length c0_0,.slice A0_1 l0_1.length c0_1]) (t:=25) ?hr ?_;(case hd=>rfl);(case hg=>rfl);(case hr=>go_simp;try rfl);intro gb555 hg w5 hbox hb;have BK555:=am (hbox);have GW555:=am (ge_new (HB.out) hg);have GE555:=am (ge_new (HB.out) hg);replace HB:=am (below_step (HB.out) hb);clear hb hbox hg))
 (try simp only [Act.put,List.setIfInBounds_toArray,List.set_cons_zero,List.set_cons_succ])
 go_cut [27] (fun v27 wc=>∃ (kq : Nat) (x27_3 : Bool),v27 = .bool x27_3∧Aside0 (l8_GateFewests.j0 kq l1 l2 x27_3 l0_0 l0_1 = some r)∧Aside0 (kq≤k)∧Aside0 (wc.heap[gb555]? = some (.cells #[(.slice A0_0 l0_0.length c0_0),(.slice A0_1 l0_1.length c0_1)] 25 (0,0)))∧Aside0 (Below w.heap.size w wc))
 case first =>
  have H:=HC4.out
  clear HC4
  replace H:=obm H
  obtain ⟨t556,A60,H⟩:=H
  replace H : (if t556 = true then (if (l1.length : Int) > 10 then (l8_GateFewests.j0 k l1 l2 true l0_0 l0_1) else (l8_GateFewests.j0 k l1 l2 (decide ((l2.length : Int) > 10)) l0_0 l0_1)) else (l8_GateFewests.j0 k l1 l2 true l0_0 l0_1)) = some r:=H
  have A6:=am A60
  clear A60
  by_cases c7 : t556 = true
  case neg =>
   replace c7:=Bool.eq_false_iff.mpr c7
   subst c7
   replace H : (l8_GateFewests.j0 k l1 l2 true l0_0 l0_1) = some r:=by rw [if_neg (show ¬ (false = true) by decide)] at H;exact H
   replace H':=am H
   obtain ⟨hcz13_0,hcz13_1⟩:=cO2 BK555.out
   have hfz13_0:=blk_frozen BK555.out 0
   have hfz13_1:=blk_frozen BK555.out 1
   go_wp2_with (first | ((with_reducible refine ga_callee (f:=14) rfl ?_);refine goesL_ (some 16) rfl rfl Tryz.func14 (by kernel_rfl) rfl #[.agg #[.slice A0_0 l0_0.length c0_0,.slice A0_1 l0_1.length c0_1]] rfl (by (try simp only [List.map_toArray,List.map_cons,List.map_nil]);first | done | rfl | (simp only [List.length_drop,List.length_take];rfl)) ?_;(with_reducible refine (l8_short.calls _ _ l0_0 _ _ l0_1 false _ ?side1 ?side2 ?side3 ?side4 A6.out).mono ?_);(case side1=>exact kC HR0_0.out HB.out);(case side2=>exact HC0_0.out);(case side3=>exact kC HR0_1.out HB.out);(case side4=>exact HC0_1.out);rintro e w14 ⟨rfl,hb⟩;refine ⟨_,rfl,?_⟩;replace BK555:=am (blk_below (g:=gb555) (o:=.cells #[.slice A0_0 l0_0.length c0_0,.slice A0_1 l0_1.length c0_1] 25 (0,0)) (by (with_reducible repeat (first | refine blk_drewN ?_ _ | refine blk_drew ?_ | refine blk_alloc ?_ _));exact BK555.out) hb);replace HB:=am (below_step (HB.out) hb);(try clear hb);(try clear hb2);(try clear hk);(try clear hi)))
   go_meet
   case rel=>exact ⟨_,(true),(by first | rfl | (simp;done) | (simp [*];done)),H',⟨by first | omega | exact Nat.le_refl _⟩,⟨by (with_reducible repeat (first | refine blk_drewN ?_ _ | refine blk_drew ?_ | refine blk_alloc ?_ _));exact BK555.out⟩,⟨HB.out⟩⟩
  subst c7
  replace H : (if (l1.length : Int) > 10 then (l8_GateFewests.j0 k l1 l2 true l0_0 l0_1) else (l8_GateFewests.j0 k l1 l2 (decide ((l2.length : Int) > 10)) l0_0 l0_1)) = some r:=by rw [if_pos rfl] at H;exact H
  by_cases c8 : (l1.length : Int) > 10
  ·rw [if_pos c8] at H
   have c8b0 : decide (10 < (l1.length : Int)) = true:=decide_eq_true c8
   have c8b1 : decide (10 < l1.length) = true:=decide_eq_true (by omega)
   clear c8
   (first | rw [c8b0] | (simp only [i64_w,i32_w];rw [c8b0]) | skip)
   replace H':=am H
   obtain ⟨hcz9_0,hcz9_1⟩:=cO2 BK555.out
   have hfz9_0:=blk_frozen BK555.out 0
   have hfz9_1:=blk_frozen BK555.out 1
   go_wp2_with (first | ((with_reducible refine ga_callee (f:=14) rfl ?_);refine goesL_ (some 16) rfl rfl Tryz.func14 (by kernel_rfl) rfl #[.agg #[.slice A0_0 l0_0.length c0_0,.slice A0_1 l0_1.length c0_1]] rfl (by (try simp only [List.map_toArray,List.map_cons,List.map_nil]);first | done | rfl | (simp only [List.length_drop,List.length_take];rfl)) ?_;(with_reducible refine (l8_short.calls _ _ l0_0 _ _ l0_1 true _ ?side1 ?side2 ?side3 ?side4 A6.out).mono ?_);(case side1=>exact kC HR0_0.out HB.out);(case side2=>exact HC0_0.out);(case side3=>exact kC HR0_1.out HB.out);(case side4=>exact HC0_1.out);rintro e w10 ⟨rfl,hb⟩;refine ⟨_,rfl,?_⟩;replace BK555:=am (blk_below (g:=gb555) (o:=.cells #[.slice A0_0 l0_0.length c0_0,.slice A0_1 l0_1.length c0_1] 25 (0,0)) (by (with_reducible repeat (first | refine blk_drewN ?_ _ | refine blk_drew ?_ | refine blk_alloc ?_ _));exact BK555.out) hb);replace HB:=am (below_step (HB.out) hb);(try clear hb);(try clear hb2);(try clear hk);(try clear hi)))
   go_meet
   case rel=>exact ⟨_,(true),(by first | rfl | (simp;done) | (simp [*];done)),H',⟨by first | omega | exact Nat.le_refl _⟩,⟨by (with_reducible repeat (first | refine blk_drewN ?_ _ | refine blk_drew ?_ | refine blk_alloc ?_ _));exact BK555.out⟩,⟨HB.out⟩⟩
  ·rw [if_neg c8] at H
   have c8b0 : decide (10 < (l1.length : Int)) = false:=decide_eq_false c8
   have c8b1 : decide (10 < l1.length) = false:=decide_eq_false (by omega)
   clear c8
   (first | rw [c8b0] | (simp only [i64_w,i32_w];rw [c8b0]) | skip)
   replace H':=am H
   obtain ⟨hcz11_0,hcz11_1⟩:=cO2 BK555.out
   have hfz11_0:=blk_frozen BK555.out 0
   have hfz11_1:=blk_frozen BK555.out 1
   go_wp2_with (first | ((with_reducible refine ga_callee (f:=14) rfl ?_);refine goesL_ (some 16) rfl rfl Tryz.func14 (by kernel_rfl) rfl #[.agg #[.slice A0_0 l0_0.length c0_0,.slice A0_1 l0_1.length c0_1]] rfl (by (try simp only [List.map_toArray,List.map_cons,List.map_nil]);first | done | rfl | (simp only [List.length_drop,List.length_take];rfl)) ?_;(with_reducible refine (l8_short.calls _ _ l0_0 _ _ l0_1 true _ ?side1 ?side2 ?side3 ?side4 A6.out).mono ?_);(case side1=>exact kC HR0_0.out HB.out);(case side2=>exact HC0_0.out);(case side3=>exact kC HR0_1.out HB.out);(case side4=>exact HC0_1.out);rintro e w12 ⟨rfl,hb⟩;refine ⟨_,rfl,?_⟩;replace BK555:=am (blk_below (g:=gb555) (o:=.cells #[.slice A0_0 l0_0.length c0_0,.slice A0_1 l0_1.length c0_1] 25 (0,0)) (by (with_reducible repeat (first | refine blk_drewN ?_ _ | refine blk_drew ?_ | refine blk_alloc ?_ _));exact BK555.out) hb);replace HB:=am (below_step (HB.out) hb);(try clear hb);(try clear hb2);(try clear hk);(try clear hi)))
   go_meet
   case rel=>exact ⟨_,(decide ((l2.length : Int) > 10)),(by first | rfl | (simp;done) | (simp [*];done)),H',⟨by first | omega | exact Nat.le_refl _⟩,⟨by (with_reducible repeat (first | refine blk_drewN ?_ _ | refine blk_drew ?_ | refine blk_alloc ?_ _));exact BK555.out⟩,⟨HB.out⟩⟩
 case rest =>
  clear HC4
  obtain ⟨kq,x27_3,rfl,HA,HJ3,BK555,HB⟩:=hcut
  cases kq with
  | zero=>exact absurd HA.out (by simp [l8_GateFewests.j0])
  | succ kj3 =>
   have H:=HA.out
   clear HA
   simp only [l8_GateFewests.j0] at H
   by_cases c15 : x27_3 = true
   ·subst c15
    replace H : ((l8_known.f).bind fun t557=>(some t557)) = some r:=by rw [if_pos rfl] at H;exact H
    replace H:=obm H
    obtain ⟨t557,A160,H⟩:=H
    replace H : (some t557) = some r:=H
    have A16:=am A160
    clear A160
    obtain rfl:=Option.some.inj H
    go_wp2_with (first | ((with_reducible refine ga_callee (f:=15) rfl ?_);refine goesL_ (some 28) rfl rfl Tryz.func15 (by kernel_rfl) rfl #[] rfl (by (try simp only [List.map_toArray,List.map_cons,List.map_nil]);first | done | rfl | (simp only [List.length_drop,List.length_take];rfl)) ?_;(with_reducible refine (l8_known.calls  t557 _ A16.out).mono ?_);rintro e w17 ⟨rfl,hb⟩;refine ⟨_,rfl,?_⟩;replace BK555:=am (blk_below (g:=gb555) (o:=.cells #[.slice A0_0 l0_0.length c0_0,.slice A0_1 l0_1.length c0_1] 25 (0,0)) (by (with_reducible repeat (first | refine blk_drewN ?_ _ | refine blk_drew ?_ | refine blk_alloc ?_ _));exact BK555.out) hb);replace HB:=am (below_step (HB.out) hb);(try clear hb);(try clear hb2);(try clear hk);(try clear hi)))
    go_ret
    exact ⟨by first | rfl | (simp [*]<;>rfl),HB.out⟩
   ·replace c15:=Bool.eq_false_iff.mpr c15
    subst c15
    replace H : ((ga_Fewest.f kj3 l0_0 l0_1).bind fun bt558=>((ga_Moves.f kj3 l0_0 l0_1 l1 l2).bind fun bt562=>((q8_Net.f kj3 l0_0 l0_1).bind fun t566=>(if t566 = true then ((q8_Fewest.f kj3 l0_0 l0_1).bind fun bt568=>(if bt568.2 = true then (if bt558.2 = 0 then ((q8_Same.f kj3 bt558.1 bt568.1).bind fun t572=>(if t572 = true then (l8_GateFewests.j1 kj3 l1 l2 bt562.1 bt562.2 false l0_0 l0_1) else (l8_GateFewests.j1 kj3 l1 l2 bt562.1 bt562.2 true l0_0 l0_1))) else (l8_GateFewests.j1 kj3 l1 l2 bt562.1 bt562.2 true l0_0 l0_1)) else (if bt558.2 = 5 then (l8_GateFewests.j1 kj3 l1 l2 bt562.1 bt562.2 ((bt558.1.length : Int) != 0) l0_0 l0_1) else (l8_GateFewests.j1 kj3 l1 l2 bt562.1 bt562.2 true l0_0 l0_1)))) else (if bt558.2 = 2 then (if (bt558.1.length : Int) = 0 then (if bt562.2 = 2 then (if (bt562.1.length : Int) = 0 then ((l8_known.f).bind fun t567=>(some t567)) else (some false)) else (some false)) else (some false)) else (some false)))))) = some r:=by rw [if_neg (show ¬ (false = true) by decide)] at H;exact H
    replace H:=obm H
    obtain ⟨⟨t558,t561⟩,A180,H⟩:=H
    replace H : ((ga_Moves.f kj3 l0_0 l0_1 l1 l2).bind fun bt562=>((q8_Net.f kj3 l0_0 l0_1).bind fun t566=>(if t566 = true then ((q8_Fewest.f kj3 l0_0 l0_1).bind fun bt568=>(if bt568.2 = true then (if t561 = 0 then ((q8_Same.f kj3 t558 bt568.1).bind fun t572=>(if t572 = true then (l8_GateFewests.j1 kj3 l1 l2 bt562.1 bt562.2 false l0_0 l0_1) else (l8_GateFewests.j1 kj3 l1 l2 bt562.1 bt562.2 true l0_0 l0_1))) else (l8_GateFewests.j1 kj3 l1 l2 bt562.1 bt562.2 true l0_0 l0_1)) else (if t561 = 5 then (l8_GateFewests.j1 kj3 l1 l2 bt562.1 bt562.2 ((t558.length : Int) != 0) l0_0 l0_1) else (l8_GateFewests.j1 kj3 l1 l2 bt562.1 bt562.2 true l0_0 l0_1)))) else (if t561 = 2 then (if (t558.length : Int) = 0 then (if bt562.2 = 2 then (if (bt562.1.length : Int) = 0 then ((l8_known.f).bind fun t567=>(some t567)) else (some false)) else (some false)) else (some false)) else (some false))))) = some r:=H
    have A18:=am A180
    clear A180
    replace H:=obm H
    obtain ⟨⟨t562,t565⟩,A190,H⟩:=H
    replace H : ((q8_Net.f kj3 l0_0 l0_1).bind fun t566=>(if t566 = true then ((q8_Fewest.f kj3 l0_0 l0_1).bind fun bt568=>(if bt568.2 = true then (if t561 = 0 then ((q8_Same.f kj3 t558 bt568.1).bind fun t572=>(if t572 = true then (l8_GateFewests.j1 kj3 l1 l2 t562 t565 false l0_0 l0_1) else (l8_GateFewests.j1 kj3 l1 l2 t562 t565 true l0_0 l0_1))) else (l8_GateFewests.j1 kj3 l1 l2 t562 t565 true l0_0 l0_1)) else (if t561 = 5 then (l8_GateFewests.j1 kj3 l1 l2 t562 t565 ((t558.length : Int) != 0) l0_0 l0_1) else (l8_GateFewests.j1 kj3 l1 l2 t562 t565 true l0_0 l0_1)))) else (if t561 = 2 then (if (t558.length : Int) = 0 then (if t565 = 2 then (if (t562.length : Int) = 0 then ((l8_known.f).bind fun t567=>(some t567)) else (some false)) else (some false)) else (some false)) else (some false)))) = some r:=H
    have A19:=am A190
    clear A190
    replace H:=obm H
    obtain ⟨t566,A200,H⟩:=H
    replace H : (if t566 = true then ((q8_Fewest.f kj3 l0_0 l0_1).bind fun bt568=>(if bt568.2 = true then (if t561 = 0 then ((q8_Same.f kj3 t558 bt568.1).bind fun t572=>(if t572 = true then (l8_GateFewests.j1 kj3 l1 l2 t562 t565 false l0_0 l0_1) else (l8_GateFewests.j1 kj3 l1 l2 t562 t565 true l0_0 l0_1))) else (l8_GateFewests.j1 kj3 l1 l2 t562 t565 true l0_0 l0_1)) else (if t561 = 5 then (l8_GateFewests.j1 kj3 l1 l2 t562 t565 ((t558.length : Int) != 0) l0_0 l0_1) else (l8_GateFewests.j1 kj3 l1 l2 t562 t565 true l0_0 l0_1)))) else (if t561 = 2 then (if (t558.length : Int) = 0 then (if t565 = 2 then (if (t562.length : Int) = 0 then ((l8_known.f).bind fun t567=>(some t567)) else (some false)) else (some false)) else (some false)) else (some false))) = some r:=H
    have A20:=am A200
    clear A200
    by_cases c21 : t566 = true
    case neg =>
     replace c21:=Bool.eq_false_iff.mpr c21
     subst c21
     replace H : (if t561 = 2 then (if (t558.length : Int) = 0 then (if t565 = 2 then (if (t562.length : Int) = 0 then ((l8_known.f).bind fun t567=>(some t567)) else (some false)) else (some false)) else (some false)) else (some false)) = some r:=by rw [if_neg (show ¬ (false = true) by decide)] at H;exact H
     by_cases c89 : t561 = 2
     case neg =>
      rw [if_neg c89] at H
      have c89b0 : (t561 == 2) = false:=beq_eq_false_iff_ne.mpr c89
      have c89b1 : (t561 != 2) = true:=bne_iff_ne.mpr c89
      obtain rfl:=Option.some.inj H
      obtain ⟨hcz125_0,hcz125_1⟩:=cO2 BK555.out
      have hfz125_0:=blk_frozen BK555.out 0
      have hfz125_1:=blk_frozen BK555.out 1
      go_wp2_with (first | ((with_reducible refine ga_callee (f:=34) rfl ?_);refine goesL_ (some 31) rfl rfl Tryz.func34 (by kernel_rfl) rfl #[.agg #[.slice A0_0 l0_0.length c0_0,.slice A0_1 l0_1.length c0_1]] rfl (by (try simp only [List.map_toArray,List.map_cons,List.map_nil]);first | done | rfl | (simp only [List.length_drop,List.length_take];rfl)) ?_;(with_reducible refine (ga_Fewest.calls kj3 _ _ l0_0 _ _ l0_1 t558 t561 _ ?side1 ?side2 ?side3 ?side4 A18.out).mono ?_);(case side1=>exact kC HR0_0.out HB.out);(case side2=>exact HC0_0.out);(case side3=>exact kC HR0_1.out HB.out);(case side4=>exact HC0_1.out);rintro e w126 ⟨v559,rfl,ho0,hb⟩;refine ⟨_,rfl,?_⟩;have HO560:=am (Kd.R_lower ho0 (below_size (HB.out)));replace BK555:=am (blk_below (g:=gb555) (o:=.cells #[.slice A0_0 l0_0.length c0_0,.slice A0_1 l0_1.length c0_1] 25 (0,0)) (by (with_reducible repeat (first | refine blk_drewN ?_ _ | refine blk_drew ?_ | refine blk_alloc ?_ _));exact BK555.out) hb);replace HB:=am (below_step (HB.out) hb);(try clear hb);(try clear hb2);(try clear hk);(try clear hi);(try clear ho0);obtain ⟨hcz127_0,hcz127_1⟩:=cO2 BK555.out;have hfz127_0:=blk_frozen BK555.out 0;have hfz127_1:=blk_frozen BK555.out 1) | ((with_reducible refine ga_callee (f:=35) rfl ?_);refine goesL_ (some 38) rfl rfl Tryz.func35 (by kernel_rfl) rfl #[.agg #[.slice A0_0 l0_0.length c0_0,.slice A0_1 l0_1.length c0_1],.slice A1 l1.length c1,.slice A2 l2.length c2] rfl (by (try simp only [List.map_toArray,List.map_cons,List.map_nil]);first | done | rfl | (simp only [List.length_drop,List.length_take];rfl)) ?_;(with_reducible refine (ga_Moves.calls kj3 _ _ l0_0 _ _ l0_1 _ _ l1 _ _ l2 t562 t565 _ ?side1 ?side2 ?side3 ?side4 ?side5 ?side6 ?side7 ?side8 A19.out).mono ?_);(case side1=>exact kC HR0_0.out HB.out);(case side2=>exact HC0_0.out);(case side3=>exact kC HR0_1.out HB.out);(case side4=>exact HC0_1.out);(case side5=>exact kC HR1.out HB.out);(case side6=>exact HC1.out);(case side7=>exact kC HR2.out HB.out);(case side8=>exact HC2.out);rintro e w128 ⟨v563,rfl,ho0,hb⟩;refine ⟨_,rfl,?_⟩;have HO564:=am (Kd.R_lower (Kd.R_new' ho0 (Kd.R_lt (by (with_reducible repeat (first | apply Kd.R_alloc | apply Kd.R_drewN | apply Kd.R_drew));exact HO560.out))) (below_size (HB.out)));replace HO560:=am (Kd.R_elder' (by (with_reducible repeat (first | apply Kd.R_alloc | apply Kd.R_drewN | apply Kd.R_drew));exact HO560.out) (Kd.R_base ho0) hb);replace BK555:=am (blk_below (g:=gb555) (o:=.cells #[.slice A0_0 l0_0.length c0_0,.slice A0_1 l0_1.length c0_1] 25 (0,0)) (by (with_reducible repeat (first | refine blk_drewN ?_ _ | refine blk_drew ?_ | refine blk_alloc ?_ _));exact BK555.out) hb);replace HB:=am (below_step (HB.out) hb);(try clear hb);(try clear hb2);(try clear hk);(try clear hi);(try clear ho0);obtain ⟨hcz129_0,hcz129_1⟩:=cO2 BK555.out;have hfz129_0:=blk_frozen BK555.out 0;have hfz129_1:=blk_frozen BK555.out 1) | ((with_reducible refine ga_callee (f:=17) rfl ?_);refine goesL_ (some 42) rfl rfl Tryz.func17 (by kernel_rfl) rfl #[.agg #[.slice A0_0 l0_0.length c0_0,.slice A0_1 l0_1.length c0_1]] rfl (by (try simp only [List.map_toArray,List.map_cons,List.map_nil]);first | done | rfl | (simp only [List.length_drop,List.length_take];rfl)) ?_;(with_reducible refine (q8_Net.calls kj3 _ _ l0_0 _ _ l0_1 false _ ?side1 ?side2 ?side3 ?side4 A20.out).mono ?_);(case side1=>exact kC HR0_0.out HB.out);(case side2=>exact HC0_0.out);(case side3=>exact kC HR0_1.out HB.out);(case side4=>exact HC0_1.out);rintro e w130 ⟨rfl,hb⟩;refine ⟨_,rfl,?_⟩;replace HO560:=am (Kd.R_below (by (with_reducible repeat (first | apply Kd.R_alloc | apply Kd.R_drewN | apply Kd.R_drew));exact HO560.out) hb);replace HO564:=am (Kd.R_below (by (with_reducible repeat (first | apply Kd.R_alloc | apply Kd.R_drewN | apply Kd.R_drew));exact HO564.out) hb);replace BK555:=am (blk_below (g:=gb555) (o:=.cells #[.slice A0_0 l0_0.length c0_0,.slice A0_1 l0_1.length c0_1] 25 (0,0)) (by (with_reducible repeat (first | refine blk_drewN ?_ _ | refine blk_drew ?_ | refine blk_alloc ?_ _));exact BK555.out) hb);replace HB:=am (below_step (HB.out) hb);(try clear hb);(try clear hb2);(try clear hk);(try clear hi)))
      go_ret
      exact ⟨by first | rfl | (simp [*]<;>rfl),HB.out⟩
     rw [if_pos c89] at H
     have c89b0 : (t561 == 2) = true:=beq_iff_eq.mpr c89
     have c89b1 : (t561 != 2) = false:=bne_eq_false_iff_eq.mpr c89
     clear c89
     by_cases c90 : (t558.length : Int) = 0
     case neg =>
      rw [if_neg c90] at H
      have c90b0 : ((t558.length : Int) == 0) = false:=beq_eq_false_iff_ne.mpr c90
      have c90b1 : ((t558.length : Int) != 0) = true:=bne_iff_ne.mpr c90
      have c90b2 : ¬ (t558 = []):=fun h_=>c90 (by rw [h_];rfl)
      obtain rfl:=Option.some.inj H
      obtain ⟨hcz118_0,hcz118_1⟩:=cO2 BK555.out
      have hfz118_0:=blk_frozen BK555.out 0
      have hfz118_1:=blk_frozen BK555.out 1
      go_wp2_with (first | ((with_reducible refine ga_callee (f:=34) rfl ?_);refine goesL_ (some 31) rfl rfl Tryz.func34 (by kernel_rfl) rfl #[.agg #[.slice A0_0 l0_0.length c0_0,.slice A0_1 l0_1.length c0_1]] rfl (by (try simp only [List.map_toArray,List.map_cons,List.map_nil]);first | done | rfl | (simp only [List.length_drop,List.length_take];rfl)) ?_;(with_reducible refine (ga_Fewest.calls kj3 _ _ l0_0 _ _ l0_1 t558 t561 _ ?side1 ?side2 ?side3 ?side4 A18.out).mono ?_);(case side1=>exact kC HR0_0.out HB.out);(case side2=>exact HC0_0.out);(case side3=>exact kC HR0_1.out HB.out);(case side4=>exact HC0_1.out);rintro e w119 ⟨v559,rfl,ho0,hb⟩;refine ⟨_,rfl,?_⟩;have HO560:=am (Kd.R_lower ho0 (below_size (HB.out)));replace BK555:=am (blk_below (g:=gb555) (o:=.cells #[.slice A0_0 l0_0.length c0_0,.slice A0_1 l0_1.length c0_1] 25 (0,0)) (by (with_reducible repeat (first | refine blk_drewN ?_ _ | refine blk_drew ?_ | refine blk_alloc ?_ _));exact BK555.out) hb);replace HB:=am (below_step (HB.out) hb);(try clear hb);(try clear hb2);(try clear hk);(try clear hi);(try clear ho0);obtain ⟨hcz120_0,hcz120_1⟩:=cO2 BK555.out;have hfz120_0:=blk_frozen BK555.out 0;have hfz120_1:=blk_frozen BK555.out 1) | ((with_reducible refine ga_callee (f:=35) rfl ?_);refine goesL_ (some 38) rfl rfl Tryz.func35 (by kernel_rfl) rfl #[.agg #[.slice A0_0 l0_0.length c0_0,.slice A0_1 l0_1.length c0_1],.slice A1 l1.length c1,.slice A2 l2.length c2] rfl (by (try simp only [List.map_toArray,List.map_cons,List.map_nil]);first | done | rfl | (simp only [List.length_drop,List.length_take];rfl)) ?_;(with_reducible refine (ga_Moves.calls kj3 _ _ l0_0 _ _ l0_1 _ _ l1 _ _ l2 t562 t565 _ ?side1 ?side2 ?side3 ?side4 ?side5 ?side6 ?side7 ?side8 A19.out).mono ?_);(case side1=>exact kC HR0_0.out HB.out);(case side2=>exact HC0_0.out);(case side3=>exact kC HR0_1.out HB.out);(case side4=>exact HC0_1.out);(case side5=>exact kC HR1.out HB.out);(case side6=>exact HC1.out);(case side7=>exact kC HR2.out HB.out);(case side8=>exact HC2.out);rintro e w121 ⟨v563,rfl,ho0,hb⟩;refine ⟨_,rfl,?_⟩;have HO564:=am (Kd.R_lower (Kd.R_new' ho0 (Kd.R_lt (by (with_reducible repeat (first | apply Kd.R_alloc | apply Kd.R_drewN | apply Kd.R_drew));exact HO560.out))) (below_size (HB.out)));replace HO560:=am (Kd.R_elder' (by (with_reducible repeat (first | apply Kd.R_alloc | apply Kd.R_drewN | apply Kd.R_drew));exact HO560.out) (Kd.R_base ho0) hb);replace BK555:=am (blk_below (g:=gb555) (o:=.cells #[.slice A0_0 l0_0.length c0_0,.slice A0_1 l0_1.length c0_1] 25 (0,0)) (by (with_reducible repeat (first | refine blk_drewN ?_ _ | refine blk_drew ?_ | refine blk_alloc ?_ _));exact BK555.out) hb);replace HB:=am (below_step (HB.out) hb);(try clear hb);(try clear hb2);(try clear hk);(try clear hi);(try clear ho0);obtain ⟨hcz122_0,hcz122_1⟩:=cO2 BK555.out;have hfz122_0:=blk_frozen BK555.out 0;have hfz122_1:=blk_frozen BK555.out 1) | ((with_reducible refine ga_callee (f:=17) rfl ?_);refine goesL_ (some 42) rfl rfl Tryz.func17 (by kernel_rfl) rfl #[.agg #[.slice A0_0 l0_0.length c0_0,.slice A0_1 l0_1.length c0_1]] rfl (by (try simp only [List.map_toArray,List.map_cons,List.map_nil]);first | done | rfl | (simp only [List.length_drop,List.length_take];rfl)) ?_;(with_reducible refine (q8_Net.calls kj3 _ _ l0_0 _ _ l0_1 false _ ?side1 ?side2 ?side3 ?side4 A20.out).mono ?_);(case side1=>exact kC HR0_0.out HB.out);(case side2=>exact HC0_0.out);(case side3=>exact kC HR0_1.out HB.out);(case side4=>exact HC0_1.out);rintro e w123 ⟨rfl,hb⟩;refine ⟨_,rfl,?_⟩;replace HO560:=am (Kd.R_below (by (with_reducible repeat (first | apply Kd.R_alloc | apply Kd.R_drewN | apply Kd.R_drew));exact HO560.out) hb);replace HO564:=am (Kd.R_below (by (with_reducible repeat (first | apply Kd.R_alloc | apply Kd.R_drewN | apply Kd.R_drew));exact HO564.out) hb);replace BK555:=am (blk_below (g:=gb555) (o:=.cells #[.slice A0_0 l0_0.length c0_0,.slice A0_1 l0_1.length c0_1] 25 (0,0)) (by (with_reducible repeat (first | refine blk_drewN ?_ _ | refine blk_drew ?_ | refine blk_alloc ?_ _));exact BK555.out) hb);replace HB:=am (below_step (HB.out) hb);(try clear hb);(try clear hb2);(try clear hk);(try clear hi);obtain ⟨Ao124,co124,eo124⟩:=Kd.R_slice HO560.out;subst eo124))
      go_ret
      exact ⟨by first | rfl | (simp [*]<;>rfl),HB.out⟩
     rw [if_pos c90] at H
     have c90b0 : ((t558.length : Int) == 0) = true:=beq_iff_eq.mpr c90
     have c90b1 : ((t558.length : Int) != 0) = false:=bne_eq_false_iff_eq.mpr c90
     clear c90
     by_cases c91 : t565 = 2
     case neg =>
      rw [if_neg c91] at H
      have c91b0 : (t565 == 2) = false:=beq_eq_false_iff_ne.mpr c91
      have c91b1 : (t565 != 2) = true:=bne_iff_ne.mpr c91
      obtain rfl:=Option.some.inj H
      obtain ⟨hcz111_0,hcz111_1⟩:=cO2 BK555.out
      have hfz111_0:=blk_frozen BK555.out 0
      have hfz111_1:=blk_frozen BK555.out 1
      go_wp2_with (first | ((with_reducible refine ga_callee (f:=34) rfl ?_);refine goesL_ (some 31) rfl rfl Tryz.func34 (by kernel_rfl) rfl #[.agg #[.slice A0_0 l0_0.length c0_0,.slice A0_1 l0_1.length c0_1]] rfl (by (try simp only [List.map_toArray,List.map_cons,List.map_nil]);first | done | rfl | (simp only [List.length_drop,List.length_take];rfl)) ?_;(with_reducible refine (ga_Fewest.calls kj3 _ _ l0_0 _ _ l0_1 t558 t561 _ ?side1 ?side2 ?side3 ?side4 A18.out).mono ?_);(case side1=>exact kC HR0_0.out HB.out);(case side2=>exact HC0_0.out);(case side3=>exact kC HR0_1.out HB.out);(case side4=>exact HC0_1.out);rintro e w112 ⟨v559,rfl,ho0,hb⟩;refine ⟨_,rfl,?_⟩;have HO560:=am (Kd.R_lower ho0 (below_size (HB.out)));replace BK555:=am (blk_below (g:=gb555) (o:=.cells #[.slice A0_0 l0_0.length c0_0,.slice A0_1 l0_1.length c0_1] 25 (0,0)) (by (with_reducible repeat (first | refine blk_drewN ?_ _ | refine blk_drew ?_ | refine blk_alloc ?_ _));exact BK555.out) hb);replace HB:=am (below_step (HB.out) hb);(try clear hb);(try clear hb2);(try clear hk);(try clear hi);(try clear ho0);obtain ⟨hcz113_0,hcz113_1⟩:=cO2 BK555.out;have hfz113_0:=blk_frozen BK555.out 0;have hfz113_1:=blk_frozen BK555.out 1) | ((with_reducible refine ga_callee (f:=35) rfl ?_);refine goesL_ (some 38) rfl rfl Tryz.func35 (by kernel_rfl) rfl #[.agg #[.slice A0_0 l0_0.length c0_0,.slice A0_1 l0_1.length c0_1],.slice A1 l1.length c1,.slice A2 l2.length c2] rfl (by (try simp only [List.map_toArray,List.map_cons,List.map_nil]);first | done | rfl | (simp only [List.length_drop,List.length_take];rfl)) ?_;(with_reducible refine (ga_Moves.calls kj3 _ _ l0_0 _ _ l0_1 _ _ l1 _ _ l2 t562 t565 _ ?side1 ?side2 ?side3 ?side4 ?side5 ?side6 ?side7 ?side8 A19.out).mono ?_);(case side1=>exact kC HR0_0.out HB.out);(case side2=>exact HC0_0.out);(case side3=>exact kC HR0_1.out HB.out);(case side4=>exact HC0_1.out);(case side5=>exact kC HR1.out HB.out);(case side6=>exact HC1.out);(case side7=>exact kC HR2.out HB.out);(case side8=>exact HC2.out);rintro e w114 ⟨v563,rfl,ho0,hb⟩;refine ⟨_,rfl,?_⟩;have HO564:=am (Kd.R_lower (Kd.R_new' ho0 (Kd.R_lt (by (with_reducible repeat (first | apply Kd.R_alloc | apply Kd.R_drewN | apply Kd.R_drew));exact HO560.out))) (below_size (HB.out)));replace HO560:=am (Kd.R_elder' (by (with_reducible repeat (first | apply Kd.R_alloc | apply Kd.R_drewN | apply Kd.R_drew));exact HO560.out) (Kd.R_base ho0) hb);replace BK555:=am (blk_below (g:=gb555) (o:=.cells #[.slice A0_0 l0_0.length c0_0,.slice A0_1 l0_1.length c0_1] 25 (0,0)) (by (with_reducible repeat (first | refine blk_drewN ?_ _ | refine blk_drew ?_ | refine blk_alloc ?_ _));exact BK555.out) hb);replace HB:=am (below_step (HB.out) hb);(try clear hb);(try clear hb2);(try clear hk);(try clear hi);(try clear ho0);obtain ⟨hcz115_0,hcz115_1⟩:=cO2 BK555.out;have hfz115_0:=blk_frozen BK555.out 0;have hfz115_1:=blk_frozen BK555.out 1) | ((with_reducible refine ga_callee (f:=17) rfl ?_);refine goesL_ (some 42) rfl rfl Tryz.func17 (by kernel_rfl) rfl #[.agg #[.slice A0_0 l0_0.length c0_0,.slice A0_1 l0_1.length c0_1]] rfl (by (try simp only [List.map_toArray,List.map_cons,List.map_nil]);first | done | rfl | (simp only [List.length_drop,List.length_take];rfl)) ?_;(with_reducible refine (q8_Net.calls kj3 _ _ l0_0 _ _ l0_1 false _ ?side1 ?side2 ?side3 ?side4 A20.out).mono ?_);(case side1=>exact kC HR0_0.out HB.out);(case side2=>exact HC0_0.out);(case side3=>exact kC HR0_1.out HB.out);(case side4=>exact HC0_1.out);rintro e w116 ⟨rfl,hb⟩;refine ⟨_,rfl,?_⟩;replace HO560:=am (Kd.R_below (by (with_reducible repeat (first | apply Kd.R_alloc | apply Kd.R_drewN | apply Kd.R_drew));exact HO560.out) hb);replace HO564:=am (Kd.R_below (by (with_reducible repeat (first | apply Kd.R_alloc | apply Kd.R_drewN | apply Kd.R_drew));exact HO564.out) hb);replace BK555:=am (blk_below (g:=gb555) (o:=.cells #[.slice A0_0 l0_0.length c0_0,.slice A0_1 l0_1.length c0_1] 25 (0,0)) (by (with_reducible repeat (first | refine blk_drewN ?_ _ | refine blk_drew ?_ | refine blk_alloc ?_ _));exact BK555.out) hb);replace HB:=am (below_step (HB.out) hb);(try clear hb);(try clear hb2);(try clear hk);(try clear hi);obtain ⟨Ao117,co117,eo117⟩:=Kd.R_slice HO560.out;subst eo117))
      go_ret
      exact ⟨by first | rfl | (simp [*]<;>rfl),HB.out⟩
     rw [if_pos c91] at H
     have c91b0 : (t565 == 2) = true:=beq_iff_eq.mpr c91
     have c91b1 : (t565 != 2) = false:=bne_eq_false_iff_eq.mpr c91
     clear c91
     by_cases c92 : (t562.length : Int) = 0
     case neg =>
      rw [if_neg c92] at H
      have c92b0 : ((t562.length : Int) == 0) = false:=beq_eq_false_iff_ne.mpr c92
      have c92b1 : ((t562.length : Int) != 0) = true:=bne_iff_ne.mpr c92
      have c92b2 : ¬ (t562 = []):=fun h_=>c92 (by rw [h_];rfl)
      obtain rfl:=Option.some.inj H
      obtain ⟨hcz103_0,hcz103_1⟩:=cO2 BK555.out
      have hfz103_0:=blk_frozen BK555.out 0
      have hfz103_1:=blk_frozen BK555.out 1
      go_wp2_with (first | ((with_reducible refine ga_callee (f:=34) rfl ?_);refine goesL_ (some 31) rfl rfl Tryz.func34 (by kernel_rfl) rfl #[.agg #[.slice A0_0 l0_0.length c0_0,.slice A0_1 l0_1.length c0_1]] rfl (by (try simp only [List.map_toArray,List.map_cons,List.map_nil]);first | done | rfl | (simp only [List.length_drop,List.length_take];rfl)) ?_;(with_reducible refine (ga_Fewest.calls kj3 _ _ l0_0 _ _ l0_1 t558 t561 _ ?side1 ?side2 ?side3 ?side4 A18.out).mono ?_);(case side1=>exact kC HR0_0.out HB.out);(case side2=>exact HC0_0.out);(case side3=>exact kC HR0_1.out HB.out);(case side4=>exact HC0_1.out);rintro e w104 ⟨v559,rfl,ho0,hb⟩;refine ⟨_,rfl,?_⟩;have HO560:=am (Kd.R_lower ho0 (below_size (HB.out)));replace BK555:=am (blk_below (g:=gb555) (o:=.cells #[.slice A0_0 l0_0.length c0_0,.slice A0_1 l0_1.length c0_1] 25 (0,0)) (by (with_reducible repeat (first | refine blk_drewN ?_ _ | refine blk_drew ?_ | refine blk_alloc ?_ _));exact BK555.out) hb);replace HB:=am (below_step (HB.out) hb);(try clear hb);(try clear hb2);(try clear hk);(try clear hi);(try clear ho0);obtain ⟨hcz105_0,hcz105_1⟩:=cO2 BK555.out;have hfz105_0:=blk_frozen BK555.out 0;have hfz105_1:=blk_frozen BK555.out 1) | ((with_reducible refine ga_callee (f:=35) rfl ?_);refine goesL_ (some 38) rfl rfl Tryz.func35 (by kernel_rfl) rfl #[.agg #[.slice A0_0 l0_0.length c0_0,.slice A0_1 l0_1.length c0_1],.slice A1 l1.length c1,.slice A2 l2.length c2] rfl (by (try simp only [List.map_toArray,List.map_cons,List.map_nil]);first | done | rfl | (simp only [List.length_drop,List.length_take];rfl)) ?_;(with_reducible refine (ga_Moves.calls kj3 _ _ l0_0 _ _ l0_1 _ _ l1 _ _ l2 t562 t565 _ ?side1 ?side2 ?side3 ?side4 ?side5 ?side6 ?side7 ?side8 A19.out).mono ?_);(case side1=>exact kC HR0_0.out HB.out);(case side2=>exact HC0_0.out);(case side3=>exact kC HR0_1.out HB.out);(case side4=>exact HC0_1.out);(case side5=>exact kC HR1.out HB.out);(case side6=>exact HC1.out);(case side7=>exact kC HR2.out HB.out);(case side8=>exact HC2.out);rintro e w106 ⟨v563,rfl,ho0,hb⟩;refine ⟨_,rfl,?_⟩;have HO564:=am (Kd.R_lower (Kd.R_new' ho0 (Kd.R_lt (by (with_reducible repeat (first | apply Kd.R_alloc | apply Kd.R_drewN | apply Kd.R_drew));exact HO560.out))) (below_size (HB.out)));replace HO560:=am (Kd.R_elder' (by (with_reducible repeat (first | apply Kd.R_alloc | apply Kd.R_drewN | apply Kd.R_drew));exact HO560.out) (Kd.R_base ho0) hb);replace BK555:=am (blk_below (g:=gb555) (o:=.cells #[.slice A0_0 l0_0.length c0_0,.slice A0_1 l0_1.length c0_1] 25 (0,0)) (by (with_reducible repeat (first | refine blk_drewN ?_ _ | refine blk_drew ?_ | refine blk_alloc ?_ _));exact BK555.out) hb);replace HB:=am (below_step (HB.out) hb);(try clear hb);(try clear hb2);(try clear hk);(try clear hi);(try clear ho0);obtain ⟨hcz107_0,hcz107_1⟩:=cO2 BK555.out;have hfz107_0:=blk_frozen BK555.out 0;have hfz107_1:=blk_frozen BK555.out 1) | ((with_reducible refine ga_callee (f:=17) rfl ?_);refine goesL_ (some 42) rfl rfl Tryz.func17 (by kernel_rfl) rfl #[.agg #[.slice A0_0 l0_0.length c0_0,.slice A0_1 l0_1.length c0_1]] rfl (by (try simp only [List.map_toArray,List.map_cons,List.map_nil]);first | done | rfl | (simp only [List.length_drop,List.length_take];rfl)) ?_;(with_reducible refine (q8_Net.calls kj3 _ _ l0_0 _ _ l0_1 false _ ?side1 ?side2 ?side3 ?side4 A20.out).mono ?_);(case side1=>exact kC HR0_0.out HB.out);(case side2=>exact HC0_0.out);(case side3=>exact kC HR0_1.out HB.out);(case side4=>exact HC0_1.out);rintro e w108 ⟨rfl,hb⟩;refine ⟨_,rfl,?_⟩;replace HO560:=am (Kd.R_below (by (with_reducible repeat (first | apply Kd.R_alloc | apply Kd.R_drewN | apply Kd.R_drew));exact HO560.out) hb);replace HO564:=am (Kd.R_below (by (with_reducible repeat (first | apply Kd.R_alloc | apply Kd.R_drewN | apply Kd.R_drew));exact HO564.out) hb);replace BK555:=am (blk_below (g:=gb555) (o:=.cells #[.slice A0_0 l0_0.length c0_0,.slice A0_1 l0_1.length c0_1] 25 (0,0)) (by (with_reducible repeat (first | refine blk_drewN ?_ _ | refine blk_drew ?_ | refine blk_alloc ?_ _));exact BK555.out) hb);replace HB:=am (below_step (HB.out) hb);(try clear hb);(try clear hb2);(try clear hk);(try clear hi);obtain ⟨Ao109,co109,eo109⟩:=Kd.R_slice HO560.out;subst eo109;obtain ⟨Ao110,co110,eo110⟩:=Kd.R_slice HO564.out;subst eo110))
      go_ret
      exact ⟨by first | rfl | (simp [*]<;>rfl),HB.out⟩
     rw [if_pos c92] at H
     have c92b0 : ((t562.length : Int) == 0) = true:=beq_iff_eq.mpr c92
     have c92b1 : ((t562.length : Int) != 0) = false:=bne_eq_false_iff_eq.mpr c92
     clear c92
     replace H:=obm H
     obtain ⟨t567,A930,H⟩:=H
     replace H : (some t567) = some r:=H
     have A93:=am A930
     clear A930
     obtain rfl:=Option.some.inj H
     obtain ⟨hcz94_0,hcz94_1⟩:=cO2 BK555.out
     have hfz94_0:=blk_frozen BK555.out 0
     have hfz94_1:=blk_frozen BK555.out 1
     go_wp2_with (first | ((with_reducible refine ga_callee (f:=34) rfl ?_);refine goesL_ (some 31) rfl rfl Tryz.func34 (by kernel_rfl) rfl #[.agg #[.slice A0_0 l0_0.length c0_0,.slice A0_1 l0_1.length c0_1]] rfl (by (try simp only [List.map_toArray,List.map_cons,List.map_nil]);first | done | rfl | (simp only [List.length_drop,List.length_take];rfl)) ?_;(with_reducible refine (ga_Fewest.calls kj3 _ _ l0_0 _ _ l0_1 t558 t561 _ ?side1 ?side2 ?side3 ?side4 A18.out).mono ?_);(case side1=>exact kC HR0_0.out HB.out);(case side2=>exact HC0_0.out);(case side3=>exact kC HR0_1.out HB.out);(case side4=>exact HC0_1.out);rintro e w95 ⟨v559,rfl,ho0,hb⟩;refine ⟨_,rfl,?_⟩;have HO560:=am (Kd.R_lower ho0 (below_size (HB.out)));replace BK555:=am (blk_below (g:=gb555) (o:=.cells #[.slice A0_0 l0_0.length c0_0,.slice A0_1 l0_1.length c0_1] 25 (0,0)) (by (with_reducible repeat (first | refine blk_drewN ?_ _ | refine blk_drew ?_ | refine blk_alloc ?_ _));exact BK555.out) hb);replace HB:=am (below_step (HB.out) hb);(try clear hb);(try clear hb2);(try clear hk);(try clear hi);(try clear ho0);obtain ⟨hcz96_0,hcz96_1⟩:=cO2 BK555.out;have hfz96_0:=blk_frozen BK555.out 0;have hfz96_1:=blk_frozen BK555.out 1) | ((with_reducible refine ga_callee (f:=35) rfl ?_);refine goesL_ (some 38) rfl rfl Tryz.func35 (by kernel_rfl) rfl #[.agg #[.slice A0_0 l0_0.length c0_0,.slice A0_1 l0_1.length c0_1],.slice A1 l1.length c1,.slice A2 l2.length c2] rfl (by (try simp only [List.map_toArray,List.map_cons,List.map_nil]);first | done | rfl | (simp only [List.length_drop,List.length_take];rfl)) ?_;(with_reducible refine (ga_Moves.calls kj3 _ _ l0_0 _ _ l0_1 _ _ l1 _ _ l2 t562 t565 _ ?side1 ?side2 ?side3 ?side4 ?side5 ?side6 ?side7 ?side8 A19.out).mono ?_);(case side1=>exact kC HR0_0.out HB.out);(case side2=>exact HC0_0.out);(case side3=>exact kC HR0_1.out HB.out);(case side4=>exact HC0_1.out);(case side5=>exact kC HR1.out HB.out);(case side6=>exact HC1.out);(case side7=>exact kC HR2.out HB.out);(case side8=>exact HC2.out);rintro e w97 ⟨v563,rfl,ho0,hb⟩;refine ⟨_,rfl,?_⟩;have HO564:=am (Kd.R_lower (Kd.R_new' ho0 (Kd.R_lt (by (with_reducible repeat (first | apply Kd.R_alloc | apply Kd.R_drewN | apply Kd.R_drew));exact HO560.out))) (below_size (HB.out)));replace HO560:=am (Kd.R_elder' (by (with_reducible repeat (first | apply Kd.R_alloc | apply Kd.R_drewN | apply Kd.R_drew));exact HO560.out) (Kd.R_base ho0) hb);replace BK555:=am (blk_below (g:=gb555) (o:=.cells #[.slice A0_0 l0_0.length c0_0,.slice A0_1 l0_1.length c0_1] 25 (0,0)) (by (with_reducible repeat (first | refine blk_drewN ?_ _ | refine blk_drew ?_ | refine blk_alloc ?_ _));exact BK555.out) hb);replace HB:=am (below_step (HB.out) hb);(try clear hb);(try clear hb2);(try clear hk);(try clear hi);(try clear ho0);obtain ⟨hcz98_0,hcz98_1⟩:=cO2 BK555.out;have hfz98_0:=blk_frozen BK555.out 0;have hfz98_1:=blk_frozen BK555.out 1) | ((with_reducible refine ga_callee (f:=17) rfl ?_);refine goesL_ (some 42) rfl rfl Tryz.func17 (by kernel_rfl) rfl #[.agg #[.slice A0_0 l0_0.length c0_0,.slice A0_1 l0_1.length c0_1]] rfl (by (try simp only [List.map_toArray,List.map_cons,List.map_nil]);first | done | rfl | (simp only [List.length_drop,List.length_take];rfl)) ?_;(with_reducible refine (q8_Net.calls kj3 _ _ l0_0 _ _ l0_1 false _ ?side1 ?side2 ?side3 ?side4 A20.out).mono ?_);(case side1=>exact kC HR0_0.out HB.out);(case side2=>exact HC0_0.out);(case side3=>exact kC HR0_1.out HB.out);(case side4=>exact HC0_1.out);rintro e w99 ⟨rfl,hb⟩;refine ⟨_,rfl,?_⟩;replace HO560:=am (Kd.R_below (by (with_reducible repeat (first | apply Kd.R_alloc | apply Kd.R_drewN | apply Kd.R_drew));exact HO560.out) hb);replace HO564:=am (Kd.R_below (by (with_reducible repeat (first | apply Kd.R_alloc | apply Kd.R_drewN | apply Kd.R_drew));exact HO564.out) hb);replace BK555:=am (blk_below (g:=gb555) (o:=.cells #[.slice A0_0 l0_0.length c0_0,.slice A0_1 l0_1.length c0_1] 25 (0,0)) (by (with_reducible repeat (first | refine blk_drewN ?_ _ | refine blk_drew ?_ | refine blk_alloc ?_ _));exact BK555.out) hb);replace HB:=am (below_step (HB.out) hb);(try clear hb);(try clear hb2);(try clear hk);(try clear hi);obtain ⟨Ao100,co100,eo100⟩:=Kd.R_slice HO560.out;subst eo100;obtain ⟨Ao101,co101,eo101⟩:=Kd.R_slice HO564.out;subst eo101) | (go_at_call 15;(with_reducible refine (l8_known.calls  t567 _ A93.out).mono ?_);rintro e w102 ⟨rfl,hb⟩;replace HO560:=am (Kd.R_below (by (with_reducible repeat (first | apply Kd.R_alloc | apply Kd.R_drewN | apply Kd.R_drew));exact HO560.out) hb);replace HO564:=am (Kd.R_below (by (with_reducible repeat (first | apply Kd.R_alloc | apply Kd.R_drewN | apply Kd.R_drew));exact HO564.out) hb);replace BK555:=am (blk_below (g:=gb555) (o:=.cells #[.slice A0_0 l0_0.length c0_0,.slice A0_1 l0_1.length c0_1] 25 (0,0)) (by (with_reducible repeat (first | refine blk_drewN ?_ _ | refine blk_drew ?_ | refine blk_alloc ?_ _));exact BK555.out) hb);replace HB:=am (below_step (HB.out) hb);(try clear hb);(try clear hb2);(try clear hk);(try clear hi)))
     go_ret
     exact ⟨by first | rfl | (simp [*]<;>rfl),HB.out⟩
    subst c21
    replace H : ((q8_Fewest.f kj3 l0_0 l0_1).bind fun bt568=>(if bt568.2 = true then (if t561 = 0 then ((q8_Same.f kj3 t558 bt568.1).bind fun t572=>(if t572 = true then (l8_GateFewests.j1 kj3 l1 l2 t562 t565 false l0_0 l0_1) else (l8_GateFewests.j1 kj3 l1 l2 t562 t565 true l0_0 l0_1))) else (l8_GateFewests.j1 kj3 l1 l2 t562 t565 true l0_0 l0_1)) else (if t561 = 5 then (l8_GateFewests.j1 kj3 l1 l2 t562 t565 ((t558.length : Int) != 0) l0_0 l0_1) else (l8_GateFewests.j1 kj3 l1 l2 t562 t565 true l0_0 l0_1)))) = some r:=by rw [if_pos rfl] at H;exact H
    replace H:=obm H
    obtain ⟨⟨t568,t571⟩,A220,H⟩:=H
    replace H : (if t571 = true then (if t561 = 0 then ((q8_Same.f kj3 t558 t568).bind fun t572=>(if t572 = true then (l8_GateFewests.j1 kj3 l1 l2 t562 t565 false l0_0 l0_1) else (l8_GateFewests.j1 kj3 l1 l2 t562 t565 true l0_0 l0_1))) else (l8_GateFewests.j1 kj3 l1 l2 t562 t565 true l0_0 l0_1)) else (if t561 = 5 then (l8_GateFewests.j1 kj3 l1 l2 t562 t565 ((t558.length : Int) != 0) l0_0 l0_1) else (l8_GateFewests.j1 kj3 l1 l2 t562 t565 true l0_0 l0_1))) = some r:=H
    have A22:=am A220
    clear A220
    have HC23:=am H
    clear H
    obtain ⟨hcz24_0,hcz24_1⟩:=cO2 BK555.out
    have hfz24_0:=blk_frozen BK555.out 0
    have hfz24_1:=blk_frozen BK555.out 1
    go_upto_region 8 with (first | ((with_reducible refine ga_callee (f:=34) rfl ?_);refine goesL_ (some 31) rfl rfl Tryz.func34 (by kernel_rfl) rfl #[.agg #[.slice A0_0 l0_0.length c0_0,.slice A0_1 l0_1.length c0_1]] rfl (by (try simp only [List.map_toArray,List.map_cons,List.map_nil]);first | done | rfl | (simp only [List.length_drop,List.length_take];rfl)) ?_;(with_reducible refine (ga_Fewest.calls kj3 _ _ l0_0 _ _ l0_1 t558 t561 _ ?side1 ?side2 ?side3 ?side4 A18.out).mono ?_);(case side1=>exact kC HR0_0.out HB.out);(case side2=>exact HC0_0.out);(case side3=>exact kC HR0_1.out HB.out);(case side4=>exact HC0_1.out);rintro e w25 ⟨v559,rfl,ho0,hb⟩;refine ⟨_,rfl,?_⟩;have HO560:=am (Kd.R_lower ho0 (below_size (HB.out)));replace BK555:=am (blk_below (g:=gb555) (o:=.cells #[.slice A0_0 l0_0.length c0_0,.slice A0_1 l0_1.length c0_1] 25 (0,0)) (by (with_reducible repeat (first | refine blk_drewN ?_ _ | refine blk_drew ?_ | refine blk_alloc ?_ _));exact BK555.out) hb);replace HB:=am (below_step (HB.out) hb);(try clear hb);(try clear hb2);(try clear hk);(try clear hi);(try clear ho0);obtain ⟨hcz26_0,hcz26_1⟩:=cO2 BK555.out;have hfz26_0:=blk_frozen BK555.out 0;have hfz26_1:=blk_frozen BK555.out 1) | ((with_reducible refine ga_callee (f:=35) rfl ?_);refine goesL_ (some 38) rfl rfl Tryz.func35 (by kernel_rfl) rfl #[.agg #[.slice A0_0 l0_0.length c0_0,.slice A0_1 l0_1.length c0_1],.slice A1 l1.length c1,.slice A2 l2.length c2] rfl (by (try simp only [List.map_toArray,List.map_cons,List.map_nil]);first | done | rfl | (simp only [List.length_drop,List.length_take];rfl)) ?_;(with_reducible refine (ga_Moves.calls kj3 _ _ l0_0 _ _ l0_1 _ _ l1 _ _ l2 t562 t565 _ ?side1 ?side2 ?side3 ?side4 ?side5 ?side6 ?side7 ?side8 A19.out).mono ?_);(case side1=>exact kC HR0_0.out HB.out);(case side2=>exact HC0_0.out);(case side3=>exact kC HR0_1.out HB.out);(case side4=>exact HC0_1.out);(case side5=>exact kC HR1.out HB.out);(case side6=>exact HC1.out);(case side7=>exact kC HR2.out HB.out);(case side8=>exact HC2.out);rintro e w27 ⟨v563,rfl,ho0,hb⟩;refine ⟨_,rfl,?_⟩;have HO564:=am (Kd.R_lower (Kd.R_new' ho0 (Kd.R_lt (by (with_reducible repeat (first | apply Kd.R_alloc | apply Kd.R_drewN | apply Kd.R_drew));exact HO560.out))) (below_size (HB.out)));replace HO560:=am (Kd.R_elder' (by (with_reducible repeat (first | apply Kd.R_alloc | apply Kd.R_drewN | apply Kd.R_drew));exact HO560.out) (Kd.R_base ho0) hb);replace BK555:=am (blk_below (g:=gb555) (o:=.cells #[.slice A0_0 l0_0.length c0_0,.slice A0_1 l0_1.length c0_1] 25 (0,0)) (by (with_reducible repeat (first | refine blk_drewN ?_ _ | refine blk_drew ?_ | refine blk_alloc ?_ _));exact BK555.out) hb);replace HB:=am (below_step (HB.out) hb);(try clear hb);(try clear hb2);(try clear hk);(try clear hi);(try clear ho0);obtain ⟨hcz28_0,hcz28_1⟩:=cO2 BK555.out;have hfz28_0:=blk_frozen BK555.out 0;have hfz28_1:=blk_frozen BK555.out 1) | ((with_reducible refine ga_callee (f:=17) rfl ?_);refine goesL_ (some 42) rfl rfl Tryz.func17 (by kernel_rfl) rfl #[.agg #[.slice A0_0 l0_0.length c0_0,.slice A0_1 l0_1.length c0_1]] rfl (by (try simp only [List.map_toArray,List.map_cons,List.map_nil]);first | done | rfl | (simp only [List.length_drop,List.length_take];rfl)) ?_;(with_reducible refine (q8_Net.calls kj3 _ _ l0_0 _ _ l0_1 true _ ?side1 ?side2 ?side3 ?side4 A20.out).mono ?_);(case side1=>exact kC HR0_0.out HB.out);(case side2=>exact HC0_0.out);(case side3=>exact kC HR0_1.out HB.out);(case side4=>exact HC0_1.out);rintro e w29 ⟨rfl,hb⟩;refine ⟨_,rfl,?_⟩;replace HO560:=am (Kd.R_below (by (with_reducible repeat (first | apply Kd.R_alloc | apply Kd.R_drewN | apply Kd.R_drew));exact HO560.out) hb);replace HO564:=am (Kd.R_below (by (with_reducible repeat (first | apply Kd.R_alloc | apply Kd.R_drewN | apply Kd.R_drew));exact HO564.out) hb);replace BK555:=am (blk_below (g:=gb555) (o:=.cells #[.slice A0_0 l0_0.length c0_0,.slice A0_1 l0_1.length c0_1] 25 (0,0)) (by (with_reducible repeat (first | refine blk_drewN ?_ _ | refine blk_drew ?_ | refine blk_alloc ?_ _));exact BK555.out) hb);replace HB:=am (below_step (HB.out) hb);(try clear hb);(try clear hb2);(try clear hk);(try clear hi);obtain ⟨hcz30_0,hcz30_1⟩:=cO2 BK555.out;have hfz30_0:=blk_frozen BK555.out 0;have hfz30_1:=blk_frozen BK555.out 1) | ((with_reducible refine ga_callee (f:=36) rfl ?_);refine goesL_ (some 65) rfl rfl Tryz.func36 (by kernel_rfl) rfl #[.agg #[.slice A0_0 l0_0.length c0_0,.slice A0_1 l0_1.length c0_1]] rfl (by (try simp only [List.map_toArray,List.map_cons,List.map_nil]);first | done | rfl | (simp only [List.length_drop,List.length_take];rfl)) ?_;(with_reducible refine (q8_Fewest.calls kj3 _ _ l0_0 _ _ l0_1 t568 t571 _ ?side1 ?side2 ?side3 ?side4 A22.out).mono ?_);(case side1=>exact kC HR0_0.out HB.out);(case side2=>exact HC0_0.out);(case side3=>exact kC HR0_1.out HB.out);(case side4=>exact HC0_1.out);rintro e w31 ⟨v569,rfl,ho0,hb⟩;refine ⟨_,rfl,?_⟩;have HO570:=am (Kd.V_lower (Kd.V_mono (ok':=fun k_=>some k_ ≠ (v559 : Value).ownBlock∧some k_ ≠ (v563 : Value).ownBlock∧k_ ≠ gb555) ho0 (fun k_ hk_=>⟨(Kd.fresh' (Kd.R_lt (by (with_reducible repeat (first | apply Kd.R_alloc | apply Kd.R_drewN | apply Kd.R_drew));exact HO560.out)) k_ hk_),(Kd.fresh' (Kd.R_lt (by (with_reducible repeat (first | apply Kd.R_alloc | apply Kd.R_drewN | apply Kd.R_drew));exact HO564.out)) k_ hk_),(Kd.freshB (g:=gb555) (o:=.cells #[.slice A0_0 l0_0.length c0_0,.slice A0_1 l0_1.length c0_1] 25 (0,0)) (by (with_reducible repeat (first | refine blk_drewN ?_ _ | refine blk_drew ?_ | refine blk_alloc ?_ _));exact BK555.out) k_ hk_)⟩)) (below_size (HB.out)));replace HO560:=am (Kd.R_below (by (with_reducible repeat (first | apply Kd.R_alloc | apply Kd.R_drewN | apply Kd.R_drew));exact HO560.out) hb);replace HO564:=am (Kd.R_below (by (with_reducible repeat (first | apply Kd.R_alloc | apply Kd.R_drewN | apply Kd.R_drew));exact HO564.out) hb);replace BK555:=am (blk_below (g:=gb555) (o:=.cells #[.slice A0_0 l0_0.length c0_0,.slice A0_1 l0_1.length c0_1] 25 (0,0)) (by (with_reducible repeat (first | refine blk_drewN ?_ _ | refine blk_drew ?_ | refine blk_alloc ?_ _));exact BK555.out) hb);replace HB:=am (below_step (HB.out) hb);(try clear hb);(try clear hb2);(try clear hk);(try clear hi);(try clear ho0)))
    (try simp only [Act.put,List.setIfInBounds_toArray,List.set_cons_zero,List.set_cons_succ])
    go_cut [91] (fun v91 wc=>∃ (kq : Nat) (x91_22 : Bool),v91 = .bool x91_22∧Aside0 (l8_GateFewests.j1 kq l1 l2 t562 t565 x91_22 l0_0 l0_1 = some r)∧Aside0 (kq≤kj3)∧Aside0 (Kd.R (Kd.int .i64) 3 wc w.heap.size (fun _=>True) v563 t562)∧Aside0 (wc.heap[gb555]? = some (.cells #[(.slice A0_0 l0_0.length c0_0),(.slice A0_1 l0_1.length c0_1)] 25 (0,0)))∧Aside0 (Below w.heap.size w wc))
    case first =>
     have H:=HC23.out
     clear HC23
     by_cases c32 : t571 = true
     case neg =>
      replace c32:=Bool.eq_false_iff.mpr c32
      subst c32
      replace H : (if t561 = 5 then (l8_GateFewests.j1 kj3 l1 l2 t562 t565 ((t558.length : Int) != 0) l0_0 l0_1) else (l8_GateFewests.j1 kj3 l1 l2 t562 t565 true l0_0 l0_1)) = some r:=by rw [if_neg (show ¬ (false = true) by decide)] at H;exact H
      by_cases c40 : t561 = 5
      case neg =>
       rw [if_neg c40] at H
       have c40b0 : (t561 == 5) = false:=beq_eq_false_iff_ne.mpr c40
       have c40b1 : (t561 != 5) = true:=bne_iff_ne.mpr c40
       replace H':=am H
       go_wp2
       go_meet
       case rel=>exact ⟨_,(true),(by first | rfl | (simp;done) | (simp [*];done)),H',⟨by have:=HJ3.out;first | omega | exact Nat.le_refl _⟩,⟨by (with_reducible repeat (first | apply Kd.R_alloc | apply Kd.R_drewN | apply Kd.R_drew));exact Kd.R_mono HO564.out (fun _ hk=>trivial)⟩,⟨by (with_reducible repeat (first | refine blk_drewN ?_ _ | refine blk_drew ?_ | refine blk_alloc ?_ _));exact BK555.out⟩,⟨HB.out⟩⟩
      rw [if_pos c40] at H
      have c40b0 : (t561 == 5) = true:=beq_iff_eq.mpr c40
      have c40b1 : (t561 != 5) = false:=bne_eq_false_iff_eq.mpr c40
      clear c40
      replace H':=am H
      obtain ⟨Ao41,co41,eo41⟩:=Kd.R_slice HO560.out
      subst eo41
      go_wp2
      go_meet
      case rel=>exact ⟨_,(((t558.length : Int) != 0)),(by first | rfl | (simp;done) | (simp [*];done)),H',⟨by have:=HJ3.out;first | omega | exact Nat.le_refl _⟩,⟨by (with_reducible repeat (first | apply Kd.R_alloc | apply Kd.R_drewN | apply Kd.R_drew));exact Kd.R_mono HO564.out (fun _ hk=>trivial)⟩,⟨by (with_reducible repeat (first | refine blk_drewN ?_ _ | refine blk_drew ?_ | refine blk_alloc ?_ _));exact BK555.out⟩,⟨HB.out⟩⟩
     subst c32
     replace H : (if t561 = 0 then ((q8_Same.f kj3 t558 t568).bind fun t572=>(if t572 = true then (l8_GateFewests.j1 kj3 l1 l2 t562 t565 false l0_0 l0_1) else (l8_GateFewests.j1 kj3 l1 l2 t562 t565 true l0_0 l0_1))) else (l8_GateFewests.j1 kj3 l1 l2 t562 t565 true l0_0 l0_1)) = some r:=by rw [if_pos rfl] at H;exact H
     by_cases c33 : t561 = 0
     case neg =>
      rw [if_neg c33] at H
      have c33b0 : (t561 == 0) = false:=beq_eq_false_iff_ne.mpr c33
      have c33b1 : (t561 != 0) = true:=bne_iff_ne.mpr c33
      (first | rw [c33b0] | (simp only [i64_w,i32_w];rw [c33b0]) | skip)
      replace H':=am H
      go_wp2
      go_meet
      case rel=>exact ⟨_,(true),(by first | rfl | (simp;done) | (simp [*];done)),H',⟨by have:=HJ3.out;first | omega | exact Nat.le_refl _⟩,⟨by (with_reducible repeat (first | apply Kd.R_alloc | apply Kd.R_drewN | apply Kd.R_drew));exact Kd.R_mono HO564.out (fun _ hk=>trivial)⟩,⟨by (with_reducible repeat (first | refine blk_drewN ?_ _ | refine blk_drew ?_ | refine blk_alloc ?_ _));exact BK555.out⟩,⟨HB.out⟩⟩
     rw [if_pos c33] at H
     have c33b0 : (t561 == 0) = true:=beq_iff_eq.mpr c33
     have c33b1 : (t561 != 0) = false:=bne_eq_false_iff_eq.mpr c33
     clear c33
     (first | rw [c33b0] | (simp only [i64_w,i32_w];rw [c33b0]) | skip)
     replace H:=obm H
     obtain ⟨t572,A340,H⟩:=H
     replace H : (if t572 = true then (l8_GateFewests.j1 kj3 l1 l2 t562 t565 false l0_0 l0_1) else (l8_GateFewests.j1 kj3 l1 l2 t562 t565 true l0_0 l0_1)) = some r:=H
     have A34:=am A340
     clear A340
     by_cases c35 : t572 = true
     ·subst c35
      replace H : (l8_GateFewests.j1 kj3 l1 l2 t562 t565 false l0_0 l0_1) = some r:=by rw [if_pos rfl] at H;exact H
      replace H':=am H
      obtain ⟨Ao36,co36,eo36⟩:=Kd.R_slice HO560.out
      subst eo36
      obtain ⟨Ao37,co37,eo37⟩:=Kd.V_slice HO570.out
      subst eo37
      go_wp2_with (first | (go_at_call 25;(with_reducible refine (q8_Same.calls kj3 _ _ t558 _ _ t568 true _ ?side1 ?side2 ?side3 ?side4 A34.out).mono ?_);(case side1=>repeat (first | exact (Kd.R_reads' HO560.out).2.2 | (with_reducible refine Kd.C_alloc ?_ _) | (with_reducible refine Kd.C_drewN ?_ _) | (with_reducible refine Kd.C_drew ?_)));(case side2=>exact (Kd.R_reads' HO560.out).2.1);(case side3=>repeat (first | exact (Kd.V_reads' HO570.out).2.2 | (with_reducible refine Kd.C_alloc ?_ _) | (with_reducible refine Kd.C_drewN ?_ _) | (with_reducible refine Kd.C_drew ?_)));(case side4=>exact (Kd.V_reads' HO570.out).2.1);rintro e w' ⟨rfl,⟨nd,rfl⟩⟩))
      go_meet
      case rel=>exact ⟨_,(false),(by first | rfl | (simp;done) | (simp [*];done)),H',⟨by have:=HJ3.out;first | omega | exact Nat.le_refl _⟩,⟨by (with_reducible repeat (first | apply Kd.R_alloc | apply Kd.R_drewN | apply Kd.R_drew));exact Kd.R_mono HO564.out (fun _ hk=>trivial)⟩,⟨by (with_reducible repeat (first | refine blk_drewN ?_ _ | refine blk_drew ?_ | refine blk_alloc ?_ _));exact BK555.out⟩,⟨pw_below_drewN HB.out _⟩⟩
     ·replace c35:=Bool.eq_false_iff.mpr c35
      subst c35
      replace H : (l8_GateFewests.j1 kj3 l1 l2 t562 t565 true l0_0 l0_1) = some r:=by rw [if_neg (show ¬ (false = true) by decide)] at H;exact H
      replace H':=am H
      obtain ⟨Ao38,co38,eo38⟩:=Kd.R_slice HO560.out
      subst eo38
      obtain ⟨Ao39,co39,eo39⟩:=Kd.V_slice HO570.out
      subst eo39
      go_wp2_with (first | (go_at_call 25;(with_reducible refine (q8_Same.calls kj3 _ _ t558 _ _ t568 false _ ?side1 ?side2 ?side3 ?side4 A34.out).mono ?_);(case side1=>repeat (first | exact (Kd.R_reads' HO560.out).2.2 | (with_reducible refine Kd.C_alloc ?_ _) | (with_reducible refine Kd.C_drewN ?_ _) | (with_reducible refine Kd.C_drew ?_)));(case side2=>exact (Kd.R_reads' HO560.out).2.1);(case side3=>repeat (first | exact (Kd.V_reads' HO570.out).2.2 | (with_reducible refine Kd.C_alloc ?_ _) | (with_reducible refine Kd.C_drewN ?_ _) | (with_reducible refine Kd.C_drew ?_)));(case side4=>exact (Kd.V_reads' HO570.out).2.1);rintro e w' ⟨rfl,⟨nd,rfl⟩⟩))
      go_meet
      case rel=>exact ⟨_,(true),(by first | rfl | (simp;done) | (simp [*];done)),H',⟨by have:=HJ3.out;first | omega | exact Nat.le_refl _⟩,⟨by (with_reducible repeat (first | apply Kd.R_alloc | apply Kd.R_drewN | apply Kd.R_drew));exact Kd.R_mono HO564.out (fun _ hk=>trivial)⟩,⟨by (with_reducible repeat (first | refine blk_drewN ?_ _ | refine blk_drew ?_ | refine blk_alloc ?_ _));exact BK555.out⟩,⟨pw_below_drewN HB.out _⟩⟩
    case rest =>
     clear HC23
     obtain ⟨kq,x91_22,rfl,HA,HJ22,HO_9,BK555,HB⟩:=hcut
     cases kq with
     | zero=>exact absurd HA.out (by simp [l8_GateFewests.j1])
     | succ kj22 =>
      have H:=HA.out
      clear HA
      simp only [l8_GateFewests.j1] at H
      by_cases c42 : x91_22 = true
      ·subst c42
       replace H : (some false) = some r:=by rw [if_pos rfl] at H;exact H
       obtain rfl:=Option.some.inj H
       go_wp2
       go_ret
       exact ⟨by first | rfl | (simp [*]<;>rfl),HB.out⟩
      ·replace c42:=Bool.eq_false_iff.mpr c42
       subst c42
       replace H : ((q8_Some.f kj22 l0_0 l0_1 l1).bind fun t573=>(if t573 = true then ((q8_Some.f kj22 l0_0 l0_1 l2).bind fun t574=>(l8_GateFewests.j2 kj22 l1 l2 t562 t565 (!t574) l0_0 l0_1)) else (l8_GateFewests.j2 kj22 l1 l2 t562 t565 true l0_0 l0_1))) = some r:=by rw [if_neg (show ¬ (false = true) by decide)] at H;exact H
       have HC43:=am H
       clear H
       go_upto_region 10 with (fail)
       go_cut [101] (fun v101 wc=>∃ (kq : Nat) (x101_42 : Bool),v101 = .bool x101_42∧Aside0 (l8_GateFewests.j2 kq l1 l2 t562 t565 x101_42 l0_0 l0_1 = some r)∧Aside0 (kq≤kj22)∧Aside0 (Kd.R (Kd.int .i64) 3 wc w.heap.size (fun _=>True) v563 t562)∧Aside0 (wc.heap[gb555]? = some (.cells #[(.slice A0_0 l0_0.length c0_0),(.slice A0_1 l0_1.length c0_1)] 25 (0,0)))∧Aside0 (Below w.heap.size w wc))
       case first =>
        have H:=HC43.out
        clear HC43
        replace H:=obm H
        obtain ⟨t573,A440,H⟩:=H
        replace H : (if t573 = true then ((q8_Some.f kj22 l0_0 l0_1 l2).bind fun t574=>(l8_GateFewests.j2 kj22 l1 l2 t562 t565 (!t574) l0_0 l0_1)) else (l8_GateFewests.j2 kj22 l1 l2 t562 t565 true l0_0 l0_1)) = some r:=H
        have A44:=am A440
        clear A440
        by_cases c45 : t573 = true
        case neg =>
         replace c45:=Bool.eq_false_iff.mpr c45
         subst c45
         replace H : (l8_GateFewests.j2 kj22 l1 l2 t562 t565 true l0_0 l0_1) = some r:=by rw [if_neg (show ¬ (false = true) by decide)] at H;exact H
         replace H':=am H
         obtain ⟨hcz51_0,hcz51_1⟩:=cO2 BK555.out
         have hfz51_0:=blk_frozen BK555.out 0
         have hfz51_1:=blk_frozen BK555.out 1
         go_wp2_with (first | ((with_reducible refine ga_callee (f:=18) rfl ?_);refine goesL_ (some 94) rfl rfl Tryz.func18 (by kernel_rfl) rfl #[.agg #[.slice A0_0 l0_0.length c0_0,.slice A0_1 l0_1.length c0_1],.slice A1 l1.length c1] rfl (by (try simp only [List.map_toArray,List.map_cons,List.map_nil]);first | done | rfl | (simp only [List.length_drop,List.length_take];rfl)) ?_;(with_reducible refine (q8_Some.calls kj22 _ _ l0_0 _ _ l0_1 _ _ l1 false _ ?side1 ?side2 ?side3 ?side4 ?side5 ?side6 A44.out).mono ?_);(case side1=>exact kC HR0_0.out HB.out);(case side2=>exact HC0_0.out);(case side3=>exact kC HR0_1.out HB.out);(case side4=>exact HC0_1.out);(case side5=>exact kC HR1.out HB.out);(case side6=>exact HC1.out);rintro e w52 ⟨rfl,hb⟩;refine ⟨_,rfl,?_⟩;replace HO_9:=am (Kd.R_below (by (with_reducible repeat (first | apply Kd.R_alloc | apply Kd.R_drewN | apply Kd.R_drew));exact HO_9.out) hb);replace BK555:=am (blk_below (g:=gb555) (o:=.cells #[.slice A0_0 l0_0.length c0_0,.slice A0_1 l0_1.length c0_1] 25 (0,0)) (by (with_reducible repeat (first | refine blk_drewN ?_ _ | refine blk_drew ?_ | refine blk_alloc ?_ _));exact BK555.out) hb);replace HB:=am (below_step (HB.out) hb);(try clear hb);(try clear hb2);(try clear hk);(try clear hi)))
         go_meet
         case rel=>exact ⟨_,(true),(by first | rfl | (simp;done) | (simp [*];done)),H',⟨by have:=HJ3.out;have:=HJ22.out;first | omega | exact Nat.le_refl _⟩,⟨by (with_reducible repeat (first | apply Kd.R_alloc | apply Kd.R_drewN | apply Kd.R_drew));exact HO_9.out⟩,⟨by (with_reducible repeat (first | refine blk_drewN ?_ _ | refine blk_drew ?_ | refine blk_alloc ?_ _));exact BK555.out⟩,⟨HB.out⟩⟩
        subst c45
        replace H : ((q8_Some.f kj22 l0_0 l0_1 l2).bind fun t574=>(l8_GateFewests.j2 kj22 l1 l2 t562 t565 (!t574) l0_0 l0_1)) = some r:=by rw [if_pos rfl] at H;exact H
        replace H:=obm H
        obtain ⟨t574,A460,H⟩:=H
        replace H : (l8_GateFewests.j2 kj22 l1 l2 t562 t565 (!t574) l0_0 l0_1) = some r:=H
        have A46:=am A460
        clear A460
        replace H':=am H
        obtain ⟨hcz47_0,hcz47_1⟩:=cO2 BK555.out
        have hfz47_0:=blk_frozen BK555.out 0
        have hfz47_1:=blk_frozen BK555.out 1
        go_wp2_with (first | ((with_reducible refine ga_callee (f:=18) rfl ?_);refine goesL_ (some 94) rfl rfl Tryz.func18 (by kernel_rfl) rfl #[.agg #[.slice A0_0 l0_0.length c0_0,.slice A0_1 l0_1.length c0_1],.slice A1 l1.length c1] rfl (by (try simp only [List.map_toArray,List.map_cons,List.map_nil]);first | done | rfl | (simp only [List.length_drop,List.length_take];rfl)) ?_;(with_reducible refine (q8_Some.calls kj22 _ _ l0_0 _ _ l0_1 _ _ l1 true _ ?side1 ?side2 ?side3 ?side4 ?side5 ?side6 A44.out).mono ?_);(case side1=>exact kC HR0_0.out HB.out);(case side2=>exact HC0_0.out);(case side3=>exact kC HR0_1.out HB.out);(case side4=>exact HC0_1.out);(case side5=>exact kC HR1.out HB.out);(case side6=>exact HC1.out);rintro e w48 ⟨rfl,hb⟩;refine ⟨_,rfl,?_⟩;replace HO_9:=am (Kd.R_below (by (with_reducible repeat (first | apply Kd.R_alloc | apply Kd.R_drewN | apply Kd.R_drew));exact HO_9.out) hb);replace BK555:=am (blk_below (g:=gb555) (o:=.cells #[.slice A0_0 l0_0.length c0_0,.slice A0_1 l0_1.length c0_1] 25 (0,0)) (by (with_reducible repeat (first | refine blk_drewN ?_ _ | refine blk_drew ?_ | refine blk_alloc ?_ _));exact BK555.out) hb);replace HB:=am (below_step (HB.out) hb);(try clear hb);(try clear hb2);(try clear hk);(try clear hi);obtain ⟨hcz49_0,hcz49_1⟩:=cO2 BK555.out;have hfz49_0:=blk_frozen BK555.out 0;have hfz49_1:=blk_frozen BK555.out 1) | (go_at_call 18;(with_reducible refine (q8_Some.calls kj22 _ _ l0_0 _ _ l0_1 _ _ l2 t574 _ ?side1 ?side2 ?side3 ?side4 ?side5 ?side6 A46.out).mono ?_);(case side1=>exact kC HR0_0.out HB.out);(case side2=>exact HC0_0.out);(case side3=>exact kC HR0_1.out HB.out);(case side4=>exact HC0_1.out);(case side5=>exact kC HR2.out HB.out);(case side6=>exact HC2.out);rintro e w50 ⟨rfl,hb⟩;replace HO_9:=am (Kd.R_below (by (with_reducible repeat (first | apply Kd.R_alloc | apply Kd.R_drewN | apply Kd.R_drew));exact HO_9.out) hb);replace BK555:=am (blk_below (g:=gb555) (o:=.cells #[.slice A0_0 l0_0.length c0_0,.slice A0_1 l0_1.length c0_1] 25 (0,0)) (by (with_reducible repeat (first | refine blk_drewN ?_ _ | refine blk_drew ?_ | refine blk_alloc ?_ _));exact BK555.out) hb);replace HB:=am (below_step (HB.out) hb);(try clear hb);(try clear hb2);(try clear hk);(try clear hi)))
        go_meet
        case rel=>exact ⟨_,(!t574),(by first | rfl | (simp;done) | (simp [*];done)),H',⟨by have:=HJ3.out;have:=HJ22.out;first | omega | exact Nat.le_refl _⟩,⟨by (with_reducible repeat (first | apply Kd.R_alloc | apply Kd.R_drewN | apply Kd.R_drew));exact HO_9.out⟩,⟨by (with_reducible repeat (first | refine blk_drewN ?_ _ | refine blk_drew ?_ | refine blk_alloc ?_ _));exact BK555.out⟩,⟨HB.out⟩⟩
       case rest =>
        clear HC43
        obtain ⟨kq,x101_42,rfl,HA,HJ42,HO_9,BK555,HB⟩:=hcut
        cases kq with
        | zero=>exact absurd HA.out (by simp [l8_GateFewests.j2])
        | succ kj42 =>
         have H:=HA.out
         clear HA
         simp only [l8_GateFewests.j2] at H
         by_cases c53 : x101_42 = true
         ·subst c53
          replace H : (if t565 = 2 then (if (t562.length : Int) = 0 then ((l8_known.f).bind fun t575=>(some t575)) else (some false)) else (some false)) = some r:=by rw [if_pos rfl] at H;exact H
          by_cases c54 : t565 = 2
          case neg =>
           rw [if_neg c54] at H
           have c54b0 : (t565 == 2) = false:=beq_eq_false_iff_ne.mpr c54
           have c54b1 : (t565 != 2) = true:=bne_iff_ne.mpr c54
           obtain rfl:=Option.some.inj H
           go_wp2
           go_ret
           exact ⟨by first | rfl | (simp [*]<;>rfl),HB.out⟩
          rw [if_pos c54] at H
          have c54b0 : (t565 == 2) = true:=beq_iff_eq.mpr c54
          have c54b1 : (t565 != 2) = false:=bne_eq_false_iff_eq.mpr c54
          clear c54
          by_cases c55 : (t562.length : Int) = 0
          case neg =>
           rw [if_neg c55] at H
           have c55b0 : ((t562.length : Int) == 0) = false:=beq_eq_false_iff_ne.mpr c55
           have c55b1 : ((t562.length : Int) != 0) = true:=bne_iff_ne.mpr c55
           have c55b2 : ¬ (t562 = []):=fun h_=>c55 (by rw [h_];rfl)
           obtain rfl:=Option.some.inj H
           obtain ⟨Ao59,co59,eo59⟩:=Kd.R_slice HO_9.out
           subst eo59
           go_wp2
           go_ret
           exact ⟨by first | rfl | (simp [*]<;>rfl),HB.out⟩
          rw [if_pos c55] at H
          have c55b0 : ((t562.length : Int) == 0) = true:=beq_iff_eq.mpr c55
          have c55b1 : ((t562.length : Int) != 0) = false:=bne_eq_false_iff_eq.mpr c55
          clear c55
          replace H:=obm H
          obtain ⟨t575,A560,H⟩:=H
          replace H : (some t575) = some r:=H
          have A56:=am A560
          clear A560
          obtain rfl:=Option.some.inj H
          obtain ⟨Ao57,co57,eo57⟩:=Kd.R_slice HO_9.out
          subst eo57
          go_wp2_with (first | (go_at_call 15;(with_reducible refine (l8_known.calls  t575 _ A56.out).mono ?_);rintro e w58 ⟨rfl,hb⟩;replace HO_9:=am (Kd.R_below (by (with_reducible repeat (first | apply Kd.R_alloc | apply Kd.R_drewN | apply Kd.R_drew));exact HO_9.out) hb);replace BK555:=am (blk_below (g:=gb555) (o:=.cells #[.slice A0_0 l0_0.length c0_0,.slice A0_1 l0_1.length c0_1] 25 (0,0)) (by (with_reducible repeat (first | refine blk_drewN ?_ _ | refine blk_drew ?_ | refine blk_alloc ?_ _));exact BK555.out) hb);replace HB:=am (below_step (HB.out) hb);(try clear hb);(try clear hb2);(try clear hk);(try clear hi)))
          go_ret
          exact ⟨by first | rfl | (simp [*]<;>rfl),HB.out⟩
         ·replace c53:=Bool.eq_false_iff.mpr c53
          subst c53
          replace H : ((q8_Moves.f kj42 l0_0 l0_1 l1 l2).bind fun bt576=>(if bt576.2 = true then (if t565 = 0 then ((q8_Same.f kj42 t562 bt576.1).bind fun t580=>(if t580 = true then ((l8_known.f).bind fun t581=>(some t581)) else (some false))) else (some false)) else (if t565 = 5 then (if (t562.length : Int) = 0 then ((l8_known.f).bind fun t582=>(some t582)) else (some false)) else (some false)))) = some r:=by rw [if_neg (show ¬ (false = true) by decide)] at H;exact H
          replace H:=obm H
          obtain ⟨⟨t576,t579⟩,A600,H⟩:=H
          replace H : (if t579 = true then (if t565 = 0 then ((q8_Same.f kj42 t562 t576).bind fun t580=>(if t580 = true then ((l8_known.f).bind fun t581=>(some t581)) else (some false))) else (some false)) else (if t565 = 5 then (if (t562.length : Int) = 0 then ((l8_known.f).bind fun t582=>(some t582)) else (some false)) else (some false))) = some r:=H
          have A60:=am A600
          clear A600
          by_cases c61 : t579 = true
          case neg =>
           replace c61:=Bool.eq_false_iff.mpr c61
           subst c61
           replace H : (if t565 = 5 then (if (t562.length : Int) = 0 then ((l8_known.f).bind fun t582=>(some t582)) else (some false)) else (some false)) = some r:=by rw [if_neg (show ¬ (false = true) by decide)] at H;exact H
           by_cases c77 : t565 = 5
           case neg =>
            rw [if_neg c77] at H
            have c77b0 : (t565 == 5) = false:=beq_eq_false_iff_ne.mpr c77
            have c77b1 : (t565 != 5) = true:=bne_iff_ne.mpr c77
            obtain rfl:=Option.some.inj H
            obtain ⟨hcz87_0,hcz87_1⟩:=cO2 BK555.out
            have hfz87_0:=blk_frozen BK555.out 0
            have hfz87_1:=blk_frozen BK555.out 1
            go_wp2_with (first | ((with_reducible refine ga_callee (f:=37) rfl ?_);refine goesL_ (some 116) rfl rfl Tryz.func37 (by kernel_rfl) rfl #[.agg #[.slice A0_0 l0_0.length c0_0,.slice A0_1 l0_1.length c0_1],.slice A1 l1.length c1,.slice A2 l2.length c2] rfl (by (try simp only [List.map_toArray,List.map_cons,List.map_nil]);first | done | rfl | (simp only [List.length_drop,List.length_take];rfl)) ?_;(with_reducible refine (q8_Moves.calls kj42 _ _ l0_0 _ _ l0_1 _ _ l1 _ _ l2 t576 false _ ?side1 ?side2 ?side3 ?side4 ?side5 ?side6 ?side7 ?side8 A60.out).mono ?_);(case side1=>exact kC HR0_0.out HB.out);(case side2=>exact HC0_0.out);(case side3=>exact kC HR0_1.out HB.out);(case side4=>exact HC0_1.out);(case side5=>exact kC HR1.out HB.out);(case side6=>exact HC1.out);(case side7=>exact kC HR2.out HB.out);(case side8=>exact HC2.out);rintro e w88 ⟨v577,rfl,ho0,hb⟩;refine ⟨_,rfl,?_⟩;have HO578:=am (Kd.V_lower (Kd.V_mono (ok':=fun k_=>some k_ ≠ (v563 : Value).ownBlock∧k_ ≠ gb555) ho0 (fun k_ hk_=>⟨(Kd.fresh' (Kd.R_lt (by (with_reducible repeat (first | apply Kd.R_alloc | apply Kd.R_drewN | apply Kd.R_drew));exact HO_9.out)) k_ hk_),(Kd.freshB (g:=gb555) (o:=.cells #[.slice A0_0 l0_0.length c0_0,.slice A0_1 l0_1.length c0_1] 25 (0,0)) (by (with_reducible repeat (first | refine blk_drewN ?_ _ | refine blk_drew ?_ | refine blk_alloc ?_ _));exact BK555.out) k_ hk_)⟩)) (below_size (HB.out)));replace HO_9:=am (Kd.R_below (by (with_reducible repeat (first | apply Kd.R_alloc | apply Kd.R_drewN | apply Kd.R_drew));exact HO_9.out) hb);replace BK555:=am (blk_below (g:=gb555) (o:=.cells #[.slice A0_0 l0_0.length c0_0,.slice A0_1 l0_1.length c0_1] 25 (0,0)) (by (with_reducible repeat (first | refine blk_drewN ?_ _ | refine blk_drew ?_ | refine blk_alloc ?_ _));exact BK555.out) hb);replace HB:=am (below_step (HB.out) hb);(try clear hb);(try clear hb2);(try clear hk);(try clear hi);(try clear ho0)))
            go_ret
            exact ⟨by first | rfl | (simp [*]<;>rfl),HB.out⟩
           rw [if_pos c77] at H
           have c77b0 : (t565 == 5) = true:=beq_iff_eq.mpr c77
           have c77b1 : (t565 != 5) = false:=bne_eq_false_iff_eq.mpr c77
           clear c77
           by_cases c78 : (t562.length : Int) = 0
           case neg =>
            rw [if_neg c78] at H
            have c78b0 : ((t562.length : Int) == 0) = false:=beq_eq_false_iff_ne.mpr c78
            have c78b1 : ((t562.length : Int) != 0) = true:=bne_iff_ne.mpr c78
            have c78b2 : ¬ (t562 = []):=fun h_=>c78 (by rw [h_];rfl)
            obtain rfl:=Option.some.inj H
            obtain ⟨hcz84_0,hcz84_1⟩:=cO2 BK555.out
            have hfz84_0:=blk_frozen BK555.out 0
            have hfz84_1:=blk_frozen BK555.out 1
            go_wp2_with (first | ((with_reducible refine ga_callee (f:=37) rfl ?_);refine goesL_ (some 116) rfl rfl Tryz.func37 (by kernel_rfl) rfl #[.agg #[.slice A0_0 l0_0.length c0_0,.slice A0_1 l0_1.length c0_1],.slice A1 l1.length c1,.slice A2 l2.length c2] rfl (by (try simp only [List.map_toArray,List.map_cons,List.map_nil]);first | done | rfl | (simp only [List.length_drop,List.length_take];rfl)) ?_;(with_reducible refine (q8_Moves.calls kj42 _ _ l0_0 _ _ l0_1 _ _ l1 _ _ l2 t576 false _ ?side1 ?side2 ?side3 ?side4 ?side5 ?side6 ?side7 ?side8 A60.out).mono ?_);(case side1=>exact kC HR0_0.out HB.out);(case side2=>exact HC0_0.out);(case side3=>exact kC HR0_1.out HB.out);(case side4=>exact HC0_1.out);(case side5=>exact kC HR1.out HB.out);(case side6=>exact HC1.out);(case side7=>exact kC HR2.out HB.out);(case side8=>exact HC2.out);rintro e w85 ⟨v577,rfl,ho0,hb⟩;refine ⟨_,rfl,?_⟩;have HO578:=am (Kd.V_lower (Kd.V_mono (ok':=fun k_=>some k_ ≠ (v563 : Value).ownBlock∧k_ ≠ gb555) ho0 (fun k_ hk_=>⟨(Kd.fresh' (Kd.R_lt (by (with_reducible repeat (first | apply Kd.R_alloc | apply Kd.R_drewN | apply Kd.R_drew));exact HO_9.out)) k_ hk_),(Kd.freshB (g:=gb555) (o:=.cells #[.slice A0_0 l0_0.length c0_0,.slice A0_1 l0_1.length c0_1] 25 (0,0)) (by (with_reducible repeat (first | refine blk_drewN ?_ _ | refine blk_drew ?_ | refine blk_alloc ?_ _));exact BK555.out) k_ hk_)⟩)) (below_size (HB.out)));replace HO_9:=am (Kd.R_below (by (with_reducible repeat (first | apply Kd.R_alloc | apply Kd.R_drewN | apply Kd.R_drew));exact HO_9.out) hb);replace BK555:=am (blk_below (g:=gb555) (o:=.cells #[.slice A0_0 l0_0.length c0_0,.slice A0_1 l0_1.length c0_1] 25 (0,0)) (by (with_reducible repeat (first | refine blk_drewN ?_ _ | refine blk_drew ?_ | refine blk_alloc ?_ _));exact BK555.out) hb);replace HB:=am (below_step (HB.out) hb);(try clear hb);(try clear hb2);(try clear hk);(try clear hi);(try clear ho0);obtain ⟨Ao86,co86,eo86⟩:=Kd.R_slice HO_9.out;subst eo86))
            go_ret
            exact ⟨by first | rfl | (simp [*]<;>rfl),HB.out⟩
           rw [if_pos c78] at H
           have c78b0 : ((t562.length : Int) == 0) = true:=beq_iff_eq.mpr c78
           have c78b1 : ((t562.length : Int) != 0) = false:=bne_eq_false_iff_eq.mpr c78
           clear c78
           replace H:=obm H
           obtain ⟨t582,A790,H⟩:=H
           replace H : (some t582) = some r:=H
           have A79:=am A790
           clear A790
           obtain rfl:=Option.some.inj H
           obtain ⟨hcz80_0,hcz80_1⟩:=cO2 BK555.out
           have hfz80_0:=blk_frozen BK555.out 0
           have hfz80_1:=blk_frozen BK555.out 1
           go_wp2_with (first | ((with_reducible refine ga_callee (f:=37) rfl ?_);refine goesL_ (some 116) rfl rfl Tryz.func37 (by kernel_rfl) rfl #[.agg #[.slice A0_0 l0_0.length c0_0,.slice A0_1 l0_1.length c0_1],.slice A1 l1.length c1,.slice A2 l2.length c2] rfl (by (try simp only [List.map_toArray,List.map_cons,List.map_nil]);first | done | rfl | (simp only [List.length_drop,List.length_take];rfl)) ?_;(with_reducible refine (q8_Moves.calls kj42 _ _ l0_0 _ _ l0_1 _ _ l1 _ _ l2 t576 false _ ?side1 ?side2 ?side3 ?side4 ?side5 ?side6 ?side7 ?side8 A60.out).mono ?_);(case side1=>exact kC HR0_0.out HB.out);(case side2=>exact HC0_0.out);(case side3=>exact kC HR0_1.out HB.out);(case side4=>exact HC0_1.out);(case side5=>exact kC HR1.out HB.out);(case side6=>exact HC1.out);(case side7=>exact kC HR2.out HB.out);(case side8=>exact HC2.out);rintro e w81 ⟨v577,rfl,ho0,hb⟩;refine ⟨_,rfl,?_⟩;have HO578:=am (Kd.V_lower (Kd.V_mono (ok':=fun k_=>some k_ ≠ (v563 : Value).ownBlock∧k_ ≠ gb555) ho0 (fun k_ hk_=>⟨(Kd.fresh' (Kd.R_lt (by (with_reducible repeat (first | apply Kd.R_alloc | apply Kd.R_drewN | apply Kd.R_drew));exact HO_9.out)) k_ hk_),(Kd.freshB (g:=gb555) (o:=.cells #[.slice A0_0 l0_0.length c0_0,.slice A0_1 l0_1.length c0_1] 25 (0,0)) (by (with_reducible repeat (first | refine blk_drewN ?_ _ | refine blk_drew ?_ | refine blk_alloc ?_ _));exact BK555.out) k_ hk_)⟩)) (below_size (HB.out)));replace HO_9:=am (Kd.R_below (by (with_reducible repeat (first | apply Kd.R_alloc | apply Kd.R_drewN | apply Kd.R_drew));exact HO_9.out) hb);replace BK555:=am (blk_below (g:=gb555) (o:=.cells #[.slice A0_0 l0_0.length c0_0,.slice A0_1 l0_1.length c0_1] 25 (0,0)) (by (with_reducible repeat (first | refine blk_drewN ?_ _ | refine blk_drew ?_ | refine blk_alloc ?_ _));exact BK555.out) hb);replace HB:=am (below_step (HB.out) hb);(try clear hb);(try clear hb2);(try clear hk);(try clear hi);(try clear ho0);obtain ⟨Ao82,co82,eo82⟩:=Kd.R_slice HO_9.out;subst eo82) | (go_at_call 15;(with_reducible refine (l8_known.calls  t582 _ A79.out).mono ?_);rintro e w83 ⟨rfl,hb⟩;replace HO_9:=am (Kd.R_below (by (with_reducible repeat (first | apply Kd.R_alloc | apply Kd.R_drewN | apply Kd.R_drew));exact HO_9.out) hb);replace HO578:=am (Kd.V_below (by (with_reducible repeat (first | apply Kd.V_alloc | apply Kd.V_drewN | apply Kd.V_drew));exact HO578.out) hb);replace BK555:=am (blk_below (g:=gb555) (o:=.cells #[.slice A0_0 l0_0.length c0_0,.slice A0_1 l0_1.length c0_1] 25 (0,0)) (by (with_reducible repeat (first | refine blk_drewN ?_ _ | refine blk_drew ?_ | refine blk_alloc ?_ _));exact BK555.out) hb);replace HB:=am (below_step (HB.out) hb);(try clear hb);(try clear hb2);(try clear hk);(try clear hi)))
           go_ret
           exact ⟨by first | rfl | (simp [*]<;>rfl),HB.out⟩
          subst c61
          replace H : (if t565 = 0 then ((q8_Same.f kj42 t562 t576).bind fun t580=>(if t580 = true then ((l8_known.f).bind fun t581=>(some t581)) else (some false))) else (some false)) = some r:=by rw [if_pos rfl] at H;exact H
          by_cases c62 : t565 = 0
          case neg =>
           rw [if_neg c62] at H
           have c62b0 : (t565 == 0) = false:=beq_eq_false_iff_ne.mpr c62
           have c62b1 : (t565 != 0) = true:=bne_iff_ne.mpr c62
           obtain rfl:=Option.some.inj H
           obtain ⟨hcz75_0,hcz75_1⟩:=cO2 BK555.out
           have hfz75_0:=blk_frozen BK555.out 0
           have hfz75_1:=blk_frozen BK555.out 1
           go_wp2_with (first | ((with_reducible refine ga_callee (f:=37) rfl ?_);refine goesL_ (some 116) rfl rfl Tryz.func37 (by kernel_rfl) rfl #[.agg #[.slice A0_0 l0_0.length c0_0,.slice A0_1 l0_1.length c0_1],.slice A1 l1.length c1,.slice A2 l2.length c2] rfl (by (try simp only [List.map_toArray,List.map_cons,List.map_nil]);first | done | rfl | (simp only [List.length_drop,List.length_take];rfl)) ?_;(with_reducible refine (q8_Moves.calls kj42 _ _ l0_0 _ _ l0_1 _ _ l1 _ _ l2 t576 true _ ?side1 ?side2 ?side3 ?side4 ?side5 ?side6 ?side7 ?side8 A60.out).mono ?_);(case side1=>exact kC HR0_0.out HB.out);(case side2=>exact HC0_0.out);(case side3=>exact kC HR0_1.out HB.out);(case side4=>exact HC0_1.out);(case side5=>exact kC HR1.out HB.out);(case side6=>exact HC1.out);(case side7=>exact kC HR2.out HB.out);(case side8=>exact HC2.out);rintro e w76 ⟨v577,rfl,ho0,hb⟩;refine ⟨_,rfl,?_⟩;have HO578:=am (Kd.V_lower (Kd.V_mono (ok':=fun k_=>some k_ ≠ (v563 : Value).ownBlock∧k_ ≠ gb555) ho0 (fun k_ hk_=>⟨(Kd.fresh' (Kd.R_lt (by (with_reducible repeat (first | apply Kd.R_alloc | apply Kd.R_drewN | apply Kd.R_drew));exact HO_9.out)) k_ hk_),(Kd.freshB (g:=gb555) (o:=.cells #[.slice A0_0 l0_0.length c0_0,.slice A0_1 l0_1.length c0_1] 25 (0,0)) (by (with_reducible repeat (first | refine blk_drewN ?_ _ | refine blk_drew ?_ | refine blk_alloc ?_ _));exact BK555.out) k_ hk_)⟩)) (below_size (HB.out)));replace HO_9:=am (Kd.R_below (by (with_reducible repeat (first | apply Kd.R_alloc | apply Kd.R_drewN | apply Kd.R_drew));exact HO_9.out) hb);replace BK555:=am (blk_below (g:=gb555) (o:=.cells #[.slice A0_0 l0_0.length c0_0,.slice A0_1 l0_1.length c0_1] 25 (0,0)) (by (with_reducible repeat (first | refine blk_drewN ?_ _ | refine blk_drew ?_ | refine blk_alloc ?_ _));exact BK555.out) hb);replace HB:=am (below_step (HB.out) hb);(try clear hb);(try clear hb2);(try clear hk);(try clear hi);(try clear ho0)))
           go_ret
           exact ⟨by first | rfl | (simp [*]<;>rfl),HB.out⟩
          rw [if_pos c62] at H
          have c62b0 : (t565 == 0) = true:=beq_iff_eq.mpr c62
          have c62b1 : (t565 != 0) = false:=bne_eq_false_iff_eq.mpr c62
          clear c62
          replace H:=obm H
          obtain ⟨t580,A630,H⟩:=H
          replace H : (if t580 = true then ((l8_known.f).bind fun t581=>(some t581)) else (some false)) = some r:=H
          have A63:=am A630
          clear A630
          by_cases c64 : t580 = true
          case neg =>
           replace c64:=Bool.eq_false_iff.mpr c64
           subst c64
           replace H : (some false) = some r:=by rw [if_neg (show ¬ (false = true) by decide)] at H;exact H
           obtain rfl:=Option.some.inj H
           obtain ⟨hcz71_0,hcz71_1⟩:=cO2 BK555.out
           have hfz71_0:=blk_frozen BK555.out 0
           have hfz71_1:=blk_frozen BK555.out 1
           go_wp2_with (first | ((with_reducible refine ga_callee (f:=37) rfl ?_);refine goesL_ (some 116) rfl rfl Tryz.func37 (by kernel_rfl) rfl #[.agg #[.slice A0_0 l0_0.length c0_0,.slice A0_1 l0_1.length c0_1],.slice A1 l1.length c1,.slice A2 l2.length c2] rfl (by (try simp only [List.map_toArray,List.map_cons,List.map_nil]);first | done | rfl | (simp only [List.length_drop,List.length_take];rfl)) ?_;(with_reducible refine (q8_Moves.calls kj42 _ _ l0_0 _ _ l0_1 _ _ l1 _ _ l2 t576 true _ ?side1 ?side2 ?side3 ?side4 ?side5 ?side6 ?side7 ?side8 A60.out).mono ?_);(case side1=>exact kC HR0_0.out HB.out);(case side2=>exact HC0_0.out);(case side3=>exact kC HR0_1.out HB.out);(case side4=>exact HC0_1.out);(case side5=>exact kC HR1.out HB.out);(case side6=>exact HC1.out);(case side7=>exact kC HR2.out HB.out);(case side8=>exact HC2.out);rintro e w72 ⟨v577,rfl,ho0,hb⟩;refine ⟨_,rfl,?_⟩;have HO578:=am (Kd.V_lower (Kd.V_mono (ok':=fun k_=>some k_ ≠ (v563 : Value).ownBlock∧k_ ≠ gb555) ho0 (fun k_ hk_=>⟨(Kd.fresh' (Kd.R_lt (by (with_reducible repeat (first | apply Kd.R_alloc | apply Kd.R_drewN | apply Kd.R_drew));exact HO_9.out)) k_ hk_),(Kd.freshB (g:=gb555) (o:=.cells #[.slice A0_0 l0_0.length c0_0,.slice A0_1 l0_1.length c0_1] 25 (0,0)) (by (with_reducible repeat (first | refine blk_drewN ?_ _ | refine blk_drew ?_ | refine blk_alloc ?_ _));exact BK555.out) k_ hk_)⟩)) (below_size (HB.out)));replace HO_9:=am (Kd.R_below (by (with_reducible repeat (first | apply Kd.R_alloc | apply Kd.R_drewN | apply Kd.R_drew));exact HO_9.out) hb);replace BK555:=am (blk_below (g:=gb555) (o:=.cells #[.slice A0_0 l0_0.length c0_0,.slice A0_1 l0_1.length c0_1] 25 (0,0)) (by (with_reducible repeat (first | refine blk_drewN ?_ _ | refine blk_drew ?_ | refine blk_alloc ?_ _));exact BK555.out) hb);replace HB:=am (below_step (HB.out) hb);(try clear hb);(try clear hb2);(try clear hk);(try clear hi);(try clear ho0);obtain ⟨Ao73,co73,eo73⟩:=Kd.R_slice HO_9.out;subst eo73;obtain ⟨Ao74,co74,eo74⟩:=Kd.V_slice HO578.out;subst eo74) | (go_at_call 25;(with_reducible refine (q8_Same.calls kj42 _ _ t562 _ _ t576 false _ ?side1 ?side2 ?side3 ?side4 A63.out).mono ?_);(case side1=>repeat (first | exact (Kd.R_reads' HO_9.out).2.2 | (with_reducible refine Kd.C_alloc ?_ _) | (with_reducible refine Kd.C_drewN ?_ _) | (with_reducible refine Kd.C_drew ?_)));(case side2=>exact (Kd.R_reads' HO_9.out).2.1);(case side3=>repeat (first | exact (Kd.V_reads' HO578.out).2.2 | (with_reducible refine Kd.C_alloc ?_ _) | (with_reducible refine Kd.C_drewN ?_ _) | (with_reducible refine Kd.C_drew ?_)));(case side4=>exact (Kd.V_reads' HO578.out).2.1);rintro e w' ⟨rfl,⟨nd,rfl⟩⟩))
           go_ret
           exact ⟨by first | rfl | (simp [*]<;>rfl),pw_below_drewN HB.out _⟩
          subst c64
          replace H : ((l8_known.f).bind fun t581=>(some t581)) = some r:=by rw [if_pos rfl] at H;exact H
          replace H:=obm H
          obtain ⟨t581,A650,H⟩:=H
          replace H : (some t581) = some r:=H
          have A65:=am A650
          clear A650
          obtain rfl:=Option.some.inj H
          obtain ⟨hcz66_0,hcz66_1⟩:=cO2 BK555.out
          have hfz66_0:=blk_frozen BK555.out 0
          have hfz66_1:=blk_frozen BK555.out 1
          go_wp2_with (first | ((with_reducible refine ga_callee (f:=37) rfl ?_);refine goesL_ (some 116) rfl rfl Tryz.func37 (by kernel_rfl) rfl #[.agg #[.slice A0_0 l0_0.length c0_0,.slice A0_1 l0_1.length c0_1],.slice A1 l1.length c1,.slice A2 l2.length c2] rfl (by (try simp only [List.map_toArray,List.map_cons,List.map_nil]);first | done | rfl | (simp only [List.length_drop,List.length_take];rfl)) ?_;(with_reducible refine (q8_Moves.calls kj42 _ _ l0_0 _ _ l0_1 _ _ l1 _ _ l2 t576 true _ ?side1 ?side2 ?side3 ?side4 ?side5 ?side6 ?side7 ?side8 A60.out).mono ?_);(case side1=>exact kC HR0_0.out HB.out);(case side2=>exact HC0_0.out);(case side3=>exact kC HR0_1.out HB.out);(case side4=>exact HC0_1.out);(case side5=>exact kC HR1.out HB.out);(case side6=>exact HC1.out);(case side7=>exact kC HR2.out HB.out);(case side8=>exact HC2.out);rintro e w67 ⟨v577,rfl,ho0,hb⟩;refine ⟨_,rfl,?_⟩;have HO578:=am (Kd.V_lower (Kd.V_mono (ok':=fun k_=>some k_ ≠ (v563 : Value).ownBlock∧k_ ≠ gb555) ho0 (fun k_ hk_=>⟨(Kd.fresh' (Kd.R_lt (by (with_reducible repeat (first | apply Kd.R_alloc | apply Kd.R_drewN | apply Kd.R_drew));exact HO_9.out)) k_ hk_),(Kd.freshB (g:=gb555) (o:=.cells #[.slice A0_0 l0_0.length c0_0,.slice A0_1 l0_1.length c0_1] 25 (0,0)) (by (with_reducible repeat (first | refine blk_drewN ?_ _ | refine blk_drew ?_ | refine blk_alloc ?_ _));exact BK555.out) k_ hk_)⟩)) (below_size (HB.out)));replace HO_9:=am (Kd.R_below (by (with_reducible repeat (first | apply Kd.R_alloc | apply Kd.R_drewN | apply Kd.R_drew));exact HO_9.out) hb);replace BK555:=am (blk_below (g:=gb555) (o:=.cells #[.slice A0_0 l0_0.length c0_0,.slice A0_1 l0_1.length c0_1] 25 (0,0)) (by (with_reducible repeat (first | refine blk_drewN ?_ _ | refine blk_drew ?_ | refine blk_alloc ?_ _));exact BK555.out) hb);replace HB:=am (below_step (HB.out) hb);(try clear hb);(try clear hb2);(try clear hk);(try clear hi);(try clear ho0);obtain ⟨Ao68,co68,eo68⟩:=Kd.R_slice HO_9.out;subst eo68;obtain ⟨Ao69,co69,eo69⟩:=Kd.V_slice HO578.out;subst eo69) | (go_at_call 25;(with_reducible refine (q8_Same.calls kj42 _ _ t562 _ _ t576 true _ ?side1 ?side2 ?side3 ?side4 A63.out).mono ?_);(case side1=>repeat (first | exact (Kd.R_reads' HO_9.out).2.2 | (with_reducible refine Kd.C_alloc ?_ _) | (with_reducible refine Kd.C_drewN ?_ _) | (with_reducible refine Kd.C_drew ?_)));(case side2=>exact (Kd.R_reads' HO_9.out).2.1);(case side3=>repeat (first | exact (Kd.V_reads' HO578.out).2.2 | (with_reducible refine Kd.C_alloc ?_ _) | (with_reducible refine Kd.C_drewN ?_ _) | (with_reducible refine Kd.C_drew ?_)));(case side4=>exact (Kd.V_reads' HO578.out).2.1);rintro e w' ⟨rfl,⟨nd,rfl⟩⟩) | (go_at_call 15;(with_reducible refine (l8_known.calls  t581 _ A65.out).mono ?_);rintro e w70 ⟨rfl,hb⟩;replace HO_9:=am (Kd.R_below (by (with_reducible repeat (first | apply Kd.R_alloc | apply Kd.R_drewN | apply Kd.R_drew));exact HO_9.out) hb);replace HO578:=am (Kd.V_below (by (with_reducible repeat (first | apply Kd.V_alloc | apply Kd.V_drewN | apply Kd.V_drew));exact HO578.out) hb);replace BK555:=am (blk_below (g:=gb555) (o:=.cells #[.slice A0_0 l0_0.length c0_0,.slice A0_1 l0_1.length c0_1] 25 (0,0)) (by (with_reducible repeat (first | refine blk_drewN ?_ _ | refine blk_drew ?_ | refine blk_alloc ?_ _));exact BK555.out) hb);replace HB:=am (below_step (pw_below_drewN HB.out _) hb);(try clear hb);(try clear hb2);(try clear hk);(try clear hi)))
          go_ret
          exact ⟨by first | rfl | (simp [*]<;>rfl),HB.out⟩
end Go.Proofs.YtclkbedbocnpkaaGreatDoor.C
namespace Go.Proofs.YtclkbedbocnpkaaGreatDoor.C
open Go Go.RowKit Go.Proofs.YtclkbedbocnpkaaGreatDoorW.PrintWords Go.Proofs.YtclkbedbocnpkaaGreatDoorW.PrintLast Go.Proofs.YtclkbedbocnpkaaGreatDoorW.PrintMore
set_option linter.unusedVariables false
set_option linter.unusedSimpArgs false
set_option maxHeartbeats 16000000
set_option maxRecDepth 100000
section
variable {pts : List Pt} {ch : List Ch}
theorem short_gates_mem {S : List Int} (h : S ∈ shortestOf (gatesL ch)) : S.length≤(gatesL ch).length∧∀ c ∈ S,gateAt ch c = true:=by
 have:=uptoOf_mem h
 exact ⟨by omega,fun c hc=>mem_gates.1 (this.2 c hc)⟩
theorem short_gates_len (h : netS pts ch = true) : (shortestOf (gatesL ch)).length≤512 * 8:=by
 obtain ⟨h1,h2,h3,h4,h5⟩:=netS_iff.1 h
 have:=uptoOf_len (gatesL ch) (by omega) ((gatesL ch).length + 1)
 unfold shortestOf
 omega
def fewS (pts : List Pt) (ch : List Ch) : Option (List Int):=(shortestOf (gatesL ch)).find? fun S=>(cutS pts ch S false).isNone
theorem fewest_eq (hp : pts.length≤1000) (hc : ch.length≤1000) {k : Nat} (hk : 3000≤k) : ga_Fewest.f k pts ch = some (if netS pts ch = true then firstE (fewS pts ch) else ([],2)):=by
 have:=gatesL_len (ch:=ch)
 unfold ga_Fewest.f
 rw [isNet_eq hp hc (by omega)]
 simp only [Option.bind_some]
 by_cases h : netS pts ch = true
 case neg=>rw [if_neg h,if_neg h]
 obtain ⟨h1,h2,h3,h4,h5⟩:=netS_iff.1 h
 rw [if_pos h,if_pos h,gates_eq hc (by omega)]
 simp only [Option.bind_some]
 rw [if_pos (by omega),firstT_find (p:=fun S=>(cutS pts ch S false).isNone) fun S hS=>surely_eq h (by have:=(short_gates_mem hS).1;omega) (by omega)]
 rfl
theorem rFewest_go (h : netS pts ch = true) {L : List (List Int)} (hL : ∀ S ∈ L,S.length≤20) (hLl : L.length≤100000) : ∀ (rest : List (List Int)) (k i : Nat),L.drop i = rest→rest.length + 120001 < k→
 q8_Fewest.l0 k L (i : Int) pts ch = some (firstV (rest.find? fun S=>(cutS pts ch S false).isNone))
 | _,0,_,_,hk=>by omega
 | [],k + 1,i,hd,_=>by
  have : L.length≤i:=by have:=congrArg List.length hd;simp at this;omega
  unfold q8_Fewest.l0
  rw [if_neg (by omega)];rfl
 | S :: rest,k + 1,i,hd,hk=>by
  obtain ⟨hd2,hlt⟩:=drop_succ hd
  have hS : S ∈ L:=by
   have : S ∈ L.drop i:=by rw [hd];exact List.mem_cons_self
   exact List.mem_of_mem_drop this
  have ih:=rFewest_go h hL hLl rest k (i + 1) hd2 (by simp at hk;omega)
  unfold q8_Fewest.l0
  rw [if_pos (by omega),if_pos (by omega),rl_nat L i S rest hd,rSurely_eq h (hL S hS) (by simp at hk;omega),wr (by omega) (by omega),show (i : Int) + 1 = ((i + 1 : Nat) : Int) from rfl,ih,List.find?_cons]
  simp only [Option.bind_some]
  cases cutS pts ch S false<;>rfl
theorem rFewest_eq (h : netS pts ch = true) {k : Nat} (hk : 130000≤k) : q8_Fewest.f k pts ch = some (firstV (fewS pts ch)):=by
 obtain ⟨h1,h2,h3,h4,h5⟩:=netS_iff.1 h
 have:=short_gates_len h
 unfold q8_Fewest.f
 rw [rGates_eq (by omega) (by omega)]
 simp only [Option.bind_some]
 rw [rShortest_eq (by omega) (by omega)]
 simp only [Option.bind_some]
 exact rFewest_go h (fun S hS=>by have:=(short_gates_mem hS).1;omega) (by omega) _ k 0 rfl (by omega)
def clearS (pts : List Pt) (ch : List Ch) (now cl : List Int) : Bool:=if cl.any (fun c=>decide (c ∈ now)) = true then false else (cutS pts ch now false).isNone
def movesS (pts : List Pt) (ch : List Ch) (op cl : List Int) : Option (List Int):=(shortestOf (gatesL ch)).find? fun S=>clearS pts ch (movedS ch op S) cl
theorem rClear_go (h : netS pts ch = true) {now cl : List Int} (hn : now.length≤20) (hcl : cl.length≤1000) : ∀ (rest : List Int) (k i : Nat),cl.drop i = rest→rest.length + 120001 < k→
 q8_Clear.l0 k now cl (i : Int) pts ch = some (clearS pts ch now rest)
 | _,0,_,_,hk=>by omega
 | [],k + 1,i,hd,hk=>by
  have : cl.length≤i:=by have:=congrArg List.length hd;simp at this;omega
  unfold q8_Clear.l0
  rw [if_neg (by omega),rSurely_eq h hn (by simp at hk;omega)];rfl
 | x :: rest,k + 1,i,hd,hk=>by
  obtain ⟨hd2,hlt⟩:=drop_succ hd
  have ih:=rClear_go h hn hcl rest k (i + 1) hd2 (by simp at hk;omega)
  unfold q8_Clear.l0
  rw [if_pos (by omega),if_pos (by omega),getD_of_drop hd,listed_eq (by omega) x (by omega),wr (by omega) (by omega),show (i : Int) + 1 = ((i + 1 : Nat) : Int) from rfl,ih]
  simp only [Option.bind_some]
  by_cases hq : x ∈ now
  ·rw [if_pos (decide_eq_true hq)];unfold clearS;rw [if_pos (by simp [hq])]
  ·rw [if_neg (by simp [hq])];unfold clearS;simp only [List.any_cons,decide_eq_false hq,Bool.false_or]
theorem rClear_eq (h : netS pts ch = true) {now cl : List Int} (hn : now.length≤20) (hcl : cl.length≤1000) {k : Nat} (hk : 121500≤k) : q8_Clear.f k pts ch now cl = some (clearS pts ch now cl):=by
 unfold q8_Clear.f
 exact rClear_go h hn hcl cl k 0 rfl (by omega)
theorem movesq_eq (h : netS pts ch = true) {op cl S : List Int} (ho : op.length≤20) (hcl : cl.length≤1000) (hS : S.length≤20) {k : Nat} (hk : 3000≤k) : movesq.f k pts ch op cl S = some (clearS pts ch (movedS ch op S) cl):=by
 obtain ⟨h1,h2,h3,h4,h5⟩:=netS_iff.1 h
 have:=movedS_len (ch:=ch) op S
 unfold movesq.f
 rw [moved_eq (by omega) (by omega) (by omega) hk]
 simp only [Option.bind_some]
 rw [anyM_eq (p:=fun c=>decide (c ∈ movedS ch op S)) fun c _=>contains_eq (by omega) c (by omega)]
 simp only [Option.bind_some]
 unfold clearS
 split
 ·rfl
 ·exact surely_eq h (by omega) (by omega)
theorem moves_eq (hp : pts.length≤1000) (hc : ch.length≤1000) {op cl : List Int} (ho : op.length≤20) (hcl : cl.length≤20) {k : Nat} (hk : 3000≤k) : ga_Moves.f k pts ch op cl = some (if (netS pts ch && (someS ch op && someS ch cl)) = true then firstE (movesS pts ch op cl) else ([],2)):=by
 have:=gatesL_len (ch:=ch)
 unfold ga_Moves.f
 rw [isNet_eq hp hc (by omega)]
 simp only [Option.bind_some]
 by_cases h : netS pts ch = true
 case neg=>rw [if_neg h,if_neg (by simp [h])]
 obtain ⟨h1,h2,h3,h4,h5⟩:=netS_iff.1 h
 rw [if_pos h,areGates_eq hc (by omega) (by omega)]
 simp only [Option.bind_some]
 by_cases hs : someS ch op = true
 case neg=>rw [if_neg hs,if_neg (by simp [hs])]
 rw [if_pos hs,areGates_eq hc (by omega) (by omega)]
 simp only [Option.bind_some]
 by_cases ht : someS ch cl = true
 case neg=>rw [if_neg ht,if_neg (by simp [ht])]
 rw [if_pos ht,if_pos (by simp [h,hs,ht]),gates_eq hc (by omega)]
 simp only [Option.bind_some]
 rw [if_pos (by omega),firstT_find (p:=fun S=>clearS pts ch (movedS ch op S) cl) fun S hS=>movesq_eq h ho (by omega) (by have:=(short_gates_mem hS).1;omega) hk]
 rfl
theorem rMoves_go (h : netS pts ch = true) {op cl : List Int} (ho : op.length≤20) (hcl : cl.length≤1000) (hg : ∀ c ∈ op,gateAt ch c = true) {L : List (List Int)} (hL : ∀ S ∈ L,S.length≤20∧∀ c ∈ S,gateAt ch c = true) (hLl : L.length≤100000) : ∀ (rest : List (List Int)) (k i : Nat),L.drop i = rest→rest.length + 122001 < k→
 q8_Moves.l0 k op cl L (i : Int) pts ch = some (firstV (rest.find? fun S=>clearS pts ch (movedS ch op S) cl))
 | _,0,_,_,hk=>by omega
 | [],k + 1,i,hd,_=>by
  have : L.length≤i:=by have:=congrArg List.length hd;simp at this;omega
  unfold q8_Moves.l0
  rw [if_neg (by omega)];rfl
 | S :: rest,k + 1,i,hd,hk=>by
  obtain ⟨h1,h2,h3,h4,h5⟩:=netS_iff.1 h
  obtain ⟨hd2,hlt⟩:=drop_succ hd
  have hS : S ∈ L:=by
   have : S ∈ L.drop i:=by rw [hd];exact List.mem_cons_self
   exact List.mem_of_mem_drop this
  have hm:=movedS_len (ch:=ch) op S
  have hSl:=(hL S hS).1
  have ih:=rMoves_go h ho hcl hg hL hLl rest k (i + 1) hd2 (by simp at hk;omega)
  unfold q8_Moves.l0
  rw [if_pos (by omega),if_pos (by omega),rl_nat L i S rest hd,rMoved_eq (by omega) (by omega) (by omega) hg (hL S hS).2 (by simp at hk;omega)]
  simp only [Option.bind_some]
  rw [rClear_eq h (by omega) hcl (by simp at hk;omega),wr (by omega) (by omega),show (i : Int) + 1 = ((i + 1 : Nat) : Int) from rfl,ih,List.find?_cons]
  simp only [Option.bind_some]
  cases clearS pts ch (movedS ch op S) cl<;>rfl
theorem rMoves_eq (h : netS pts ch = true) {op cl : List Int} (ho : op.length≤20) (hcl : cl.length≤1000) (hs : someS ch op = true) {k : Nat} (hk : 130000≤k) : q8_Moves.f k pts ch op cl = some (firstV (movesS pts ch op cl)):=by
 obtain ⟨h1,h2,h3,h4,h5⟩:=netS_iff.1 h
 have:=short_gates_len h
 unfold q8_Moves.f
 rw [rGates_eq (by omega) (by omega)]
 simp only [Option.bind_some]
 rw [rShortest_eq (by omega) (by omega)]
 simp only [Option.bind_some]
 exact rMoves_go h ho hcl (someS_iff.1 hs).1 (fun S hS=>by have:=short_gates_mem hS;exact ⟨by omega,this.2⟩) (by omega) _ k 0 rfl (by omega)
theorem find_gates_len (h : netS pts ch = true) {P : List Int→Bool} {S : List Int} (hS : (shortestOf (gatesL ch)).find? P = some S) : S.length≤20:=by
 obtain ⟨h1,h2,h3,h4,h5⟩:=netS_iff.1 h
 have:=(short_gates_mem (List.mem_of_find?_eq_some hS)).1
 omega
theorem fewests_pure (pts : List Pt) (ch : List Ch) (op cl : List Int) {k : Nat} (hk : 140000≤k) : l8_GateFewests.f k pts ch op cl = some true:=by
 obtain ⟨k,rfl⟩ : ∃ m,k = m + 3:=⟨k - 3,by omega⟩
 unfold l8_GateFewests.f
 rw [short_eq]
 simp only [Option.bind_some]
 by_cases hs : shortB pts ch = true
 case neg=>rw [if_neg hs];simp only [l8_GateFewests.j0,known_true];rfl
 obtain ⟨hp,hc⟩:=shortB_iff.1 hs
 rw [if_pos hs]
 by_cases hl : (op.length : Int) > 10
 ·rw [if_pos hl];simp only [l8_GateFewests.j0,known_true];rfl
 rw [if_neg hl]
 by_cases hl2 : (cl.length : Int) > 10
 ·rw [decide_eq_true hl2];simp only [l8_GateFewests.j0,known_true];rfl
 rw [decide_eq_false hl2]
 simp only [l8_GateFewests.j0]
 rw [if_neg (by simp),fewest_eq (by omega) (by omega) (by omega),moves_eq (by omega) (by omega) (by omega) (by omega) (by omega),rNet_eq (by omega) (by omega) (by omega)]
 simp only [Option.bind_some]
 by_cases hn : netS pts ch = true
 case neg=>simp [hn,known_true]
 rw [rFewest_eq hn (by omega)]
 simp only [hn,if_true,Option.bind_some,Bool.true_and]
 have key : l8_GateFewests.j1 (k + 2) op cl (if (someS ch op && someS ch cl) = true then firstE (movesS pts ch op cl) else ([],2)).1 (if (someS ch op && someS ch cl) = true then firstE (movesS pts ch op cl) else ([],2)).2 false pts ch = some true:=by
  simp only [l8_GateFewests.j1]
  rw [if_neg (by simp),rSome_eq (by omega) (by omega) (by omega),rSome_eq (by omega) (by omega) (by omega)]
  simp only [Option.bind_some]
  by_cases hm : someS ch op = true
  case neg=>simp [hm,l8_GateFewests.j2,known_true]
  by_cases ht : someS ch cl = true
  case neg=>simp [hm,ht,l8_GateFewests.j2,known_true]
  simp only [hm,ht,l8_GateFewests.j2]
  rw [if_pos (by trivial),if_neg (by simp),rMoves_eq hn (by omega) (by omega) hm (by omega)]
  simp only [Option.bind_some]
  cases hS : movesS pts ch op cl with
  | none=>simp [firstV,firstE,known_true]
  | some S =>
   have:=find_gates_len hn hS
   simp only [firstV,firstE,known_true]
   simp [same8_self (show S.length≤100000 by omega) (show S.length < k by omega)]
 generalize (if (someS ch op && someS ch cl) = true then firstE (movesS pts ch op cl) else ([],2)) = mv at key ⊢
 cases hS : fewS pts ch with
 | none=>simpa [firstV,firstE] using key
 | some S =>
  have:=find_gates_len hn hS
  simp [firstV,firstE,same8_self (show S.length≤100000 by omega) (show S.length < k + 2 by omega),key]
end
end Go.Proofs.YtclkbedbocnpkaaGreatDoor.C

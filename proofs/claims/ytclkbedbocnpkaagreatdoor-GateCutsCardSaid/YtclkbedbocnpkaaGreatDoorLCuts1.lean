/- A part of the proof: the walks of the functions that it reaches. TIGHT. -/
import Derived.Test.YtclkbedbocnpkaaGreatDoorMA12
set_option linter.unusedVariables false
set_option linter.unusedSimpArgs false
namespace Go.Proofs.YtclkbedbocnpkaaGreatDoor.C
open Go.RowKit Go.Proofs.YtclkbedbocnpkaaGreatDoorW.PrintWords Go.Proofs.YtclkbedbocnpkaaGreatDoorW.PrintLast Go.Proofs.YtclkbedbocnpkaaGreatDoorW.PrintMore
set_option linter.unusedVariables false
set_option linter.unusedSimpArgs false
set_option maxHeartbeats 16000000
set_option maxRecDepth 100000
mutual
def l8_GateCuts.j0 : Nat→List Int→Bool→List (S37)→List (S65)→Option (Bool)
 | 0,_,_,_,_=>none
 | k + 1,x1,x16,x391000,x391001=>if x16 = true then ((l8_known.f).bind fun t392=>(some t392)) else ((ga_Cut.f k x391000 x391001 x1).bind fun bt393=>((q8_Net.f k x391000 x391001).bind fun t397=>(if t397 = true then ((q8_Some.f k x391000 x391001 x1).bind fun t398=>(l8_GateCuts.j1 k x1 bt393.1 bt393.2 (!t398) x391000 x391001)) else (l8_GateCuts.j1 k x1 bt393.1 bt393.2 true x391000 x391001))))
def l8_GateCuts.j1 : Nat→List Int→List Int→Int→Bool→List (S37)→List (S65)→Option (Bool)
 | 0,_,_,_,_,_,_=>none
 | k + 1,x1,x5,x6,x32,x391000,x391001=>if x32 = true then (if x6 = 2 then (if (x5.length : Int) = 0 then ((l8_known.f).bind fun t399=>(some t399)) else (some false)) else (some false)) else ((q8_Cut.f k x391000 x391001 x1 false).bind fun bt400=>(if bt400.2 = true then (if x6 = 0 then ((q8_Same.f k x5 bt400.1).bind fun t404=>(if t404 = true then ((l8_known.f).bind fun t405=>(some t405)) else (some false))) else (some false)) else (if x6 = 5 then (if (x5.length : Int) = 0 then ((l8_known.f).bind fun t406=>(some t406)) else (some false)) else (some false))))
end
def l8_GateCuts.f (k : Nat) (l0_0 : List (S37)) (l0_1 : List (S65)) (l1 : List Int) : Option (Bool):=(l8_short.f l0_0 l0_1).bind fun t391=>(if t391 = true then (l8_GateCuts.j0 k l1 (decide ((l1.length : Int) > 10)) l0_0 l0_1) else (l8_GateCuts.j0 k l1 true l0_0 l0_1))
theorem l8_GateCuts.calls (k : Nat) (A0_0 : Option Addr) (c0_0 : Nat) (l0_0 : List (S37)) (A0_1 : Option Addr) (c0_1 : Nat) (l0_1 : List (S65)) (A1 : Option Addr) (c1 : Nat) (l1 : List Int) (r : Bool) (w : World) (hr0_0 : Kd.C k37 w A0_0 l0_0.length l0_0) (hc0_0 : l0_0.length≤c0_0) (hr0_1 : Kd.C k65 w A0_1 l0_1.length l0_1) (hc0_1 : l0_1.length≤c0_1) (hr1 : Kd.C (Kd.int .i64) w A1 l1.length l1) (hc1 : l1.length≤c1) (h : l8_GateCuts.f k l0_0 l0_1 l1 = some r) :
 Calls Tryz.prog 5 #[.agg #[.slice A0_0 l0_0.length c0_0,.slice A0_1 l0_1.length c0_1],.slice A1 l1.length c1] w fun e w'=>e = .returned (.bool r)∧Below w.heap.size w w':=by
 have hu25:=Tryz.underlying25
 have HR0_0:=am hr0_0
 have HC0_0:=am hc0_0
 clear hr0_0 hc0_0
 have HR0_1:=am hr0_1
 have HC0_1:=am hc0_1
 clear hr0_1 hc0_1
 have HR1:=am hr1
 have HC1:=am hc1
 clear hr1 hc1
 have HB:=am (Below.refl w.heap.size w)
 have H : ((l8_short.f l0_0 l0_1).bind fun t391=>(if t391 = true then (l8_GateCuts.j0 k l1 (decide ((l1.length : Int) > 10)) l0_0 l0_1) else (l8_GateCuts.j0 k l1 true l0_0 l0_1))) = some r:=h
 clear h
 have HC3:=am H
 clear H
 go_enter Tryz.func5,Tryz.ntmps5
 go_upto_region 1 with (first | ((with_reducible refine ga_dst (N:=2) rfl ?_);(try (refine ga_guard (by rfl) ?_;dsimp only));refine box_event ?hg (N:=2) ?hd (cs:=#[.slice A0_0 l0_0.length c0_0,.slice A0_1 l0_1.length c0_1]) (t:=25) ?hr ?_;(case hd=>rfl);(case hg=>rfl);(case hr=>go_simp;try rfl);intro gb390 hg w4 hbox hb;have BK390:=am (hbox);have GW390:=am (ge_new (HB.out) hg);have GE390:=am (ge_new (HB.out) hg);replace HB:=am (below_step (HB.out) hb);clear hb hbox hg))
 (try simp only [Act.put,List.setIfInBounds_toArray,List.set_cons_zero,List.set_cons_succ])
 go_cut [16] (fun v16 wc=>∃ (kq : Nat) (x16_2 : Bool),v16 = .bool x16_2∧Aside0 (l8_GateCuts.j0 kq l1 x16_2 l0_0 l0_1 = some r)∧Aside0 (kq≤k)∧Aside0 (wc.heap[gb390]? = some (.cells #[(.slice A0_0 l0_0.length c0_0),(.slice A0_1 l0_1.length c0_1)] 25 (0,0)))∧Aside0 (Below w.heap.size w wc))
 case first =>
  have H:=HC3.out
  clear HC3
  replace H:=obm H
  obtain ⟨t391,A50,H⟩:=H
  replace H : (if t391 = true then (l8_GateCuts.j0 k l1 (decide ((l1.length : Int) > 10)) l0_0 l0_1) else (l8_GateCuts.j0 k l1 true l0_0 l0_1)) = some r:=H
  have A5:=am A50
  clear A50
  by_cases c6 : t391 = true
  ·subst c6
   replace H : (l8_GateCuts.j0 k l1 (decide ((l1.length : Int) > 10)) l0_0 l0_1) = some r:=by rw [if_pos rfl] at H;exact H
   replace H':=am H
   obtain ⟨hcz7_0,hcz7_1⟩:=cO2 BK390.out
   have hfz7_0:=blk_frozen BK390.out 0
   have hfz7_1:=blk_frozen BK390.out 1
   go_wp2_with (first | ((with_reducible refine ga_callee (f:=14) rfl ?_);refine goesL_ (some 10) rfl rfl Tryz.func14 (by kernel_rfl) rfl #[.agg #[.slice A0_0 l0_0.length c0_0,.slice A0_1 l0_1.length c0_1]] rfl (by (try simp only [List.map_toArray,List.map_cons,List.map_nil]);first | done | rfl | (simp only [List.length_drop,List.length_take];rfl)) ?_;(with_reducible refine (l8_short.calls _ _ l0_0 _ _ l0_1 true _ ?side1 ?side2 ?side3 ?side4 A5.out).mono ?_);(case side1=>exact kC HR0_0.out HB.out);(case side2=>exact HC0_0.out);(case side3=>exact kC HR0_1.out HB.out);(case side4=>exact HC0_1.out);rintro e w8 ⟨rfl,hb⟩;refine ⟨_,rfl,?_⟩;replace BK390:=am (blk_below (g:=gb390) (o:=.cells #[.slice A0_0 l0_0.length c0_0,.slice A0_1 l0_1.length c0_1] 25 (0,0)) (by (with_reducible repeat (first | refine blk_drewN ?_ _ | refine blk_drew ?_ | refine blk_alloc ?_ _));exact BK390.out) hb);replace HB:=am (below_step (HB.out) hb);(try clear hb);(try clear hb2);(try clear hk);(try clear hi)))
   go_meet
   case rel=>exact ⟨_,(decide ((l1.length : Int) > 10)),(by first | rfl | (simp;done) | (simp [*];done)),H',⟨by first | omega | exact Nat.le_refl _⟩,⟨by (with_reducible repeat (first | refine blk_drewN ?_ _ | refine blk_drew ?_ | refine blk_alloc ?_ _));exact BK390.out⟩,⟨HB.out⟩⟩
  ·replace c6:=Bool.eq_false_iff.mpr c6
   subst c6
   replace H : (l8_GateCuts.j0 k l1 true l0_0 l0_1) = some r:=by rw [if_neg (show ¬ (false = true) by decide)] at H;exact H
   replace H':=am H
   obtain ⟨hcz9_0,hcz9_1⟩:=cO2 BK390.out
   have hfz9_0:=blk_frozen BK390.out 0
   have hfz9_1:=blk_frozen BK390.out 1
   go_wp2_with (first | ((with_reducible refine ga_callee (f:=14) rfl ?_);refine goesL_ (some 10) rfl rfl Tryz.func14 (by kernel_rfl) rfl #[.agg #[.slice A0_0 l0_0.length c0_0,.slice A0_1 l0_1.length c0_1]] rfl (by (try simp only [List.map_toArray,List.map_cons,List.map_nil]);first | done | rfl | (simp only [List.length_drop,List.length_take];rfl)) ?_;(with_reducible refine (l8_short.calls _ _ l0_0 _ _ l0_1 false _ ?side1 ?side2 ?side3 ?side4 A5.out).mono ?_);(case side1=>exact kC HR0_0.out HB.out);(case side2=>exact HC0_0.out);(case side3=>exact kC HR0_1.out HB.out);(case side4=>exact HC0_1.out);rintro e w10 ⟨rfl,hb⟩;refine ⟨_,rfl,?_⟩;replace BK390:=am (blk_below (g:=gb390) (o:=.cells #[.slice A0_0 l0_0.length c0_0,.slice A0_1 l0_1.length c0_1] 25 (0,0)) (by (with_reducible repeat (first | refine blk_drewN ?_ _ | refine blk_drew ?_ | refine blk_alloc ?_ _));exact BK390.out) hb);replace HB:=am (below_step (HB.out) hb);(try clear hb);(try clear hb2);(try clear hk);(try clear hi)))
   go_meet
   case rel=>exact ⟨_,(true),(by first | rfl | (simp;done) | (simp [*];done)),H',⟨by first | omega | exact Nat.le_refl _⟩,⟨by (with_reducible repeat (first | refine blk_drewN ?_ _ | refine blk_drew ?_ | refine blk_alloc ?_ _));exact BK390.out⟩,⟨HB.out⟩⟩
 case rest =>
  clear HC3
  obtain ⟨kq,x16_2,rfl,HA,HJ2,BK390,HB⟩:=hcut
  cases kq with
  | zero=>exact absurd HA.out (by simp [l8_GateCuts.j0])
  | succ kj2 =>
   have H:=HA.out
   clear HA
   simp only [l8_GateCuts.j0] at H
   by_cases c11 : x16_2 = true
   ·subst c11
    replace H : ((l8_known.f).bind fun t392=>(some t392)) = some r:=by rw [if_pos rfl] at H;exact H
    replace H:=obm H
    obtain ⟨t392,A120,H⟩:=H
    replace H : (some t392) = some r:=H
    have A12:=am A120
    clear A120
    obtain rfl:=Option.some.inj H
    go_wp2_with (first | ((with_reducible refine ga_callee (f:=15) rfl ?_);refine goesL_ (some 17) rfl rfl Tryz.func15 (by kernel_rfl) rfl #[] rfl (by (try simp only [List.map_toArray,List.map_cons,List.map_nil]);first | done | rfl | (simp only [List.length_drop,List.length_take];rfl)) ?_;(with_reducible refine (l8_known.calls  t392 _ A12.out).mono ?_);rintro e w13 ⟨rfl,hb⟩;refine ⟨_,rfl,?_⟩;replace BK390:=am (blk_below (g:=gb390) (o:=.cells #[.slice A0_0 l0_0.length c0_0,.slice A0_1 l0_1.length c0_1] 25 (0,0)) (by (with_reducible repeat (first | refine blk_drewN ?_ _ | refine blk_drew ?_ | refine blk_alloc ?_ _));exact BK390.out) hb);replace HB:=am (below_step (HB.out) hb);(try clear hb);(try clear hb2);(try clear hk);(try clear hi)))
    go_ret
    exact ⟨by first | rfl | (simp [*]<;>rfl),HB.out⟩
   ·replace c11:=Bool.eq_false_iff.mpr c11
    subst c11
    replace H : ((ga_Cut.f kj2 l0_0 l0_1 l1).bind fun bt393=>((q8_Net.f kj2 l0_0 l0_1).bind fun t397=>(if t397 = true then ((q8_Some.f kj2 l0_0 l0_1 l1).bind fun t398=>(l8_GateCuts.j1 kj2 l1 bt393.1 bt393.2 (!t398) l0_0 l0_1)) else (l8_GateCuts.j1 kj2 l1 bt393.1 bt393.2 true l0_0 l0_1)))) = some r:=by rw [if_neg (show ¬ (false = true) by decide)] at H;exact H
    replace H:=obm H
    obtain ⟨⟨t393,t396⟩,A140,H⟩:=H
    replace H : ((q8_Net.f kj2 l0_0 l0_1).bind fun t397=>(if t397 = true then ((q8_Some.f kj2 l0_0 l0_1 l1).bind fun t398=>(l8_GateCuts.j1 kj2 l1 t393 t396 (!t398) l0_0 l0_1)) else (l8_GateCuts.j1 kj2 l1 t393 t396 true l0_0 l0_1))) = some r:=H
    have A14:=am A140
    clear A140
    have HC15:=am H
    clear H
    obtain ⟨hcz16_0,hcz16_1⟩:=cO2 BK390.out
    have hfz16_0:=blk_frozen BK390.out 0
    have hfz16_1:=blk_frozen BK390.out 1
    go_upto_region 4 with (first | ((with_reducible refine ga_callee (f:=23) rfl ?_);refine goesL_ (some 21) rfl rfl Tryz.func23 (by kernel_rfl) rfl #[.agg #[.slice A0_0 l0_0.length c0_0,.slice A0_1 l0_1.length c0_1],.slice A1 l1.length c1] rfl (by (try simp only [List.map_toArray,List.map_cons,List.map_nil]);first | done | rfl | (simp only [List.length_drop,List.length_take];rfl)) ?_;(with_reducible refine (ga_Cut.calls kj2 _ _ l0_0 _ _ l0_1 _ _ l1 t393 t396 _ ?side1 ?side2 ?side3 ?side4 ?side5 ?side6 A14.out).mono ?_);(case side1=>exact kC HR0_0.out HB.out);(case side2=>exact HC0_0.out);(case side3=>exact kC HR0_1.out HB.out);(case side4=>exact HC0_1.out);(case side5=>exact kC HR1.out HB.out);(case side6=>exact HC1.out);rintro e w17 ⟨v394,rfl,ho0,hb⟩;refine ⟨_,rfl,?_⟩;have HO395:=am (Kd.R_lower ho0 (below_size (HB.out)));replace BK390:=am (blk_below (g:=gb390) (o:=.cells #[.slice A0_0 l0_0.length c0_0,.slice A0_1 l0_1.length c0_1] 25 (0,0)) (by (with_reducible repeat (first | refine blk_drewN ?_ _ | refine blk_drew ?_ | refine blk_alloc ?_ _));exact BK390.out) hb);replace HB:=am (below_step (HB.out) hb);(try clear hb);(try clear hb2);(try clear hk);(try clear hi);(try clear ho0)))
    (try simp only [Act.put,List.setIfInBounds_toArray,List.set_cons_zero,List.set_cons_succ])
    go_cut [32] (fun v32 wc=>∃ (kq : Nat) (x32_14 : Bool),v32 = .bool x32_14∧Aside0 (l8_GateCuts.j1 kq l1 t393 t396 x32_14 l0_0 l0_1 = some r)∧Aside0 (kq≤kj2)∧Aside0 (Kd.R (Kd.int .i64) 3 wc w.heap.size (fun _=>True) v394 t393)∧Aside0 (wc.heap[gb390]? = some (.cells #[(.slice A0_0 l0_0.length c0_0),(.slice A0_1 l0_1.length c0_1)] 25 (0,0)))∧Aside0 (Below w.heap.size w wc))
    case first =>
     have H:=HC15.out
     clear HC15
     replace H:=obm H
     obtain ⟨t397,A180,H⟩:=H
     replace H : (if t397 = true then ((q8_Some.f kj2 l0_0 l0_1 l1).bind fun t398=>(l8_GateCuts.j1 kj2 l1 t393 t396 (!t398) l0_0 l0_1)) else (l8_GateCuts.j1 kj2 l1 t393 t396 true l0_0 l0_1)) = some r:=H
     have A18:=am A180
     clear A180
     by_cases c19 : t397 = true
     case neg =>
      replace c19:=Bool.eq_false_iff.mpr c19
      subst c19
      replace H : (l8_GateCuts.j1 kj2 l1 t393 t396 true l0_0 l0_1) = some r:=by rw [if_neg (show ¬ (false = true) by decide)] at H;exact H
      replace H':=am H
      obtain ⟨hcz25_0,hcz25_1⟩:=cO2 BK390.out
      have hfz25_0:=blk_frozen BK390.out 0
      have hfz25_1:=blk_frozen BK390.out 1
      go_wp2_with (first | ((with_reducible refine ga_callee (f:=17) rfl ?_);refine goesL_ (some 25) rfl rfl Tryz.func17 (by kernel_rfl) rfl #[.agg #[.slice A0_0 l0_0.length c0_0,.slice A0_1 l0_1.length c0_1]] rfl (by (try simp only [List.map_toArray,List.map_cons,List.map_nil]);first | done | rfl | (simp only [List.length_drop,List.length_take];rfl)) ?_;(with_reducible refine (q8_Net.calls kj2 _ _ l0_0 _ _ l0_1 false _ ?side1 ?side2 ?side3 ?side4 A18.out).mono ?_);(case side1=>exact kC HR0_0.out HB.out);(case side2=>exact HC0_0.out);(case side3=>exact kC HR0_1.out HB.out);(case side4=>exact HC0_1.out);rintro e w26 ⟨rfl,hb⟩;refine ⟨_,rfl,?_⟩;replace HO395:=am (Kd.R_below (by (with_reducible repeat (first | apply Kd.R_alloc | apply Kd.R_drewN | apply Kd.R_drew));exact HO395.out) hb);replace BK390:=am (blk_below (g:=gb390) (o:=.cells #[.slice A0_0 l0_0.length c0_0,.slice A0_1 l0_1.length c0_1] 25 (0,0)) (by (with_reducible repeat (first | refine blk_drewN ?_ _ | refine blk_drew ?_ | refine blk_alloc ?_ _));exact BK390.out) hb);replace HB:=am (below_step (HB.out) hb);(try clear hb);(try clear hb2);(try clear hk);(try clear hi)))
      go_meet
      case rel=>exact ⟨_,(true),(by first | rfl | (simp;done) | (simp [*];done)),H',⟨by have:=HJ2.out;first | omega | exact Nat.le_refl _⟩,⟨by (with_reducible repeat (first | apply Kd.R_alloc | apply Kd.R_drewN | apply Kd.R_drew));exact HO395.out⟩,⟨by (with_reducible repeat (first | refine blk_drewN ?_ _ | refine blk_drew ?_ | refine blk_alloc ?_ _));exact BK390.out⟩,⟨HB.out⟩⟩
     subst c19
     replace H : ((q8_Some.f kj2 l0_0 l0_1 l1).bind fun t398=>(l8_GateCuts.j1 kj2 l1 t393 t396 (!t398) l0_0 l0_1)) = some r:=by rw [if_pos rfl] at H;exact H
     replace H:=obm H
     obtain ⟨t398,A200,H⟩:=H
     replace H : (l8_GateCuts.j1 kj2 l1 t393 t396 (!t398) l0_0 l0_1) = some r:=H
     have A20:=am A200
     clear A200
     replace H':=am H
     obtain ⟨hcz21_0,hcz21_1⟩:=cO2 BK390.out
     have hfz21_0:=blk_frozen BK390.out 0
     have hfz21_1:=blk_frozen BK390.out 1
     go_wp2_with (first | ((with_reducible refine ga_callee (f:=17) rfl ?_);refine goesL_ (some 25) rfl rfl Tryz.func17 (by kernel_rfl) rfl #[.agg #[.slice A0_0 l0_0.length c0_0,.slice A0_1 l0_1.length c0_1]] rfl (by (try simp only [List.map_toArray,List.map_cons,List.map_nil]);first | done | rfl | (simp only [List.length_drop,List.length_take];rfl)) ?_;(with_reducible refine (q8_Net.calls kj2 _ _ l0_0 _ _ l0_1 true _ ?side1 ?side2 ?side3 ?side4 A18.out).mono ?_);(case side1=>exact kC HR0_0.out HB.out);(case side2=>exact HC0_0.out);(case side3=>exact kC HR0_1.out HB.out);(case side4=>exact HC0_1.out);rintro e w22 ⟨rfl,hb⟩;refine ⟨_,rfl,?_⟩;replace HO395:=am (Kd.R_below (by (with_reducible repeat (first | apply Kd.R_alloc | apply Kd.R_drewN | apply Kd.R_drew));exact HO395.out) hb);replace BK390:=am (blk_below (g:=gb390) (o:=.cells #[.slice A0_0 l0_0.length c0_0,.slice A0_1 l0_1.length c0_1] 25 (0,0)) (by (with_reducible repeat (first | refine blk_drewN ?_ _ | refine blk_drew ?_ | refine blk_alloc ?_ _));exact BK390.out) hb);replace HB:=am (below_step (HB.out) hb);(try clear hb);(try clear hb2);(try clear hk);(try clear hi);obtain ⟨hcz23_0,hcz23_1⟩:=cO2 BK390.out;have hfz23_0:=blk_frozen BK390.out 0;have hfz23_1:=blk_frozen BK390.out 1) | (go_at_call 18;(with_reducible refine (q8_Some.calls kj2 _ _ l0_0 _ _ l0_1 _ _ l1 t398 _ ?side1 ?side2 ?side3 ?side4 ?side5 ?side6 A20.out).mono ?_);(case side1=>exact kC HR0_0.out HB.out);(case side2=>exact HC0_0.out);(case side3=>exact kC HR0_1.out HB.out);(case side4=>exact HC0_1.out);(case side5=>exact kC HR1.out HB.out);(case side6=>exact HC1.out);rintro e w24 ⟨rfl,hb⟩;replace HO395:=am (Kd.R_below (by (with_reducible repeat (first | apply Kd.R_alloc | apply Kd.R_drewN | apply Kd.R_drew));exact HO395.out) hb);replace BK390:=am (blk_below (g:=gb390) (o:=.cells #[.slice A0_0 l0_0.length c0_0,.slice A0_1 l0_1.length c0_1] 25 (0,0)) (by (with_reducible repeat (first | refine blk_drewN ?_ _ | refine blk_drew ?_ | refine blk_alloc ?_ _));exact BK390.out) hb);replace HB:=am (below_step (HB.out) hb);(try clear hb);(try clear hb2);(try clear hk);(try clear hi)))
     go_meet
     case rel=>exact ⟨_,(!t398),(by first | rfl | (simp;done) | (simp [*];done)),H',⟨by have:=HJ2.out;first | omega | exact Nat.le_refl _⟩,⟨by (with_reducible repeat (first | apply Kd.R_alloc | apply Kd.R_drewN | apply Kd.R_drew));exact HO395.out⟩,⟨by (with_reducible repeat (first | refine blk_drewN ?_ _ | refine blk_drew ?_ | refine blk_alloc ?_ _));exact BK390.out⟩,⟨HB.out⟩⟩
    case rest =>
     clear HC15
     obtain ⟨kq,x32_14,rfl,HA,HJ14,HO_5,BK390,HB⟩:=hcut
     cases kq with
     | zero=>exact absurd HA.out (by simp [l8_GateCuts.j1])
     | succ kj14 =>
      have H:=HA.out
      clear HA
      simp only [l8_GateCuts.j1] at H
      by_cases c27 : x32_14 = true
      ·subst c27
       replace H : (if t396 = 2 then (if (t393.length : Int) = 0 then ((l8_known.f).bind fun t399=>(some t399)) else (some false)) else (some false)) = some r:=by rw [if_pos rfl] at H;exact H
       by_cases c28 : t396 = 2
       case neg =>
        rw [if_neg c28] at H
        have c28b0 : (t396 == 2) = false:=beq_eq_false_iff_ne.mpr c28
        have c28b1 : (t396 != 2) = true:=bne_iff_ne.mpr c28
        obtain rfl:=Option.some.inj H
        go_wp2
        go_ret
        exact ⟨by first | rfl | (simp [*]<;>rfl),HB.out⟩
       rw [if_pos c28] at H
       have c28b0 : (t396 == 2) = true:=beq_iff_eq.mpr c28
       have c28b1 : (t396 != 2) = false:=bne_eq_false_iff_eq.mpr c28
       clear c28
       by_cases c29 : (t393.length : Int) = 0
       case neg =>
        rw [if_neg c29] at H
        have c29b0 : ((t393.length : Int) == 0) = false:=beq_eq_false_iff_ne.mpr c29
        have c29b1 : ((t393.length : Int) != 0) = true:=bne_iff_ne.mpr c29
        have c29b2 : ¬ (t393 = []):=fun h_=>c29 (by rw [h_];rfl)
        obtain rfl:=Option.some.inj H
        obtain ⟨Ao33,co33,eo33⟩:=Kd.R_slice HO_5.out
        subst eo33
        go_wp2
        go_ret
        exact ⟨by first | rfl | (simp [*]<;>rfl),HB.out⟩
       rw [if_pos c29] at H
       have c29b0 : ((t393.length : Int) == 0) = true:=beq_iff_eq.mpr c29
       have c29b1 : ((t393.length : Int) != 0) = false:=bne_eq_false_iff_eq.mpr c29
       clear c29
       replace H:=obm H
       obtain ⟨t399,A300,H⟩:=H
       replace H : (some t399) = some r:=H
       have A30:=am A300
       clear A300
       obtain rfl:=Option.some.inj H
       obtain ⟨Ao31,co31,eo31⟩:=Kd.R_slice HO_5.out
       subst eo31
       go_wp2_with (first | (go_at_call 15;(with_reducible refine (l8_known.calls  t399 _ A30.out).mono ?_);rintro e w32 ⟨rfl,hb⟩;replace HO_5:=am (Kd.R_below (by (with_reducible repeat (first | apply Kd.R_alloc | apply Kd.R_drewN | apply Kd.R_drew));exact HO_5.out) hb);replace BK390:=am (blk_below (g:=gb390) (o:=.cells #[.slice A0_0 l0_0.length c0_0,.slice A0_1 l0_1.length c0_1] 25 (0,0)) (by (with_reducible repeat (first | refine blk_drewN ?_ _ | refine blk_drew ?_ | refine blk_alloc ?_ _));exact BK390.out) hb);replace HB:=am (below_step (HB.out) hb);(try clear hb);(try clear hb2);(try clear hk);(try clear hi)))
       go_ret
       exact ⟨by first | rfl | (simp [*]<;>rfl),HB.out⟩
      ·replace c27:=Bool.eq_false_iff.mpr c27
       subst c27
       replace H : ((q8_Cut.f kj14 l0_0 l0_1 l1 false).bind fun bt400=>(if bt400.2 = true then (if t396 = 0 then ((q8_Same.f kj14 t393 bt400.1).bind fun t404=>(if t404 = true then ((l8_known.f).bind fun t405=>(some t405)) else (some false))) else (some false)) else (if t396 = 5 then (if (t393.length : Int) = 0 then ((l8_known.f).bind fun t406=>(some t406)) else (some false)) else (some false)))) = some r:=by rw [if_neg (show ¬ (false = true) by decide)] at H;exact H
       replace H:=obm H
       obtain ⟨⟨t400,t403⟩,A340,H⟩:=H
       replace H : (if t403 = true then (if t396 = 0 then ((q8_Same.f kj14 t393 t400).bind fun t404=>(if t404 = true then ((l8_known.f).bind fun t405=>(some t405)) else (some false))) else (some false)) else (if t396 = 5 then (if (t393.length : Int) = 0 then ((l8_known.f).bind fun t406=>(some t406)) else (some false)) else (some false))) = some r:=H
       have A34:=am A340
       clear A340
       by_cases c35 : t403 = true
       ·subst c35
        replace H : (if t396 = 0 then ((q8_Same.f kj14 t393 t400).bind fun t404=>(if t404 = true then ((l8_known.f).bind fun t405=>(some t405)) else (some false))) else (some false)) = some r:=by rw [if_pos rfl] at H;exact H
        by_cases c36 : t396 = 0
        case neg =>
         rw [if_neg c36] at H
         have c36b0 : (t396 == 0) = false:=beq_eq_false_iff_ne.mpr c36
         have c36b1 : (t396 != 0) = true:=bne_iff_ne.mpr c36
         obtain rfl:=Option.some.inj H
         obtain ⟨hcz49_0,hcz49_1⟩:=cO2 BK390.out
         have hfz49_0:=blk_frozen BK390.out 0
         have hfz49_1:=blk_frozen BK390.out 1
         go_wp2_with (first | ((with_reducible refine ga_callee (f:=24) rfl ?_);refine goesL_ (some 46) rfl rfl Tryz.func24 (by kernel_rfl) rfl #[.agg #[.slice A0_0 l0_0.length c0_0,.slice A0_1 l0_1.length c0_1],.slice A1 l1.length c1,.bool false] rfl (by (try simp only [List.map_toArray,List.map_cons,List.map_nil]);first | done | rfl | (simp only [List.length_drop,List.length_take];rfl)) ?_;(with_reducible refine (q8_Cut.calls kj14 _ _ l0_0 _ _ l0_1 _ _ l1 false t400 true _ ?side1 ?side2 ?side3 ?side4 ?side5 ?side6 A34.out).mono ?_);(case side1=>exact kC HR0_0.out HB.out);(case side2=>exact HC0_0.out);(case side3=>exact kC HR0_1.out HB.out);(case side4=>exact HC0_1.out);(case side5=>exact kC HR1.out HB.out);(case side6=>exact HC1.out);rintro e w50 ⟨v401,rfl,ho0,hb⟩;refine ⟨_,rfl,?_⟩;have HO402:=am (Kd.V_lower (Kd.V_mono (ok':=fun k_=>some k_ ≠ (v394 : Value).ownBlock∧k_ ≠ gb390) ho0 (fun k_ hk_=>⟨(Kd.fresh' (Kd.R_lt (by (with_reducible repeat (first | apply Kd.R_alloc | apply Kd.R_drewN | apply Kd.R_drew));exact HO_5.out)) k_ hk_),(Kd.freshB (g:=gb390) (o:=.cells #[.slice A0_0 l0_0.length c0_0,.slice A0_1 l0_1.length c0_1] 25 (0,0)) (by (with_reducible repeat (first | refine blk_drewN ?_ _ | refine blk_drew ?_ | refine blk_alloc ?_ _));exact BK390.out) k_ hk_)⟩)) (below_size (HB.out)));replace HO_5:=am (Kd.R_below (by (with_reducible repeat (first | apply Kd.R_alloc | apply Kd.R_drewN | apply Kd.R_drew));exact HO_5.out) hb);replace BK390:=am (blk_below (g:=gb390) (o:=.cells #[.slice A0_0 l0_0.length c0_0,.slice A0_1 l0_1.length c0_1] 25 (0,0)) (by (with_reducible repeat (first | refine blk_drewN ?_ _ | refine blk_drew ?_ | refine blk_alloc ?_ _));exact BK390.out) hb);replace HB:=am (below_step (HB.out) hb);(try clear hb);(try clear hb2);(try clear hk);(try clear hi);(try clear ho0)))
         go_ret
         exact ⟨by first | rfl | (simp [*]<;>rfl),HB.out⟩
        rw [if_pos c36] at H
        have c36b0 : (t396 == 0) = true:=beq_iff_eq.mpr c36
        have c36b1 : (t396 != 0) = false:=bne_eq_false_iff_eq.mpr c36
        clear c36
        replace H:=obm H
        obtain ⟨t404,A370,H⟩:=H
        replace H : (if t404 = true then ((l8_known.f).bind fun t405=>(some t405)) else (some false)) = some r:=H
        have A37:=am A370
        clear A370
        by_cases c38 : t404 = true
        case neg =>
         replace c38:=Bool.eq_false_iff.mpr c38
         subst c38
         replace H : (some false) = some r:=by rw [if_neg (show ¬ (false = true) by decide)] at H;exact H
         obtain rfl:=Option.some.inj H
         obtain ⟨hcz45_0,hcz45_1⟩:=cO2 BK390.out
         have hfz45_0:=blk_frozen BK390.out 0
         have hfz45_1:=blk_frozen BK390.out 1
         go_wp2_with (first | ((with_reducible refine ga_callee (f:=24) rfl ?_);refine goesL_ (some 46) rfl rfl Tryz.func24 (by kernel_rfl) rfl #[.agg #[.slice A0_0 l0_0.length c0_0,.slice A0_1 l0_1.length c0_1],.slice A1 l1.length c1,.bool false] rfl (by (try simp only [List.map_toArray,List.map_cons,List.map_nil]);first | done | rfl | (simp only [List.length_drop,List.length_take];rfl)) ?_;(with_reducible refine (q8_Cut.calls kj14 _ _ l0_0 _ _ l0_1 _ _ l1 false t400 true _ ?side1 ?side2 ?side3 ?side4 ?side5 ?side6 A34.out).mono ?_);(case side1=>exact kC HR0_0.out HB.out);(case side2=>exact HC0_0.out);(case side3=>exact kC HR0_1.out HB.out);(case side4=>exact HC0_1.out);(case side5=>exact kC HR1.out HB.out);(case side6=>exact HC1.out);rintro e w46 ⟨v401,rfl,ho0,hb⟩;refine ⟨_,rfl,?_⟩;have HO402:=am (Kd.V_lower (Kd.V_mono (ok':=fun k_=>some k_ ≠ (v394 : Value).ownBlock∧k_ ≠ gb390) ho0 (fun k_ hk_=>⟨(Kd.fresh' (Kd.R_lt (by (with_reducible repeat (first | apply Kd.R_alloc | apply Kd.R_drewN | apply Kd.R_drew));exact HO_5.out)) k_ hk_),(Kd.freshB (g:=gb390) (o:=.cells #[.slice A0_0 l0_0.length c0_0,.slice A0_1 l0_1.length c0_1] 25 (0,0)) (by (with_reducible repeat (first | refine blk_drewN ?_ _ | refine blk_drew ?_ | refine blk_alloc ?_ _));exact BK390.out) k_ hk_)⟩)) (below_size (HB.out)));replace HO_5:=am (Kd.R_below (by (with_reducible repeat (first | apply Kd.R_alloc | apply Kd.R_drewN | apply Kd.R_drew));exact HO_5.out) hb);replace BK390:=am (blk_below (g:=gb390) (o:=.cells #[.slice A0_0 l0_0.length c0_0,.slice A0_1 l0_1.length c0_1] 25 (0,0)) (by (with_reducible repeat (first | refine blk_drewN ?_ _ | refine blk_drew ?_ | refine blk_alloc ?_ _));exact BK390.out) hb);replace HB:=am (below_step (HB.out) hb);(try clear hb);(try clear hb2);(try clear hk);(try clear hi);(try clear ho0);obtain ⟨Ao47,co47,eo47⟩:=Kd.R_slice HO_5.out;subst eo47;obtain ⟨Ao48,co48,eo48⟩:=Kd.V_slice HO402.out;subst eo48) | (go_at_call 25;(with_reducible refine (q8_Same.calls kj14 _ _ t393 _ _ t400 false _ ?side1 ?side2 ?side3 ?side4 A37.out).mono ?_);(case side1=>repeat (first | exact (Kd.R_reads' HO_5.out).2.2 | (with_reducible refine Kd.C_alloc ?_ _) | (with_reducible refine Kd.C_drewN ?_ _) | (with_reducible refine Kd.C_drew ?_)));(case side2=>exact (Kd.R_reads' HO_5.out).2.1);(case side3=>repeat (first | exact (Kd.V_reads' HO402.out).2.2 | (with_reducible refine Kd.C_alloc ?_ _) | (with_reducible refine Kd.C_drewN ?_ _) | (with_reducible refine Kd.C_drew ?_)));(case side4=>exact (Kd.V_reads' HO402.out).2.1);rintro e w' ⟨rfl,⟨nd,rfl⟩⟩))
         go_ret
         exact ⟨by first | rfl | (simp [*]<;>rfl),pw_below_drewN HB.out _⟩
        subst c38
        replace H : ((l8_known.f).bind fun t405=>(some t405)) = some r:=by rw [if_pos rfl] at H;exact H
        replace H:=obm H
        obtain ⟨t405,A390,H⟩:=H
        replace H : (some t405) = some r:=H
        have A39:=am A390
        clear A390
        obtain rfl:=Option.some.inj H
        obtain ⟨hcz40_0,hcz40_1⟩:=cO2 BK390.out
        have hfz40_0:=blk_frozen BK390.out 0
        have hfz40_1:=blk_frozen BK390.out 1
        go_wp2_with (first | ((with_reducible refine ga_callee (f:=24) rfl ?_);refine goesL_ (some 46) rfl rfl Tryz.func24 (by kernel_rfl) rfl #[.agg #[.slice A0_0 l0_0.length c0_0,.slice A0_1 l0_1.length c0_1],.slice A1 l1.length c1,.bool false] rfl (by (try simp only [List.map_toArray,List.map_cons,List.map_nil]);first | done | rfl | (simp only [List.length_drop,List.length_take];rfl)) ?_;(with_reducible refine (q8_Cut.calls kj14 _ _ l0_0 _ _ l0_1 _ _ l1 false t400 true _ ?side1 ?side2 ?side3 ?side4 ?side5 ?side6 A34.out).mono ?_);(case side1=>exact kC HR0_0.out HB.out);(case side2=>exact HC0_0.out);(case side3=>exact kC HR0_1.out HB.out);(case side4=>exact HC0_1.out);(case side5=>exact kC HR1.out HB.out);(case side6=>exact HC1.out);rintro e w41 ⟨v401,rfl,ho0,hb⟩;refine ⟨_,rfl,?_⟩;have HO402:=am (Kd.V_lower (Kd.V_mono (ok':=fun k_=>some k_ ≠ (v394 : Value).ownBlock∧k_ ≠ gb390) ho0 (fun k_ hk_=>⟨(Kd.fresh' (Kd.R_lt (by (with_reducible repeat (first | apply Kd.R_alloc | apply Kd.R_drewN | apply Kd.R_drew));exact HO_5.out)) k_ hk_),(Kd.freshB (g:=gb390) (o:=.cells #[.slice A0_0 l0_0.length c0_0,.slice A0_1 l0_1.length c0_1] 25 (0,0)) (by (with_reducible repeat (first | refine blk_drewN ?_ _ | refine blk_drew ?_ | refine blk_alloc ?_ _));exact BK390.out) k_ hk_)⟩)) (below_size (HB.out)));replace HO_5:=am (Kd.R_below (by (with_reducible repeat (first | apply Kd.R_alloc | apply Kd.R_drewN | apply Kd.R_drew));exact HO_5.out) hb);replace BK390:=am (blk_below (g:=gb390) (o:=.cells #[.slice A0_0 l0_0.length c0_0,.slice A0_1 l0_1.length c0_1] 25 (0,0)) (by (with_reducible repeat (first | refine blk_drewN ?_ _ | refine blk_drew ?_ | refine blk_alloc ?_ _));exact BK390.out) hb);replace HB:=am (below_step (HB.out) hb);(try clear hb);(try clear hb2);(try clear hk);(try clear hi);(try clear ho0);obtain ⟨Ao42,co42,eo42⟩:=Kd.R_slice HO_5.out;subst eo42;obtain ⟨Ao43,co43,eo43⟩:=Kd.V_slice HO402.out;subst eo43) | (go_at_call 25;(with_reducible refine (q8_Same.calls kj14 _ _ t393 _ _ t400 true _ ?side1 ?side2 ?side3 ?side4 A37.out).mono ?_);(case side1=>repeat (first | exact (Kd.R_reads' HO_5.out).2.2 | (with_reducible refine Kd.C_alloc ?_ _) | (with_reducible refine Kd.C_drewN ?_ _) | (with_reducible refine Kd.C_drew ?_)));(case side2=>exact (Kd.R_reads' HO_5.out).2.1);(case side3=>repeat (first | exact (Kd.V_reads' HO402.out).2.2 | (with_reducible refine Kd.C_alloc ?_ _) | (with_reducible refine Kd.C_drewN ?_ _) | (with_reducible refine Kd.C_drew ?_)));(case side4=>exact (Kd.V_reads' HO402.out).2.1);rintro e w' ⟨rfl,⟨nd,rfl⟩⟩) | (go_at_call 15;(with_reducible refine (l8_known.calls  t405 _ A39.out).mono ?_);rintro e w44 ⟨rfl,hb⟩;replace HO_5:=am (Kd.R_below (by (with_reducible repeat (first | apply Kd.R_alloc | apply Kd.R_drewN | apply Kd.R_drew));exact HO_5.out) hb);replace HO402:=am (Kd.V_below (by (with_reducible repeat (first | apply Kd.V_alloc | apply Kd.V_drewN | apply Kd.V_drew));exact HO402.out) hb);replace BK390:=am (blk_below (g:=gb390) (o:=.cells #[.slice A0_0 l0_0.length c0_0,.slice A0_1 l0_1.length c0_1] 25 (0,0)) (by (with_reducible repeat (first | refine blk_drewN ?_ _ | refine blk_drew ?_ | refine blk_alloc ?_ _));exact BK390.out) hb);replace HB:=am (below_step (pw_below_drewN HB.out _) hb);(try clear hb);(try clear hb2);(try clear hk);(try clear hi)))
        go_ret
        exact ⟨by first | rfl | (simp [*]<;>rfl),HB.out⟩
       ·replace c35:=Bool.eq_false_iff.mpr c35
        subst c35
        replace H : (if t396 = 5 then (if (t393.length : Int) = 0 then ((l8_known.f).bind fun t406=>(some t406)) else (some false)) else (some false)) = some r:=by rw [if_neg (show ¬ (false = true) by decide)] at H;exact H
        by_cases c51 : t396 = 5
        case neg =>
         rw [if_neg c51] at H
         have c51b0 : (t396 == 5) = false:=beq_eq_false_iff_ne.mpr c51
         have c51b1 : (t396 != 5) = true:=bne_iff_ne.mpr c51
         obtain rfl:=Option.some.inj H
         obtain ⟨hcz61_0,hcz61_1⟩:=cO2 BK390.out
         have hfz61_0:=blk_frozen BK390.out 0
         have hfz61_1:=blk_frozen BK390.out 1
         go_wp2_with (first | ((with_reducible refine ga_callee (f:=24) rfl ?_);refine goesL_ (some 46) rfl rfl Tryz.func24 (by kernel_rfl) rfl #[.agg #[.slice A0_0 l0_0.length c0_0,.slice A0_1 l0_1.length c0_1],.slice A1 l1.length c1,.bool false] rfl (by (try simp only [List.map_toArray,List.map_cons,List.map_nil]);first | done | rfl | (simp only [List.length_drop,List.length_take];rfl)) ?_;(with_reducible refine (q8_Cut.calls kj14 _ _ l0_0 _ _ l0_1 _ _ l1 false t400 false _ ?side1 ?side2 ?side3 ?side4 ?side5 ?side6 A34.out).mono ?_);(case side1=>exact kC HR0_0.out HB.out);(case side2=>exact HC0_0.out);(case side3=>exact kC HR0_1.out HB.out);(case side4=>exact HC0_1.out);(case side5=>exact kC HR1.out HB.out);(case side6=>exact HC1.out);rintro e w62 ⟨v401,rfl,ho0,hb⟩;refine ⟨_,rfl,?_⟩;have HO402:=am (Kd.V_lower (Kd.V_mono (ok':=fun k_=>some k_ ≠ (v394 : Value).ownBlock∧k_ ≠ gb390) ho0 (fun k_ hk_=>⟨(Kd.fresh' (Kd.R_lt (by (with_reducible repeat (first | apply Kd.R_alloc | apply Kd.R_drewN | apply Kd.R_drew));exact HO_5.out)) k_ hk_),(Kd.freshB (g:=gb390) (o:=.cells #[.slice A0_0 l0_0.length c0_0,.slice A0_1 l0_1.length c0_1] 25 (0,0)) (by (with_reducible repeat (first | refine blk_drewN ?_ _ | refine blk_drew ?_ | refine blk_alloc ?_ _));exact BK390.out) k_ hk_)⟩)) (below_size (HB.out)));replace HO_5:=am (Kd.R_below (by (with_reducible repeat (first | apply Kd.R_alloc | apply Kd.R_drewN | apply Kd.R_drew));exact HO_5.out) hb);replace BK390:=am (blk_below (g:=gb390) (o:=.cells #[.slice A0_0 l0_0.length c0_0,.slice A0_1 l0_1.length c0_1] 25 (0,0)) (by (with_reducible repeat (first | refine blk_drewN ?_ _ | refine blk_drew ?_ | refine blk_alloc ?_ _));exact BK390.out) hb);replace HB:=am (below_step (HB.out) hb);(try clear hb);(try clear hb2);(try clear hk);(try clear hi);(try clear ho0)))
         go_ret
         exact ⟨by first | rfl | (simp [*]<;>rfl),HB.out⟩
        rw [if_pos c51] at H
        have c51b0 : (t396 == 5) = true:=beq_iff_eq.mpr c51
        have c51b1 : (t396 != 5) = false:=bne_eq_false_iff_eq.mpr c51
        clear c51
        by_cases c52 : (t393.length : Int) = 0
        case neg =>
         rw [if_neg c52] at H
         have c52b0 : ((t393.length : Int) == 0) = false:=beq_eq_false_iff_ne.mpr c52
         have c52b1 : ((t393.length : Int) != 0) = true:=bne_iff_ne.mpr c52
         have c52b2 : ¬ (t393 = []):=fun h_=>c52 (by rw [h_];rfl)
         obtain rfl:=Option.some.inj H
         obtain ⟨hcz58_0,hcz58_1⟩:=cO2 BK390.out
         have hfz58_0:=blk_frozen BK390.out 0
         have hfz58_1:=blk_frozen BK390.out 1
         go_wp2_with (first | ((with_reducible refine ga_callee (f:=24) rfl ?_);refine goesL_ (some 46) rfl rfl Tryz.func24 (by kernel_rfl) rfl #[.agg #[.slice A0_0 l0_0.length c0_0,.slice A0_1 l0_1.length c0_1],.slice A1 l1.length c1,.bool false] rfl (by (try simp only [List.map_toArray,List.map_cons,List.map_nil]);first | done | rfl | (simp only [List.length_drop,List.length_take];rfl)) ?_;(with_reducible refine (q8_Cut.calls kj14 _ _ l0_0 _ _ l0_1 _ _ l1 false t400 false _ ?side1 ?side2 ?side3 ?side4 ?side5 ?side6 A34.out).mono ?_);(case side1=>exact kC HR0_0.out HB.out);(case side2=>exact HC0_0.out);(case side3=>exact kC HR0_1.out HB.out);(case side4=>exact HC0_1.out);(case side5=>exact kC HR1.out HB.out);(case side6=>exact HC1.out);rintro e w59 ⟨v401,rfl,ho0,hb⟩;refine ⟨_,rfl,?_⟩;have HO402:=am (Kd.V_lower (Kd.V_mono (ok':=fun k_=>some k_ ≠ (v394 : Value).ownBlock∧k_ ≠ gb390) ho0 (fun k_ hk_=>⟨(Kd.fresh' (Kd.R_lt (by (with_reducible repeat (first | apply Kd.R_alloc | apply Kd.R_drewN | apply Kd.R_drew));exact HO_5.out)) k_ hk_),(Kd.freshB (g:=gb390) (o:=.cells #[.slice A0_0 l0_0.length c0_0,.slice A0_1 l0_1.length c0_1] 25 (0,0)) (by (with_reducible repeat (first | refine blk_drewN ?_ _ | refine blk_drew ?_ | refine blk_alloc ?_ _));exact BK390.out) k_ hk_)⟩)) (below_size (HB.out)));replace HO_5:=am (Kd.R_below (by (with_reducible repeat (first | apply Kd.R_alloc | apply Kd.R_drewN | apply Kd.R_drew));exact HO_5.out) hb);replace BK390:=am (blk_below (g:=gb390) (o:=.cells #[.slice A0_0 l0_0.length c0_0,.slice A0_1 l0_1.length c0_1] 25 (0,0)) (by (with_reducible repeat (first | refine blk_drewN ?_ _ | refine blk_drew ?_ | refine blk_alloc ?_ _));exact BK390.out) hb);replace HB:=am (below_step (HB.out) hb);(try clear hb);(try clear hb2);(try clear hk);(try clear hi);(try clear ho0);obtain ⟨Ao60,co60,eo60⟩:=Kd.R_slice HO_5.out;subst eo60))
         go_ret
         exact ⟨by first | rfl | (simp [*]<;>rfl),HB.out⟩
        rw [if_pos c52] at H
        have c52b0 : ((t393.length : Int) == 0) = true:=beq_iff_eq.mpr c52
        have c52b1 : ((t393.length : Int) != 0) = false:=bne_eq_false_iff_eq.mpr c52
        clear c52
        replace H:=obm H
        obtain ⟨t406,A530,H⟩:=H
        replace H : (some t406) = some r:=H
        have A53:=am A530
        clear A530
        obtain rfl:=Option.some.inj H
        obtain ⟨hcz54_0,hcz54_1⟩:=cO2 BK390.out
        have hfz54_0:=blk_frozen BK390.out 0
        have hfz54_1:=blk_frozen BK390.out 1
        go_wp2_with (first | ((with_reducible refine ga_callee (f:=24) rfl ?_);refine goesL_ (some 46) rfl rfl Tryz.func24 (by kernel_rfl) rfl #[.agg #[.slice A0_0 l0_0.length c0_0,.slice A0_1 l0_1.length c0_1],.slice A1 l1.length c1,.bool false] rfl (by (try simp only [List.map_toArray,List.map_cons,List.map_nil]);first | done | rfl | (simp only [List.length_drop,List.length_take];rfl)) ?_;(with_reducible refine (q8_Cut.calls kj14 _ _ l0_0 _ _ l0_1 _ _ l1 false t400 false _ ?side1 ?side2 ?side3 ?side4 ?side5 ?side6 A34.out).mono ?_);(case side1=>exact kC HR0_0.out HB.out);(case side2=>exact HC0_0.out);(case side3=>exact kC HR0_1.out HB.out);(case side4=>exact HC0_1.out);(case side5=>exact kC HR1.out HB.out);(case side6=>exact HC1.out);rintro e w55 ⟨v401,rfl,ho0,hb⟩;refine ⟨_,rfl,?_⟩;have HO402:=am (Kd.V_lower (Kd.V_mono (ok':=fun k_=>some k_ ≠ (v394 : Value).ownBlock∧k_ ≠ gb390) ho0 (fun k_ hk_=>⟨(Kd.fresh' (Kd.R_lt (by (with_reducible repeat (first | apply Kd.R_alloc | apply Kd.R_drewN | apply Kd.R_drew));exact HO_5.out)) k_ hk_),(Kd.freshB (g:=gb390) (o:=.cells #[.slice A0_0 l0_0.length c0_0,.slice A0_1 l0_1.length c0_1] 25 (0,0)) (by (with_reducible repeat (first | refine blk_drewN ?_ _ | refine blk_drew ?_ | refine blk_alloc ?_ _));exact BK390.out) k_ hk_)⟩)) (below_size (HB.out)));replace HO_5:=am (Kd.R_below (by (with_reducible repeat (first | apply Kd.R_alloc | apply Kd.R_drewN | apply Kd.R_drew));exact HO_5.out) hb);replace BK390:=am (blk_below (g:=gb390) (o:=.cells #[.slice A0_0 l0_0.length c0_0,.slice A0_1 l0_1.length c0_1] 25 (0,0)) (by (with_reducible repeat (first | refine blk_drewN ?_ _ | refine blk_drew ?_ | refine blk_alloc ?_ _));exact BK390.out) hb);replace HB:=am (below_step (HB.out) hb);(try clear hb);(try clear hb2);(try clear hk);(try clear hi);(try clear ho0);obtain ⟨Ao56,co56,eo56⟩:=Kd.R_slice HO_5.out;subst eo56) | (go_at_call 15;(with_reducible refine (l8_known.calls  t406 _ A53.out).mono ?_);rintro e w57 ⟨rfl,hb⟩;replace HO_5:=am (Kd.R_below (by (with_reducible repeat (first | apply Kd.R_alloc | apply Kd.R_drewN | apply Kd.R_drew));exact HO_5.out) hb);replace HO402:=am (Kd.V_below (by (with_reducible repeat (first | apply Kd.V_alloc | apply Kd.V_drewN | apply Kd.V_drew));exact HO402.out) hb);replace BK390:=am (blk_below (g:=gb390) (o:=.cells #[.slice A0_0 l0_0.length c0_0,.slice A0_1 l0_1.length c0_1] 25 (0,0)) (by (with_reducible repeat (first | refine blk_drewN ?_ _ | refine blk_drew ?_ | refine blk_alloc ?_ _));exact BK390.out) hb);replace HB:=am (below_step (HB.out) hb);(try clear hb);(try clear hb2);(try clear hk);(try clear hi)))
        go_ret
        exact ⟨by first | rfl | (simp [*]<;>rfl),HB.out⟩
end Go.Proofs.YtclkbedbocnpkaaGreatDoor.C
namespace Go.Proofs.YtclkbedbocnpkaaGreatDoor.C
open Go Go.RowKit Go.Proofs.YtclkbedbocnpkaaGreatDoorW.PrintWords Go.Proofs.YtclkbedbocnpkaaGreatDoorW.PrintLast Go.Proofs.YtclkbedbocnpkaaGreatDoorW.PrintMore
set_option linter.unusedVariables false
set_option linter.unusedSimpArgs false
set_option maxHeartbeats 16000000
set_option maxRecDepth 100000
theorem cuts_pure (pts : List Pt) (ch : List Ch) (op : List Int) {k : Nat} (hk : 130000≤k) : l8_GateCuts.f k pts ch op = some true:=by
 obtain ⟨k,rfl⟩ : ∃ m,k = m + 2:=⟨k - 2,by omega⟩
 unfold l8_GateCuts.f
 rw [short_eq]
 simp only [Option.bind_some]
 by_cases hs : shortB pts ch = true
 case neg=>rw [if_neg hs];simp only [l8_GateCuts.j0,known_true];rfl
 obtain ⟨hp,hc⟩:=shortB_iff.1 hs
 rw [if_pos hs]
 by_cases hl : (op.length : Int) > 10
 ·rw [decide_eq_true hl];simp only [l8_GateCuts.j0,known_true];rfl
 rw [decide_eq_false hl]
 simp only [l8_GateCuts.j0]
 rw [if_neg (by simp),gCut_eq (by omega) (by omega) (by omega) (by omega),rNet_eq (by omega) (by omega) (by omega),rSome_eq (by omega) (by omega) (by omega)]
 simp only [Option.bind_some]
 by_cases hn : netS pts ch = true
 case neg=>rw [if_neg hn,if_neg (by unfold openS;simp [hn])];simp [l8_GateCuts.j1,known_true]
 rw [if_pos hn]
 by_cases hm : someS ch op = true
 case neg=>rw [if_neg (by unfold openS;simp [hm])];simp [l8_GateCuts.j1,known_true,hm]
 rw [if_pos (by unfold openS;simp [hn,hm])]
 simp only [l8_GateCuts.j1,hm]
 rw [if_neg (by simp),rCut_eq hn (by omega) false (by omega)]
 simp only [Option.bind_some]
 cases hS : cutS pts ch op false with
 | none=>simp [firstV,known_true]
 | some S =>
  have:=(cutS_ok hn hS).1
  simp only [firstV,known_true]
  rw [same8_self (by omega) (by omega)]
  simp
end Go.Proofs.YtclkbedbocnpkaaGreatDoor.C

/- A part of the proof: the walks of the functions that it reaches. TIGHT. -/
import Derived.Test.YtclkbedbocnpkaaGreatDoorMA12
set_option linter.unusedVariables false
set_option linter.unusedSimpArgs false
namespace Go.Proofs.YtclkbedbocnpkaaGreatDoor.C
open Go.RowKit Go.Proofs.YtclkbedbocnpkaaGreatDoorW.PrintWords Go.Proofs.YtclkbedbocnpkaaGreatDoorW.PrintLast Go.Proofs.YtclkbedbocnpkaaGreatDoorW.PrintMore
set_option linter.unusedVariables false
set_option linter.unusedSimpArgs false
set_option maxHeartbeats 16000000
set_option maxRecDepth 100000
mutual
def l8_GateFeds.j0 : Nat→List Int→Bool→List (S37)→List (S65)→Option (Bool)
 | 0,_,_,_,_=>none
 | k + 1,x1,x16,x719000,x719001=>if x16 = true then ((l8_known.f).bind fun t720=>(some t720)) else ((ga_Check.f k x719000 x719001).bind fun t721=>((ga_Fed.f k x719000 x719001 x1).bind fun bt722=>((q8_Net.f k x719000 x719001).bind fun t724=>(if t724 = true then (if t721 = 0 then (l8_GateFeds.j1 k x1 bt722.1 bt722.2 false x719000 x719001) else (l8_GateFeds.j1 k x1 bt722.1 bt722.2 true x719000 x719001)) else (l8_GateFeds.j1 k x1 bt722.1 bt722.2 (t721 != 2) x719000 x719001)))))
def l8_GateFeds.j1 : Nat→List Int→Int→Int→Bool→List (S37)→List (S65)→Option (Bool)
 | 0,_,_,_,_,_,_=>none
 | k + 1,x1,x6,x7,x40,x719000,x719001=>if x40 = true then (some false) else ((q8_Net.f k x719000 x719001).bind fun t725=>(if t725 = true then ((q8_Some.f k x719000 x719001 x1).bind fun t726=>(l8_GateFeds.j2 k x1 x6 x7 (!t726) x719000 x719001)) else (l8_GateFeds.j2 k x1 x6 x7 true x719000 x719001)))
def l8_GateFeds.j2 : Nat→List Int→Int→Int→Bool→List (S37)→List (S65)→Option (Bool)
 | 0,_,_,_,_,_,_=>none
 | k + 1,x1,x6,x7,x49,x719000,x719001=>if x49 = true then (if x7 = 2 then (if x6 = 0 then ((l8_known.f).bind fun t727=>(some t727)) else (some false)) else (some false)) else (if x7 = 0 then ((q8_Fed.f k x719000 x719001 x1).bind fun t728=>(if x6 = t728 then ((l8_known.f).bind fun t729=>(some t729)) else (some false))) else (some false))
end
def l8_GateFeds.f (k : Nat) (l0_0 : List (S37)) (l0_1 : List (S65)) (l1 : List Int) : Option (Bool):=(l8_short.f l0_0 l0_1).bind fun t719=>(if t719 = true then (l8_GateFeds.j0 k l1 (decide ((l1.length : Int) > 10)) l0_0 l0_1) else (l8_GateFeds.j0 k l1 true l0_0 l0_1))
theorem l8_GateFeds.calls (k : Nat) (A0_0 : Option Addr) (c0_0 : Nat) (l0_0 : List (S37)) (A0_1 : Option Addr) (c0_1 : Nat) (l0_1 : List (S65)) (A1 : Option Addr) (c1 : Nat) (l1 : List Int) (r : Bool) (w : World) (hr0_0 : Kd.C k37 w A0_0 l0_0.length l0_0) (hc0_0 : l0_0.length≤c0_0) (hr0_1 : Kd.C k65 w A0_1 l0_1.length l0_1) (hc0_1 : l0_1.length≤c0_1) (hr1 : Kd.C (Kd.int .i64) w A1 l1.length l1) (hc1 : l1.length≤c1) (h : l8_GateFeds.f k l0_0 l0_1 l1 = some r) :
 Calls Tryz.prog 13 #[.agg #[.slice A0_0 l0_0.length c0_0,.slice A0_1 l0_1.length c0_1],.slice A1 l1.length c1] w fun e w'=>e = .returned (.bool r)∧Below w.heap.size w w':=by
 have hu25:=Tryz.underlying25
 have HR0_0:=am hr0_0
 have HC0_0:=am hc0_0
 clear hr0_0 hc0_0
 have HR0_1:=am hr0_1
 have HC0_1:=am hc0_1
 clear hr0_1 hc0_1
 have HR1:=am hr1
 have HC1:=am hc1
 clear hr1 hc1
 have HB:=am (Below.refl w.heap.size w)
 have H : ((l8_short.f l0_0 l0_1).bind fun t719=>(if t719 = true then (l8_GateFeds.j0 k l1 (decide ((l1.length : Int) > 10)) l0_0 l0_1) else (l8_GateFeds.j0 k l1 true l0_0 l0_1))) = some r:=h
 clear h
 have HC3:=am H
 clear H
 go_enter Tryz.func13,Tryz.ntmps13
 go_upto_region 1 with (first | ((refine ga_dst (N:=2) rfl ?_);(try (refine ga_guard (by rfl) ?_;dsimp only));refine box_event rfl (N:=2) rfl (cs:=#[.slice A0_0 l0_0.length c0_0,.slice A0_1 l0_1.length c0_1]) (t:=25) ?hr ?_;(case hr=>go_simp;try rfl);intro gb718 hg w4 hbox hb;have BK718:=am (hbox);have GW718:=am (ge_new (HB.out) hg);have GE718:=am (ge_new (HB.out) hg);replace HB:=am (below_step (HB.out) hb);clear hb hbox hg))
 (try simp only [Act.put,List.setIfInBounds_toArray,List.set_cons_zero,List.set_cons_succ])
 go_cut [16] (fun v16 wc=>∃ (kq : Nat) (x16_2 : Bool),v16 = .bool x16_2∧Aside0 (l8_GateFeds.j0 kq l1 x16_2 l0_0 l0_1 = some r)∧Aside0 (kq≤k)∧Aside0 (wc.heap[gb718]? = some (.cells #[(.slice A0_0 l0_0.length c0_0),(.slice A0_1 l0_1.length c0_1)] 25 (0,0)))∧Aside0 (Below w.heap.size w wc))
 case first =>
  have H:=HC3.out
  clear HC3
  replace H:=obm H
  obtain ⟨t719,A50,H⟩:=H
  replace H : (if t719 = true then (l8_GateFeds.j0 k l1 (decide ((l1.length : Int) > 10)) l0_0 l0_1) else (l8_GateFeds.j0 k l1 true l0_0 l0_1)) = some r:=H
  have A5:=am A50
  clear A50
  by_cases c6 : t719 = true
  ·subst c6
   replace H : (l8_GateFeds.j0 k l1 (decide ((l1.length : Int) > 10)) l0_0 l0_1) = some r:=by rw [if_pos rfl] at H;exact H
   replace H':=am H
   obtain ⟨hcz7_0,hcz7_1⟩:=cO2 BK718.out
   go_wp2_with (first | ((with_reducible refine ga_callee (f:=14) rfl ?_);refine goesL_ (some 10) rfl rfl Tryz.func14 (by kernel_rfl) rfl #[.agg #[.slice A0_0 l0_0.length c0_0,.slice A0_1 l0_1.length c0_1]] rfl (by (try simp only [List.map_toArray,List.map_cons,List.map_nil]);first | done | rfl | (simp only [List.length_drop,List.length_take];rfl)) ?_;(refine (l8_short.calls _ _ l0_0 _ _ l0_1 true _ ?side1 ?side2 ?side3 ?side4 A5.out).mono ?_);(case side1=>exact kC HR0_0.out HB.out);(case side2=>exact HC0_0.out);(case side3=>exact kC HR0_1.out HB.out);(case side4=>exact HC0_1.out);rintro e w8 ⟨rfl,hb⟩;refine ⟨_,rfl,?_⟩;replace BK718:=(kmv hb BK718);replace HB:=am (below_step (HB.out) hb);(try clear hb);(try clear hb2);(try clear hk);(try clear hi)))
   go_meet
   case rel=>exact ⟨_,(decide ((l1.length : Int) > 10)),(by first | rfl | (simp;done) | (simp [*];done)),H',⟨by first | omega | exact Nat.le_refl _⟩,⟨BK718.out⟩,⟨HB.out⟩⟩
  ·replace c6:=Bool.eq_false_iff.mpr c6
   subst c6
   replace H : (l8_GateFeds.j0 k l1 true l0_0 l0_1) = some r:=by rw [if_neg (show ¬ (false = true) by decide)] at H;exact H
   replace H':=am H
   obtain ⟨hcz9_0,hcz9_1⟩:=cO2 BK718.out
   go_wp2_with (first | ((with_reducible refine ga_callee (f:=14) rfl ?_);refine goesL_ (some 10) rfl rfl Tryz.func14 (by kernel_rfl) rfl #[.agg #[.slice A0_0 l0_0.length c0_0,.slice A0_1 l0_1.length c0_1]] rfl (by (try simp only [List.map_toArray,List.map_cons,List.map_nil]);first | done | rfl | (simp only [List.length_drop,List.length_take];rfl)) ?_;(refine (l8_short.calls _ _ l0_0 _ _ l0_1 false _ ?side1 ?side2 ?side3 ?side4 A5.out).mono ?_);(case side1=>exact kC HR0_0.out HB.out);(case side2=>exact HC0_0.out);(case side3=>exact kC HR0_1.out HB.out);(case side4=>exact HC0_1.out);rintro e w10 ⟨rfl,hb⟩;refine ⟨_,rfl,?_⟩;replace BK718:=(kmv hb BK718);replace HB:=am (below_step (HB.out) hb);(try clear hb);(try clear hb2);(try clear hk);(try clear hi)))
   go_meet
   case rel=>exact ⟨_,(true),(by first | rfl | (simp;done) | (simp [*];done)),H',⟨by first | omega | exact Nat.le_refl _⟩,⟨BK718.out⟩,⟨HB.out⟩⟩
 case rest =>
  clear HC3
  obtain ⟨kq,x16_2,rfl,HA,HJ2,BK718,HB⟩:=hcut
  cases kq with
  | zero=>exact absurd HA.out (by simp [l8_GateFeds.j0])
  | succ kj2 =>
   have H:=HA.out
   clear HA
   simp only [l8_GateFeds.j0] at H
   by_cases c11 : x16_2 = true
   ·subst c11
    replace H : ((l8_known.f).bind fun t720=>(some t720)) = some r:=by rw [if_pos rfl] at H;exact H
    replace H:=obm H
    obtain ⟨t720,A120,H⟩:=H
    replace H : (some t720) = some r:=H
    have A12:=am A120
    clear A120
    obtain rfl:=Option.some.inj H
    go_wp2_with (first | ((with_reducible refine ga_callee (f:=15) rfl ?_);refine goesL_ (some 17) rfl rfl Tryz.func15 (by kernel_rfl) rfl #[] rfl (by (try simp only [List.map_toArray,List.map_cons,List.map_nil]);first | done | rfl | (simp only [List.length_drop,List.length_take];rfl)) ?_;(refine (l8_known.calls  t720 _ A12.out).mono ?_);rintro e w13 ⟨rfl,hb⟩;refine ⟨_,rfl,?_⟩;replace BK718:=(kmv hb BK718);replace HB:=am (below_step (HB.out) hb);(try clear hb);(try clear hb2);(try clear hk);(try clear hi)))
    go_ret
    exact ⟨by first | rfl | (simp [*]<;>rfl),HB.out⟩
   ·replace c11:=Bool.eq_false_iff.mpr c11
    subst c11
    replace H : ((ga_Check.f kj2 l0_0 l0_1).bind fun t721=>((ga_Fed.f kj2 l0_0 l0_1 l1).bind fun bt722=>((q8_Net.f kj2 l0_0 l0_1).bind fun t724=>(if t724 = true then (if t721 = 0 then (l8_GateFeds.j1 kj2 l1 bt722.1 bt722.2 false l0_0 l0_1) else (l8_GateFeds.j1 kj2 l1 bt722.1 bt722.2 true l0_0 l0_1)) else (l8_GateFeds.j1 kj2 l1 bt722.1 bt722.2 (t721 != 2) l0_0 l0_1))))) = some r:=by rw [if_neg (show ¬ (false = true) by decide)] at H;exact H
    replace H:=obm H
    obtain ⟨t721,A140,H⟩:=H
    replace H : ((ga_Fed.f kj2 l0_0 l0_1 l1).bind fun bt722=>((q8_Net.f kj2 l0_0 l0_1).bind fun t724=>(if t724 = true then (if t721 = 0 then (l8_GateFeds.j1 kj2 l1 bt722.1 bt722.2 false l0_0 l0_1) else (l8_GateFeds.j1 kj2 l1 bt722.1 bt722.2 true l0_0 l0_1)) else (l8_GateFeds.j1 kj2 l1 bt722.1 bt722.2 (t721 != 2) l0_0 l0_1)))) = some r:=H
    have A14:=am A140
    clear A140
    replace H:=obm H
    obtain ⟨⟨t722,t723⟩,A150,H⟩:=H
    replace H : ((q8_Net.f kj2 l0_0 l0_1).bind fun t724=>(if t724 = true then (if t721 = 0 then (l8_GateFeds.j1 kj2 l1 t722 t723 false l0_0 l0_1) else (l8_GateFeds.j1 kj2 l1 t722 t723 true l0_0 l0_1)) else (l8_GateFeds.j1 kj2 l1 t722 t723 (t721 != 2) l0_0 l0_1))) = some r:=H
    have A15:=am A150
    clear A150
    replace H:=obm H
    obtain ⟨t724,A160,H⟩:=H
    replace H : (if t724 = true then (if t721 = 0 then (l8_GateFeds.j1 kj2 l1 t722 t723 false l0_0 l0_1) else (l8_GateFeds.j1 kj2 l1 t722 t723 true l0_0 l0_1)) else (l8_GateFeds.j1 kj2 l1 t722 t723 (t721 != 2) l0_0 l0_1)) = some r:=H
    have A16:=am A160
    clear A160
    have HC17:=am H
    clear H
    obtain ⟨hcz18_0,hcz18_1⟩:=cO2 BK718.out
    go_upto_region 6 with (first | ((with_reducible refine ga_callee (f:=45) rfl ?_);refine goesL_ (some 19) rfl rfl Tryz.func45 (by kernel_rfl) rfl #[.agg #[.slice A0_0 l0_0.length c0_0,.slice A0_1 l0_1.length c0_1]] rfl (by (try simp only [List.map_toArray,List.map_cons,List.map_nil]);first | done | rfl | (simp only [List.length_drop,List.length_take];rfl)) ?_;(refine (ga_Check.calls kj2 _ _ l0_0 _ _ l0_1 t721 _ ?side1 ?side2 ?side3 ?side4 A14.out).mono ?_);(case side1=>exact kC HR0_0.out HB.out);(case side2=>exact HC0_0.out);(case side3=>exact kC HR0_1.out HB.out);(case side4=>exact HC0_1.out);rintro e w19 ⟨rfl,hb⟩;refine ⟨_,rfl,?_⟩;replace BK718:=(kmv hb BK718);replace HB:=am (below_step (HB.out) hb);(try clear hb);(try clear hb2);(try clear hk);(try clear hi);obtain ⟨hcz20_0,hcz20_1⟩:=cO2 BK718.out) | ((with_reducible refine ga_callee (f:=22) rfl ?_);refine goesL_ (some 23) rfl rfl Tryz.func22 (by kernel_rfl) rfl #[.agg #[.slice A0_0 l0_0.length c0_0,.slice A0_1 l0_1.length c0_1],.slice A1 l1.length c1] rfl (by (try simp only [List.map_toArray,List.map_cons,List.map_nil]);first | done | rfl | (simp only [List.length_drop,List.length_take];rfl)) ?_;(refine (ga_Fed.calls kj2 _ _ l0_0 _ _ l0_1 _ _ l1 t722 t723 _ ?side1 ?side2 ?side3 ?side4 ?side5 ?side6 A15.out).mono ?_);(case side1=>exact kC HR0_0.out HB.out);(case side2=>exact HC0_0.out);(case side3=>exact kC HR0_1.out HB.out);(case side4=>exact HC0_1.out);(case side5=>exact kC HR1.out HB.out);(case side6=>exact HC1.out);rintro e w21 ⟨rfl,hb⟩;refine ⟨_,rfl,?_⟩;replace BK718:=(kmv hb BK718);replace HB:=am (below_step (HB.out) hb);(try clear hb);(try clear hb2);(try clear hk);(try clear hi);obtain ⟨hcz22_0,hcz22_1⟩:=cO2 BK718.out) | ((with_reducible refine ga_callee (f:=17) rfl ?_);refine goesL_ (some 27) rfl rfl Tryz.func17 (by kernel_rfl) rfl #[.agg #[.slice A0_0 l0_0.length c0_0,.slice A0_1 l0_1.length c0_1]] rfl (by (try simp only [List.map_toArray,List.map_cons,List.map_nil]);first | done | rfl | (simp only [List.length_drop,List.length_take];rfl)) ?_;(refine (q8_Net.calls kj2 _ _ l0_0 _ _ l0_1 t724 _ ?side1 ?side2 ?side3 ?side4 A16.out).mono ?_);(case side1=>exact kC HR0_0.out HB.out);(case side2=>exact HC0_0.out);(case side3=>exact kC HR0_1.out HB.out);(case side4=>exact HC0_1.out);rintro e w23 ⟨rfl,hb⟩;refine ⟨_,rfl,?_⟩;replace BK718:=(kmv hb BK718);replace HB:=am (below_step (HB.out) hb);(try clear hb);(try clear hb2);(try clear hk);(try clear hi)))
    (try simp only [Act.put,List.setIfInBounds_toArray,List.set_cons_zero,List.set_cons_succ])
    go_cut [40] (fun v40 wc=>∃ (kq : Nat) (x40_16 : Bool),v40 = .bool x40_16∧Aside0 (l8_GateFeds.j1 kq l1 t722 t723 x40_16 l0_0 l0_1 = some r)∧Aside0 (kq≤kj2)∧Aside0 (wc.heap[gb718]? = some (.cells #[(.slice A0_0 l0_0.length c0_0),(.slice A0_1 l0_1.length c0_1)] 25 (0,0)))∧Aside0 (Below w.heap.size w wc))
    case first =>
     have H:=HC17.out
     clear HC17
     by_cases c24 : t724 = true
     case neg =>
      replace c24:=Bool.eq_false_iff.mpr c24
      subst c24
      replace H : (l8_GateFeds.j1 kj2 l1 t722 t723 (t721 != 2) l0_0 l0_1) = some r:=by rw [if_neg (show ¬ (false = true) by decide)] at H;exact H
      replace H':=am H
      go_wp2
      go_meet
      case rel=>exact ⟨_,((t721 != 2)),(by first | rfl | (simp;done) | (simp [*];done)),H',⟨by have:=HJ2.out;first | omega | exact Nat.le_refl _⟩,⟨BK718.out⟩,⟨HB.out⟩⟩
     subst c24
     replace H : (if t721 = 0 then (l8_GateFeds.j1 kj2 l1 t722 t723 false l0_0 l0_1) else (l8_GateFeds.j1 kj2 l1 t722 t723 true l0_0 l0_1)) = some r:=by rw [if_pos rfl] at H;exact H
     by_cases c25 : t721 = 0
     case neg =>
      rw [if_neg c25] at H
      have c25b0 : (t721 == 0) = false:=beq_eq_false_iff_ne.mpr c25
      have c25b1 : (t721 != 0) = true:=bne_iff_ne.mpr c25
      (first | rw [c25b0] | (simp only [i64_w,i32_w];rw [c25b0]) | skip)
      replace H':=am H
      go_wp2
      go_meet
      case rel=>exact ⟨_,(true),(by first | rfl | (simp;done) | (simp [*];done)),H',⟨by have:=HJ2.out;first | omega | exact Nat.le_refl _⟩,⟨BK718.out⟩,⟨HB.out⟩⟩
     rw [if_pos c25] at H
     have c25b0 : (t721 == 0) = true:=beq_iff_eq.mpr c25
     have c25b1 : (t721 != 0) = false:=bne_eq_false_iff_eq.mpr c25
     clear c25
     (first | rw [c25b0] | (simp only [i64_w,i32_w];rw [c25b0]) | skip)
     replace H':=am H
     go_wp2
     go_meet
     case rel=>exact ⟨_,(false),(by first | rfl | (simp;done) | (simp [*];done)),H',⟨by have:=HJ2.out;first | omega | exact Nat.le_refl _⟩,⟨BK718.out⟩,⟨HB.out⟩⟩
    case rest =>
     clear HC17
     obtain ⟨kq,x40_16,rfl,HA,HJ16,BK718,HB⟩:=hcut
     cases kq with
     | zero=>exact absurd HA.out (by simp [l8_GateFeds.j1])
     | succ kj16 =>
      have H:=HA.out
      clear HA
      simp only [l8_GateFeds.j1] at H
      by_cases c26 : x40_16 = true
      ·subst c26
       replace H : (some false) = some r:=by rw [if_pos rfl] at H;exact H
       obtain rfl:=Option.some.inj H
       go_wp2
       go_ret
       exact ⟨by first | rfl | (simp [*]<;>rfl),HB.out⟩
      ·replace c26:=Bool.eq_false_iff.mpr c26
       subst c26
       replace H : ((q8_Net.f kj16 l0_0 l0_1).bind fun t725=>(if t725 = true then ((q8_Some.f kj16 l0_0 l0_1 l1).bind fun t726=>(l8_GateFeds.j2 kj16 l1 t722 t723 (!t726) l0_0 l0_1)) else (l8_GateFeds.j2 kj16 l1 t722 t723 true l0_0 l0_1))) = some r:=by rw [if_neg (show ¬ (false = true) by decide)] at H;exact H
       have HC27:=am H
       clear H
       go_upto_region 8 with (fail)
       go_cut [49] (fun v49 wc=>∃ (kq : Nat) (x49_26 : Bool),v49 = .bool x49_26∧Aside0 (l8_GateFeds.j2 kq l1 t722 t723 x49_26 l0_0 l0_1 = some r)∧Aside0 (kq≤kj16)∧Aside0 (wc.heap[gb718]? = some (.cells #[(.slice A0_0 l0_0.length c0_0),(.slice A0_1 l0_1.length c0_1)] 25 (0,0)))∧Aside0 (Below w.heap.size w wc))
       case first =>
        have H:=HC27.out
        clear HC27
        replace H:=obm H
        obtain ⟨t725,A280,H⟩:=H
        replace H : (if t725 = true then ((q8_Some.f kj16 l0_0 l0_1 l1).bind fun t726=>(l8_GateFeds.j2 kj16 l1 t722 t723 (!t726) l0_0 l0_1)) else (l8_GateFeds.j2 kj16 l1 t722 t723 true l0_0 l0_1)) = some r:=H
        have A28:=am A280
        clear A280
        by_cases c29 : t725 = true
        case neg =>
         replace c29:=Bool.eq_false_iff.mpr c29
         subst c29
         replace H : (l8_GateFeds.j2 kj16 l1 t722 t723 true l0_0 l0_1) = some r:=by rw [if_neg (show ¬ (false = true) by decide)] at H;exact H
         replace H':=am H
         obtain ⟨hcz35_0,hcz35_1⟩:=cO2 BK718.out
         go_wp2_with (first | ((with_reducible refine ga_callee (f:=17) rfl ?_);refine goesL_ (some 42) rfl rfl Tryz.func17 (by kernel_rfl) rfl #[.agg #[.slice A0_0 l0_0.length c0_0,.slice A0_1 l0_1.length c0_1]] rfl (by (try simp only [List.map_toArray,List.map_cons,List.map_nil]);first | done | rfl | (simp only [List.length_drop,List.length_take];rfl)) ?_;(refine (q8_Net.calls kj16 _ _ l0_0 _ _ l0_1 false _ ?side1 ?side2 ?side3 ?side4 A28.out).mono ?_);(case side1=>exact kC HR0_0.out HB.out);(case side2=>exact HC0_0.out);(case side3=>exact kC HR0_1.out HB.out);(case side4=>exact HC0_1.out);rintro e w36 ⟨rfl,hb⟩;refine ⟨_,rfl,?_⟩;replace BK718:=(kmv hb BK718);replace HB:=am (below_step (HB.out) hb);(try clear hb);(try clear hb2);(try clear hk);(try clear hi)))
         go_meet
         case rel=>exact ⟨_,(true),(by first | rfl | (simp;done) | (simp [*];done)),H',⟨by have:=HJ2.out;have:=HJ16.out;first | omega | exact Nat.le_refl _⟩,⟨BK718.out⟩,⟨HB.out⟩⟩
        subst c29
        replace H : ((q8_Some.f kj16 l0_0 l0_1 l1).bind fun t726=>(l8_GateFeds.j2 kj16 l1 t722 t723 (!t726) l0_0 l0_1)) = some r:=by rw [if_pos rfl] at H;exact H
        replace H:=obm H
        obtain ⟨t726,A300,H⟩:=H
        replace H : (l8_GateFeds.j2 kj16 l1 t722 t723 (!t726) l0_0 l0_1) = some r:=H
        have A30:=am A300
        clear A300
        replace H':=am H
        obtain ⟨hcz31_0,hcz31_1⟩:=cO2 BK718.out
        go_wp2_with (first | ((with_reducible refine ga_callee (f:=17) rfl ?_);refine goesL_ (some 42) rfl rfl Tryz.func17 (by kernel_rfl) rfl #[.agg #[.slice A0_0 l0_0.length c0_0,.slice A0_1 l0_1.length c0_1]] rfl (by (try simp only [List.map_toArray,List.map_cons,List.map_nil]);first | done | rfl | (simp only [List.length_drop,List.length_take];rfl)) ?_;(refine (q8_Net.calls kj16 _ _ l0_0 _ _ l0_1 true _ ?side1 ?side2 ?side3 ?side4 A28.out).mono ?_);(case side1=>exact kC HR0_0.out HB.out);(case side2=>exact HC0_0.out);(case side3=>exact kC HR0_1.out HB.out);(case side4=>exact HC0_1.out);rintro e w32 ⟨rfl,hb⟩;refine ⟨_,rfl,?_⟩;replace BK718:=(kmv hb BK718);replace HB:=am (below_step (HB.out) hb);(try clear hb);(try clear hb2);(try clear hk);(try clear hi);obtain ⟨hcz33_0,hcz33_1⟩:=cO2 BK718.out) | (go_at_call 18;(refine (q8_Some.calls kj16 _ _ l0_0 _ _ l0_1 _ _ l1 t726 _ ?side1 ?side2 ?side3 ?side4 ?side5 ?side6 A30.out).mono ?_);(case side1=>exact kC HR0_0.out HB.out);(case side2=>exact HC0_0.out);(case side3=>exact kC HR0_1.out HB.out);(case side4=>exact HC0_1.out);(case side5=>exact kC HR1.out HB.out);(case side6=>exact HC1.out);rintro e w34 ⟨rfl,hb⟩;replace BK718:=(kmv hb BK718);replace HB:=am (below_step (HB.out) hb);(try clear hb);(try clear hb2);(try clear hk);(try clear hi)))
        go_meet
        case rel=>exact ⟨_,(!t726),(by first | rfl | (simp;done) | (simp [*];done)),H',⟨by have:=HJ2.out;have:=HJ16.out;first | omega | exact Nat.le_refl _⟩,⟨BK718.out⟩,⟨HB.out⟩⟩
       case rest =>
        clear HC27
        obtain ⟨kq,x49_26,rfl,HA,HJ26,BK718,HB⟩:=hcut
        cases kq with
        | zero=>exact absurd HA.out (by simp [l8_GateFeds.j2])
        | succ kj26 =>
         have H:=HA.out
         clear HA
         simp only [l8_GateFeds.j2] at H
         by_cases c37 : x49_26 = true
         ·subst c37
          replace H : (if t723 = 2 then (if t722 = 0 then ((l8_known.f).bind fun t727=>(some t727)) else (some false)) else (some false)) = some r:=by rw [if_pos rfl] at H;exact H
          by_cases c38 : t723 = 2
          case neg =>
           rw [if_neg c38] at H
           have c38b0 : (t723 == 2) = false:=beq_eq_false_iff_ne.mpr c38
           have c38b1 : (t723 != 2) = true:=bne_iff_ne.mpr c38
           obtain rfl:=Option.some.inj H
           go_wp2
           go_ret
           exact ⟨by first | rfl | (simp [*]<;>rfl),HB.out⟩
          rw [if_pos c38] at H
          have c38b0 : (t723 == 2) = true:=beq_iff_eq.mpr c38
          have c38b1 : (t723 != 2) = false:=bne_eq_false_iff_eq.mpr c38
          clear c38
          by_cases c39 : t722 = 0
          case neg =>
           rw [if_neg c39] at H
           have c39b0 : (t722 == 0) = false:=beq_eq_false_iff_ne.mpr c39
           have c39b1 : (t722 != 0) = true:=bne_iff_ne.mpr c39
           obtain rfl:=Option.some.inj H
           go_wp2
           go_ret
           exact ⟨by first | rfl | (simp [*]<;>rfl),HB.out⟩
          rw [if_pos c39] at H
          have c39b0 : (t722 == 0) = true:=beq_iff_eq.mpr c39
          have c39b1 : (t722 != 0) = false:=bne_eq_false_iff_eq.mpr c39
          clear c39
          replace H:=obm H
          obtain ⟨t727,A400,H⟩:=H
          replace H : (some t727) = some r:=H
          have A40:=am A400
          clear A400
          obtain rfl:=Option.some.inj H
          go_wp2_with (first | (go_at_call 15;(refine (l8_known.calls  t727 _ A40.out).mono ?_);rintro e w41 ⟨rfl,hb⟩;replace BK718:=(kmv hb BK718);replace HB:=am (below_step (HB.out) hb);(try clear hb);(try clear hb2);(try clear hk);(try clear hi)))
          go_ret
          exact ⟨by first | rfl | (simp [*]<;>rfl),HB.out⟩
         ·replace c37:=Bool.eq_false_iff.mpr c37
          subst c37
          replace H : (if t723 = 0 then ((q8_Fed.f kj26 l0_0 l0_1 l1).bind fun t728=>(if t722 = t728 then ((l8_known.f).bind fun t729=>(some t729)) else (some false))) else (some false)) = some r:=by rw [if_neg (show ¬ (false = true) by decide)] at H;exact H
          by_cases c42 : t723 = 0
          case neg =>
           rw [if_neg c42] at H
           have c42b0 : (t723 == 0) = false:=beq_eq_false_iff_ne.mpr c42
           have c42b1 : (t723 != 0) = true:=bne_iff_ne.mpr c42
           obtain rfl:=Option.some.inj H
           go_wp2
           go_ret
           exact ⟨by first | rfl | (simp [*]<;>rfl),HB.out⟩
          rw [if_pos c42] at H
          have c42b0 : (t723 == 0) = true:=beq_iff_eq.mpr c42
          have c42b1 : (t723 != 0) = false:=bne_eq_false_iff_eq.mpr c42
          clear c42
          replace H:=obm H
          obtain ⟨t728,A430,H⟩:=H
          replace H : (if t722 = t728 then ((l8_known.f).bind fun t729=>(some t729)) else (some false)) = some r:=H
          have A43:=am A430
          clear A430
          by_cases c44 : t722 = t728
          case neg =>
           rw [if_neg c44] at H
           have c44b0 : (t722 == t728) = false:=beq_eq_false_iff_ne.mpr c44
           have c44b1 : (t722 != t728) = true:=bne_iff_ne.mpr c44
           obtain rfl:=Option.some.inj H
           obtain ⟨hcz49_0,hcz49_1⟩:=cO2 BK718.out
           go_wp2_with (first | (go_at_call 46;(refine (q8_Fed.calls kj26 _ _ l0_0 _ _ l0_1 _ _ l1 t728 _ ?side1 ?side2 ?side3 ?side4 ?side5 ?side6 A43.out).mono ?_);(case side1=>exact kC HR0_0.out HB.out);(case side2=>exact HC0_0.out);(case side3=>exact kC HR0_1.out HB.out);(case side4=>exact HC0_1.out);(case side5=>exact kC HR1.out HB.out);(case side6=>exact HC1.out);rintro e w50 ⟨rfl,hb⟩;replace BK718:=(kmv hb BK718);replace HB:=am (below_step (HB.out) hb);(try clear hb);(try clear hb2);(try clear hk);(try clear hi)))
           go_ret
           exact ⟨by first | rfl | (simp [*]<;>rfl),HB.out⟩
          rw [if_pos c44] at H
          have c44b0 : (t722 == t728) = true:=beq_iff_eq.mpr c44
          have c44b1 : (t722 != t728) = false:=bne_eq_false_iff_eq.mpr c44
          clear c44
          replace H:=obm H
          obtain ⟨t729,A450,H⟩:=H
          replace H : (some t729) = some r:=H
          have A45:=am A450
          clear A450
          obtain rfl:=Option.some.inj H
          obtain ⟨hcz46_0,hcz46_1⟩:=cO2 BK718.out
          go_wp2_with (first | (go_at_call 46;(refine (q8_Fed.calls kj26 _ _ l0_0 _ _ l0_1 _ _ l1 t728 _ ?side1 ?side2 ?side3 ?side4 ?side5 ?side6 A43.out).mono ?_);(case side1=>exact kC HR0_0.out HB.out);(case side2=>exact HC0_0.out);(case side3=>exact kC HR0_1.out HB.out);(case side4=>exact HC0_1.out);(case side5=>exact kC HR1.out HB.out);(case side6=>exact HC1.out);rintro e w47 ⟨rfl,hb⟩;replace BK718:=(kmv hb BK718);replace HB:=am (below_step (HB.out) hb);(try clear hb);(try clear hb2);(try clear hk);(try clear hi)) | (go_at_call 15;(refine (l8_known.calls  t729 _ A45.out).mono ?_);rintro e w48 ⟨rfl,hb⟩;replace BK718:=(kmv hb BK718);replace HB:=am (below_step (HB.out) hb);(try clear hb);(try clear hb2);(try clear hk);(try clear hi)))
          go_ret
          exact ⟨by first | rfl | (simp [*]<;>rfl),HB.out⟩
end Go.Proofs.YtclkbedbocnpkaaGreatDoor.C
namespace Go.Proofs.YtclkbedbocnpkaaGreatDoor.C
open Go Go.RowKit Go.Proofs.YtclkbedbocnpkaaGreatDoorW.PrintWords Go.Proofs.YtclkbedbocnpkaaGreatDoorW.PrintLast Go.Proofs.YtclkbedbocnpkaaGreatDoorW.PrintMore
set_option linter.unusedVariables false
set_option linter.unusedSimpArgs false
set_option maxHeartbeats 16000000
set_option maxRecDepth 100000
theorem feds_pure (pts : List Pt) (ch : List Ch) (op : List Int) {k : Nat} (hk : 130000≤k) : l8_GateFeds.f k pts ch op = some true:=by
 obtain ⟨k,rfl⟩ : ∃ m,k = m + 3:=⟨k - 3,by omega⟩
 unfold l8_GateFeds.f
 rw [short_eq]
 simp only [Option.bind_some]
 by_cases hs : shortB pts ch = true
 case neg=>rw [if_neg hs];simp only [l8_GateFeds.j0,known_true];rfl
 obtain ⟨hp,hc⟩:=shortB_iff.1 hs
 rw [if_pos hs]
 by_cases hl : (op.length : Int) > 10
 ·rw [decide_eq_true hl];simp only [l8_GateFeds.j0,known_true];rfl
 rw [decide_eq_false hl]
 simp only [l8_GateFeds.j0]
 rw [if_neg (by simp),check_eq (by omega) (by omega) (by omega),gFed_eq (by omega) (by omega) (by omega) (by omega),rNet_eq (by omega) (by omega) (by omega)]
 simp only [Option.bind_some]
 by_cases hn : netS pts ch = true
 case neg =>
  rw [if_neg hn,if_neg hn,if_neg (by unfold openS;simp [hn])]
  simp only [l8_GateFeds.j1]
  rw [rNet_eq (by omega) (by omega) (by omega)]
  simp [l8_GateFeds.j2,known_true,hn]
 rw [if_pos hn,if_pos hn,if_pos rfl]
 simp only [l8_GateFeds.j1]
 rw [if_neg (by simp),rNet_eq (by omega) (by omega) (by omega),rSome_eq (by omega) (by omega) (by omega)]
 simp only [Option.bind_some]
 rw [if_pos hn]
 by_cases hm : someS ch op = true
 case neg=>rw [if_neg (by unfold openS;simp [hm])];simp [l8_GateFeds.j2,known_true,hm]
 rw [if_pos (by unfold openS;simp [hn,hm])]
 simp only [l8_GateFeds.j2,hm]
 rw [if_neg (by simp),if_pos trivial,rFed_eq hn (by omega) (by omega)]
 simp [known_true]
end Go.Proofs.YtclkbedbocnpkaaGreatDoor.C

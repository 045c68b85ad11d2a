/- A part of the proof: the walks of the functions that it reaches. TIGHT. -/
import Derived.Test.YtclkbedbocnpkaaGreatDoorMPro13
set_option linter.unusedVariables false
set_option linter.unusedSimpArgs false
namespace Go.Proofs.YtclkbedbocnpkaaGreatDoor.C
open Go.RowKit Go.Proofs.YtclkbedbocnpkaaGreatDoorW.PrintWords Go.Proofs.YtclkbedbocnpkaaGreatDoorW.PrintLast Go.Proofs.YtclkbedbocnpkaaGreatDoorW.PrintMore
set_option linter.unusedVariables false
set_option linter.unusedSimpArgs false
set_option maxHeartbeats 16000000
set_option maxRecDepth 100000
mutual
def l8_GateProofs.j0 : Nat→List Int→Bool→List (S37)→List (S65)→Option (Bool)
 | 0,_,_,_,_=>none
 | k + 1,x1,x18,x617000,x617001=>if x18 = true then ((l8_known.f).bind fun t618=>(some t618)) else ((ga_Proof.f k x617000 x617001 x1).bind fun bt619=>((ga_Vital.f k x617000 x617001).bind fun bt623=>((q8_Net.f k x617000 x617001).bind fun t627=>(if t627 = true then (if bt623.2 = 0 then ((q8_Vital.f k x617000 x617001).bind fun t629=>((q8_Same.f k bt623.1 t629).bind fun t632=>(l8_GateProofs.j1 k x1 bt619.1 bt619.2 (!t632) x617000 x617001))) else (l8_GateProofs.j1 k x1 bt619.1 bt619.2 true x617000 x617001)) else (if bt619.2 = 2 then (if (bt619.1.length : Int) = 0 then (if bt623.2 = 2 then (if (bt623.1.length : Int) = 0 then ((l8_known.f).bind fun t628=>(some t628)) else (some false)) else (some false)) else (some false)) else (some false))))))
def l8_GateProofs.j1 : Nat→List Int→List Int→Int→Bool→List (S37)→List (S65)→Option (Bool)
 | 0,_,_,_,_,_,_=>none
 | k + 1,x1,x5,x6,x61,x617000,x617001=>if x61 = true then (some false) else ((q8_Some.f k x617000 x617001 x1).bind fun t633=>(if t633 = true then ((q8_Proof.f k x617000 x617001 x1).bind fun bt635=>(if bt635.2 = true then (if x6 = 0 then ((q8_Same.f k x5 bt635.1).bind fun t639=>(if t639 = true then ((l8_known.f).bind fun t640=>(some t640)) else (some false))) else (some false)) else (if x6 = 5 then (if (x5.length : Int) = 0 then ((l8_known.f).bind fun t641=>(some t641)) else (some false)) else (some false)))) else (if x6 = 2 then (if (x5.length : Int) = 0 then ((l8_known.f).bind fun t634=>(some t634)) else (some false)) else (some false))))
end
def l8_GateProofs.f (k : Nat) (l0_0 : List (S37)) (l0_1 : List (S65)) (l1 : List Int) : Option (Bool):=(l8_short.f l0_0 l0_1).bind fun t617=>(if t617 = true then (l8_GateProofs.j0 k l1 (decide ((l1.length : Int) > 10)) l0_0 l0_1) else (l8_GateProofs.j0 k l1 true l0_0 l0_1))
theorem l8_GateProofs.calls (k : Nat) (A0_0 : Option Addr) (c0_0 : Nat) (l0_0 : List (S37)) (A0_1 : Option Addr) (c0_1 : Nat) (l0_1 : List (S65)) (A1 : Option Addr) (c1 : Nat) (l1 : List Int) (r : Bool) (w : World) (hr0_0 : Kd.C k37 w A0_0 l0_0.length l0_0) (hc0_0 : l0_0.length≤c0_0) (hr0_1 : Kd.C k65 w A0_1 l0_1.length l0_1) (hc0_1 : l0_1.length≤c0_1) (hr1 : Kd.C (Kd.int .i64) w A1 l1.length l1) (hc1 : l1.length≤c1) (h : l8_GateProofs.f k l0_0 l0_1 l1 = some r) :
 Calls Tryz.prog 10 #[.agg #[.slice A0_0 l0_0.length c0_0,.slice A0_1 l0_1.length c0_1],.slice A1 l1.length c1] w fun e w'=>e = .returned (.bool r)∧Below w.heap.size w w':=by
 have hu25:=Tryz.underlying25
 have HR0_0:=am hr0_0
 have HC0_0:=am hc0_0
 clear hr0_0 hc0_0
 have HR0_1:=am hr0_1
 have HC0_1:=am hc0_1
 clear hr0_1 hc0_1
 have HR1:=am hr1
 have HC1:=am hc1
 clear hr1 hc1
 have HB:=am (Below.refl w.heap.size w)
 have H : ((l8_short.f l0_0 l0_1).bind fun t617=>(if t617 = true then (l8_GateProofs.j0 k l1 (decide ((l1.length : Int) > 10)) l0_0 l0_1) else (l8_GateProofs.j0 k l1 true l0_0 l0_1))) = some r:=h
 clear h
 have HC3:=am H
 clear H
 go_enter Tryz.func10,Tryz.ntmps10
 go_upto_region 1 with (first | ((with_reducible refine ga_dst (N:=2) rfl ?_);(try (refine ga_guard (by rfl) ?_;dsimp only));refine box_event ?hg (N:=2) ?hd (cs:=#[.slice A0_0 l0_0.length c0_0,.slice A0_1 l0_1.length c0_1]) (t:=25) ?hr ?_;(case hd=>rfl);(case hg=>rfl);(case hr=>go_simp;try rfl);intro gb616 hg w4 hbox hb;have BK616:=am (hbox);have GW616:=am (ge_new (HB.out) hg);have GE616:=am (ge_new (HB.out) hg);replace HB:=am (below_step (HB.out) hb);clear hb hbox hg))
 (try simp only [Act.put,List.setIfInBounds_toArray,List.set_cons_zero,List.set_cons_succ])
 go_cut [18] (fun v18 wc=>∃ (kq : Nat) (x18_2 : Bool),v18 = .bool x18_2∧Aside0 (l8_GateProofs.j0 kq l1 x18_2 l0_0 l0_1 = some r)∧Aside0 (kq≤k)∧Aside0 (wc.heap[gb616]? = some (.cells #[(.slice A0_0 l0_0.length c0_0),(.slice A0_1 l0_1.length c0_1)] 25 (0,0)))∧Aside0 (Below w.heap.size w wc))
 case first =>
  have H:=HC3.out
  clear HC3
  replace H:=obm H
  obtain ⟨t617,A50,H⟩:=H
  replace H : (if t617 = true then (l8_GateProofs.j0 k l1 (decide ((l1.length : Int) > 10)) l0_0 l0_1) else (l8_GateProofs.j0 k l1 true l0_0 l0_1)) = some r:=H
  have A5:=am A50
  clear A50
  by_cases c6 : t617 = true
  ·subst c6
   replace H : (l8_GateProofs.j0 k l1 (decide ((l1.length : Int) > 10)) l0_0 l0_1) = some r:=by rw [if_pos rfl] at H;exact H
   replace H':=am H
   obtain ⟨hcz7_0,hcz7_1⟩:=cO2 BK616.out
   have hfz7_0:=blk_frozen BK616.out 0
   have hfz7_1:=blk_frozen BK616.out 1
   go_wp2_with (first | ((with_reducible refine ga_callee (f:=14) rfl ?_);refine goesL_ (some 12) rfl rfl Tryz.func14 (by kernel_rfl) rfl #[.agg #[.slice A0_0 l0_0.length c0_0,.slice A0_1 l0_1.length c0_1]] rfl (by (try simp only [List.map_toArray,List.map_cons,List.map_nil]);first | done | rfl | (simp only [List.length_drop,List.length_take];rfl)) ?_;(with_reducible refine (l8_short.calls _ _ l0_0 _ _ l0_1 true _ ?side1 ?side2 ?side3 ?side4 A5.out).mono ?_);(case side1=>exact kC HR0_0.out HB.out);(case side2=>exact HC0_0.out);(case side3=>exact kC HR0_1.out HB.out);(case side4=>exact HC0_1.out);rintro e w8 ⟨rfl,hb⟩;refine ⟨_,rfl,?_⟩;replace BK616:=am (blk_below (g:=gb616) (o:=.cells #[.slice A0_0 l0_0.length c0_0,.slice A0_1 l0_1.length c0_1] 25 (0,0)) (by (with_reducible repeat (first | refine blk_drewN ?_ _ | refine blk_drew ?_ | refine blk_alloc ?_ _));exact BK616.out) hb);replace HB:=am (below_step (HB.out) hb);(try clear hb);(try clear hb2);(try clear hk);(try clear hi)))
   go_meet
   case rel=>exact ⟨_,(decide ((l1.length : Int) > 10)),(by first | rfl | (simp;done) | (simp [*];done)),H',⟨by first | omega | exact Nat.le_refl _⟩,⟨by (with_reducible repeat (first | refine blk_drewN ?_ _ | refine blk_drew ?_ | refine blk_alloc ?_ _));exact BK616.out⟩,⟨HB.out⟩⟩
  ·replace c6:=Bool.eq_false_iff.mpr c6
   subst c6
   replace H : (l8_GateProofs.j0 k l1 true l0_0 l0_1) = some r:=by rw [if_neg (show ¬ (false = true) by decide)] at H;exact H
   replace H':=am H
   obtain ⟨hcz9_0,hcz9_1⟩:=cO2 BK616.out
   have hfz9_0:=blk_frozen BK616.out 0
   have hfz9_1:=blk_frozen BK616.out 1
   go_wp2_with (first | ((with_reducible refine ga_callee (f:=14) rfl ?_);refine goesL_ (some 12) rfl rfl Tryz.func14 (by kernel_rfl) rfl #[.agg #[.slice A0_0 l0_0.length c0_0,.slice A0_1 l0_1.length c0_1]] rfl (by (try simp only [List.map_toArray,List.map_cons,List.map_nil]);first | done | rfl | (simp only [List.length_drop,List.length_take];rfl)) ?_;(with_reducible refine (l8_short.calls _ _ l0_0 _ _ l0_1 false _ ?side1 ?side2 ?side3 ?side4 A5.out).mono ?_);(case side1=>exact kC HR0_0.out HB.out);(case side2=>exact HC0_0.out);(case side3=>exact kC HR0_1.out HB.out);(case side4=>exact HC0_1.out);rintro e w10 ⟨rfl,hb⟩;refine ⟨_,rfl,?_⟩;replace BK616:=am (blk_below (g:=gb616) (o:=.cells #[.slice A0_0 l0_0.length c0_0,.slice A0_1 l0_1.length c0_1] 25 (0,0)) (by (with_reducible repeat (first | refine blk_drewN ?_ _ | refine blk_drew ?_ | refine blk_alloc ?_ _));exact BK616.out) hb);replace HB:=am (below_step (HB.out) hb);(try clear hb);(try clear hb2);(try clear hk);(try clear hi)))
   go_meet
   case rel=>exact ⟨_,(true),(by first | rfl | (simp;done) | (simp [*];done)),H',⟨by first | omega | exact Nat.le_refl _⟩,⟨by (with_reducible repeat (first | refine blk_drewN ?_ _ | refine blk_drew ?_ | refine blk_alloc ?_ _));exact BK616.out⟩,⟨HB.out⟩⟩
 case rest =>
  clear HC3
  obtain ⟨kq,x18_2,rfl,HA,HJ2,BK616,HB⟩:=hcut
  cases kq with
  | zero=>exact absurd HA.out (by simp [l8_GateProofs.j0])
  | succ kj2 =>
   have H:=HA.out
   clear HA
   simp only [l8_GateProofs.j0] at H
   by_cases c11 : x18_2 = true
   ·subst c11
    replace H : ((l8_known.f).bind fun t618=>(some t618)) = some r:=by rw [if_pos rfl] at H;exact H
    replace H:=obm H
    obtain ⟨t618,A120,H⟩:=H
    replace H : (some t618) = some r:=H
    have A12:=am A120
    clear A120
    obtain rfl:=Option.some.inj H
    go_wp2_with (first | ((with_reducible refine ga_callee (f:=15) rfl ?_);refine goesL_ (some 19) rfl rfl Tryz.func15 (by kernel_rfl) rfl #[] rfl (by (try simp only [List.map_toArray,List.map_cons,List.map_nil]);first | done | rfl | (simp only [List.length_drop,List.length_take];rfl)) ?_;(with_reducible refine (l8_known.calls  t618 _ A12.out).mono ?_);rintro e w13 ⟨rfl,hb⟩;refine ⟨_,rfl,?_⟩;replace BK616:=am (blk_below (g:=gb616) (o:=.cells #[.slice A0_0 l0_0.length c0_0,.slice A0_1 l0_1.length c0_1] 25 (0,0)) (by (with_reducible repeat (first | refine blk_drewN ?_ _ | refine blk_drew ?_ | refine blk_alloc ?_ _));exact BK616.out) hb);replace HB:=am (below_step (HB.out) hb);(try clear hb);(try clear hb2);(try clear hk);(try clear hi)))
    go_ret
    exact ⟨by first | rfl | (simp [*]<;>rfl),HB.out⟩
   ·replace c11:=Bool.eq_false_iff.mpr c11
    subst c11
    replace H : ((ga_Proof.f kj2 l0_0 l0_1 l1).bind fun bt619=>((ga_Vital.f kj2 l0_0 l0_1).bind fun bt623=>((q8_Net.f kj2 l0_0 l0_1).bind fun t627=>(if t627 = true then (if bt623.2 = 0 then ((q8_Vital.f kj2 l0_0 l0_1).bind fun t629=>((q8_Same.f kj2 bt623.1 t629).bind fun t632=>(l8_GateProofs.j1 kj2 l1 bt619.1 bt619.2 (!t632) l0_0 l0_1))) else (l8_GateProofs.j1 kj2 l1 bt619.1 bt619.2 true l0_0 l0_1)) else (if bt619.2 = 2 then (if (bt619.1.length : Int) = 0 then (if bt623.2 = 2 then (if (bt623.1.length : Int) = 0 then ((l8_known.f).bind fun t628=>(some t628)) else (some false)) else (some false)) else (some false)) else (some false)))))) = some r:=by rw [if_neg (show ¬ (false = true) by decide)] at H;exact H
    replace H:=obm H
    obtain ⟨⟨t619,t622⟩,A140,H⟩:=H
    replace H : ((ga_Vital.f kj2 l0_0 l0_1).bind fun bt623=>((q8_Net.f kj2 l0_0 l0_1).bind fun t627=>(if t627 = true then (if bt623.2 = 0 then ((q8_Vital.f kj2 l0_0 l0_1).bind fun t629=>((q8_Same.f kj2 bt623.1 t629).bind fun t632=>(l8_GateProofs.j1 kj2 l1 t619 t622 (!t632) l0_0 l0_1))) else (l8_GateProofs.j1 kj2 l1 t619 t622 true l0_0 l0_1)) else (if t622 = 2 then (if (t619.length : Int) = 0 then (if bt623.2 = 2 then (if (bt623.1.length : Int) = 0 then ((l8_known.f).bind fun t628=>(some t628)) else (some false)) else (some false)) else (some false)) else (some false))))) = some r:=H
    have A14:=am A140
    clear A140
    replace H:=obm H
    obtain ⟨⟨t623,t626⟩,A150,H⟩:=H
    replace H : ((q8_Net.f kj2 l0_0 l0_1).bind fun t627=>(if t627 = true then (if t626 = 0 then ((q8_Vital.f kj2 l0_0 l0_1).bind fun t629=>((q8_Same.f kj2 t623 t629).bind fun t632=>(l8_GateProofs.j1 kj2 l1 t619 t622 (!t632) l0_0 l0_1))) else (l8_GateProofs.j1 kj2 l1 t619 t622 true l0_0 l0_1)) else (if t622 = 2 then (if (t619.length : Int) = 0 then (if t626 = 2 then (if (t623.length : Int) = 0 then ((l8_known.f).bind fun t628=>(some t628)) else (some false)) else (some false)) else (some false)) else (some false)))) = some r:=H
    have A15:=am A150
    clear A150
    replace H:=obm H
    obtain ⟨t627,A160,H⟩:=H
    replace H : (if t627 = true then (if t626 = 0 then ((q8_Vital.f kj2 l0_0 l0_1).bind fun t629=>((q8_Same.f kj2 t623 t629).bind fun t632=>(l8_GateProofs.j1 kj2 l1 t619 t622 (!t632) l0_0 l0_1))) else (l8_GateProofs.j1 kj2 l1 t619 t622 true l0_0 l0_1)) else (if t622 = 2 then (if (t619.length : Int) = 0 then (if t626 = 2 then (if (t623.length : Int) = 0 then ((l8_known.f).bind fun t628=>(some t628)) else (some false)) else (some false)) else (some false)) else (some false))) = some r:=H
    have A16:=am A160
    clear A160
    by_cases c17 : t627 = true
    case neg =>
     replace c17:=Bool.eq_false_iff.mpr c17
     subst c17
     replace H : (if t622 = 2 then (if (t619.length : Int) = 0 then (if t626 = 2 then (if (t623.length : Int) = 0 then ((l8_known.f).bind fun t628=>(some t628)) else (some false)) else (some false)) else (some false)) else (some false)) = some r:=by rw [if_neg (show ¬ (false = true) by decide)] at H;exact H
     by_cases c88 : t622 = 2
     case neg =>
      rw [if_neg c88] at H
      have c88b0 : (t622 == 2) = false:=beq_eq_false_iff_ne.mpr c88
      have c88b1 : (t622 != 2) = true:=bne_iff_ne.mpr c88
      obtain rfl:=Option.some.inj H
      obtain ⟨hcz124_0,hcz124_1⟩:=cO2 BK616.out
      have hfz124_0:=blk_frozen BK616.out 0
      have hfz124_1:=blk_frozen BK616.out 1
      go_wp2_with (first | ((with_reducible refine ga_callee (f:=38) rfl ?_);refine goesL_ (some 23) rfl rfl Tryz.func38 (by kernel_rfl) rfl #[.agg #[.slice A0_0 l0_0.length c0_0,.slice A0_1 l0_1.length c0_1],.slice A1 l1.length c1] rfl (by (try simp only [List.map_toArray,List.map_cons,List.map_nil]);first | done | rfl | (simp only [List.length_drop,List.length_take];rfl)) ?_;(with_reducible refine (ga_Proof.calls kj2 _ _ l0_0 _ _ l0_1 _ _ l1 t619 t622 _ ?side1 ?side2 ?side3 ?side4 ?side5 ?side6 A14.out).mono ?_);(case side1=>exact kC HR0_0.out HB.out);(case side2=>exact HC0_0.out);(case side3=>exact kC HR0_1.out HB.out);(case side4=>exact HC0_1.out);(case side5=>exact kC HR1.out HB.out);(case side6=>exact HC1.out);rintro e w125 ⟨v620,rfl,ho0,hb⟩;refine ⟨_,rfl,?_⟩;have HO621:=am (Kd.R_lower ho0 (below_size (HB.out)));replace BK616:=am (blk_below (g:=gb616) (o:=.cells #[.slice A0_0 l0_0.length c0_0,.slice A0_1 l0_1.length c0_1] 25 (0,0)) (by (with_reducible repeat (first | refine blk_drewN ?_ _ | refine blk_drew ?_ | refine blk_alloc ?_ _));exact BK616.out) hb);replace HB:=am (below_step (HB.out) hb);(try clear hb);(try clear hb2);(try clear hk);(try clear hi);(try clear ho0);obtain ⟨hcz126_0,hcz126_1⟩:=cO2 BK616.out;have hfz126_0:=blk_frozen BK616.out 0;have hfz126_1:=blk_frozen BK616.out 1) | ((with_reducible refine ga_callee (f:=39) rfl ?_);refine goesL_ (some 28) rfl rfl Tryz.func39 (by kernel_rfl) rfl #[.agg #[.slice A0_0 l0_0.length c0_0,.slice A0_1 l0_1.length c0_1]] rfl (by (try simp only [List.map_toArray,List.map_cons,List.map_nil]);first | done | rfl | (simp only [List.length_drop,List.length_take];rfl)) ?_;(with_reducible refine (ga_Vital.calls kj2 _ _ l0_0 _ _ l0_1 t623 t626 _ ?side1 ?side2 ?side3 ?side4 A15.out).mono ?_);(case side1=>exact kC HR0_0.out HB.out);(case side2=>exact HC0_0.out);(case side3=>exact kC HR0_1.out HB.out);(case side4=>exact HC0_1.out);rintro e w127 ⟨v624,rfl,ho0,hb⟩;refine ⟨_,rfl,?_⟩;have HO625:=am (Kd.R_lower (Kd.R_new' ho0 (Kd.R_lt (by (with_reducible repeat (first | apply Kd.R_alloc | apply Kd.R_drewN | apply Kd.R_drew));exact HO621.out))) (below_size (HB.out)));replace HO621:=am (Kd.R_elder' (by (with_reducible repeat (first | apply Kd.R_alloc | apply Kd.R_drewN | apply Kd.R_drew));exact HO621.out) (Kd.R_base ho0) hb);replace BK616:=am (blk_below (g:=gb616) (o:=.cells #[.slice A0_0 l0_0.length c0_0,.slice A0_1 l0_1.length c0_1] 25 (0,0)) (by (with_reducible repeat (first | refine blk_drewN ?_ _ | refine blk_drew ?_ | refine blk_alloc ?_ _));exact BK616.out) hb);replace HB:=am (below_step (HB.out) hb);(try clear hb);(try clear hb2);(try clear hk);(try clear hi);(try clear ho0);obtain ⟨hcz128_0,hcz128_1⟩:=cO2 BK616.out;have hfz128_0:=blk_frozen BK616.out 0;have hfz128_1:=blk_frozen BK616.out 1) | ((with_reducible refine ga_callee (f:=17) rfl ?_);refine goesL_ (some 32) rfl rfl Tryz.func17 (by kernel_rfl) rfl #[.agg #[.slice A0_0 l0_0.length c0_0,.slice A0_1 l0_1.length c0_1]] rfl (by (try simp only [List.map_toArray,List.map_cons,List.map_nil]);first | done | rfl | (simp only [List.length_drop,List.length_take];rfl)) ?_;(with_reducible refine (q8_Net.calls kj2 _ _ l0_0 _ _ l0_1 false _ ?side1 ?side2 ?side3 ?side4 A16.out).mono ?_);(case side1=>exact kC HR0_0.out HB.out);(case side2=>exact HC0_0.out);(case side3=>exact kC HR0_1.out HB.out);(case side4=>exact HC0_1.out);rintro e w129 ⟨rfl,hb⟩;refine ⟨_,rfl,?_⟩;replace HO621:=am (Kd.R_below (by (with_reducible repeat (first | apply Kd.R_alloc | apply Kd.R_drewN | apply Kd.R_drew));exact HO621.out) hb);replace HO625:=am (Kd.R_below (by (with_reducible repeat (first | apply Kd.R_alloc | apply Kd.R_drewN | apply Kd.R_drew));exact HO625.out) hb);replace BK616:=am (blk_below (g:=gb616) (o:=.cells #[.slice A0_0 l0_0.length c0_0,.slice A0_1 l0_1.length c0_1] 25 (0,0)) (by (with_reducible repeat (first | refine blk_drewN ?_ _ | refine blk_drew ?_ | refine blk_alloc ?_ _));exact BK616.out) hb);replace HB:=am (below_step (HB.out) hb);(try clear hb);(try clear hb2);(try clear hk);(try clear hi)))
      go_ret
      exact ⟨by first | rfl | (simp [*]<;>rfl),HB.out⟩
     rw [if_pos c88] at H
     have c88b0 : (t622 == 2) = true:=beq_iff_eq.mpr c88
     have c88b1 : (t622 != 2) = false:=bne_eq_false_iff_eq.mpr c88
     clear c88
     by_cases c89 : (t619.length : Int) = 0
     case neg =>
      rw [if_neg c89] at H
      have c89b0 : ((t619.length : Int) == 0) = false:=beq_eq_false_iff_ne.mpr c89
      have c89b1 : ((t619.length : Int) != 0) = true:=bne_iff_ne.mpr c89
      have c89b2 : ¬ (t619 = []):=fun h_=>c89 (by rw [h_];rfl)
      obtain rfl:=Option.some.inj H
      obtain ⟨hcz117_0,hcz117_1⟩:=cO2 BK616.out
      have hfz117_0:=blk_frozen BK616.out 0
      have hfz117_1:=blk_frozen BK616.out 1
      go_wp2_with (first | ((with_reducible refine ga_callee (f:=38) rfl ?_);refine goesL_ (some 23) rfl rfl Tryz.func38 (by kernel_rfl) rfl #[.agg #[.slice A0_0 l0_0.length c0_0,.slice A0_1 l0_1.length c0_1],.slice A1 l1.length c1] rfl (by (try simp only [List.map_toArray,List.map_cons,List.map_nil]);first | done | rfl | (simp only [List.length_drop,List.length_take];rfl)) ?_;(with_reducible refine (ga_Proof.calls kj2 _ _ l0_0 _ _ l0_1 _ _ l1 t619 t622 _ ?side1 ?side2 ?side3 ?side4 ?side5 ?side6 A14.out).mono ?_);(case side1=>exact kC HR0_0.out HB.out);(case side2=>exact HC0_0.out);(case side3=>exact kC HR0_1.out HB.out);(case side4=>exact HC0_1.out);(case side5=>exact kC HR1.out HB.out);(case side6=>exact HC1.out);rintro e w118 ⟨v620,rfl,ho0,hb⟩;refine ⟨_,rfl,?_⟩;have HO621:=am (Kd.R_lower ho0 (below_size (HB.out)));replace BK616:=am (blk_below (g:=gb616) (o:=.cells #[.slice A0_0 l0_0.length c0_0,.slice A0_1 l0_1.length c0_1] 25 (0,0)) (by (with_reducible repeat (first | refine blk_drewN ?_ _ | refine blk_drew ?_ | refine blk_alloc ?_ _));exact BK616.out) hb);replace HB:=am (below_step (HB.out) hb);(try clear hb);(try clear hb2);(try clear hk);(try clear hi);(try clear ho0);obtain ⟨hcz119_0,hcz119_1⟩:=cO2 BK616.out;have hfz119_0:=blk_frozen BK616.out 0;have hfz119_1:=blk_frozen BK616.out 1) | ((with_reducible refine ga_callee (f:=39) rfl ?_);refine goesL_ (some 28) rfl rfl Tryz.func39 (by kernel_rfl) rfl #[.agg #[.slice A0_0 l0_0.length c0_0,.slice A0_1 l0_1.length c0_1]] rfl (by (try simp only [List.map_toArray,List.map_cons,List.map_nil]);first | done | rfl | (simp only [List.length_drop,List.length_take];rfl)) ?_;(with_reducible refine (ga_Vital.calls kj2 _ _ l0_0 _ _ l0_1 t623 t626 _ ?side1 ?side2 ?side3 ?side4 A15.out).mono ?_);(case side1=>exact kC HR0_0.out HB.out);(case side2=>exact HC0_0.out);(case side3=>exact kC HR0_1.out HB.out);(case side4=>exact HC0_1.out);rintro e w120 ⟨v624,rfl,ho0,hb⟩;refine ⟨_,rfl,?_⟩;have HO625:=am (Kd.R_lower (Kd.R_new' ho0 (Kd.R_lt (by (with_reducible repeat (first | apply Kd.R_alloc | apply Kd.R_drewN | apply Kd.R_drew));exact HO621.out))) (below_size (HB.out)));replace HO621:=am (Kd.R_elder' (by (with_reducible repeat (first | apply Kd.R_alloc | apply Kd.R_drewN | apply Kd.R_drew));exact HO621.out) (Kd.R_base ho0) hb);replace BK616:=am (blk_below (g:=gb616) (o:=.cells #[.slice A0_0 l0_0.length c0_0,.slice A0_1 l0_1.length c0_1] 25 (0,0)) (by (with_reducible repeat (first | refine blk_drewN ?_ _ | refine blk_drew ?_ | refine blk_alloc ?_ _));exact BK616.out) hb);replace HB:=am (below_step (HB.out) hb);(try clear hb);(try clear hb2);(try clear hk);(try clear hi);(try clear ho0);obtain ⟨hcz121_0,hcz121_1⟩:=cO2 BK616.out;have hfz121_0:=blk_frozen BK616.out 0;have hfz121_1:=blk_frozen BK616.out 1) | ((with_reducible refine ga_callee (f:=17) rfl ?_);refine goesL_ (some 32) rfl rfl Tryz.func17 (by kernel_rfl) rfl #[.agg #[.slice A0_0 l0_0.length c0_0,.slice A0_1 l0_1.length c0_1]] rfl (by (try simp only [List.map_toArray,List.map_cons,List.map_nil]);first | done | rfl | (simp only [List.length_drop,List.length_take];rfl)) ?_;(with_reducible refine (q8_Net.calls kj2 _ _ l0_0 _ _ l0_1 false _ ?side1 ?side2 ?side3 ?side4 A16.out).mono ?_);(case side1=>exact kC HR0_0.out HB.out);(case side2=>exact HC0_0.out);(case side3=>exact kC HR0_1.out HB.out);(case side4=>exact HC0_1.out);rintro e w122 ⟨rfl,hb⟩;refine ⟨_,rfl,?_⟩;replace HO621:=am (Kd.R_below (by (with_reducible repeat (first | apply Kd.R_alloc | apply Kd.R_drewN | apply Kd.R_drew));exact HO621.out) hb);replace HO625:=am (Kd.R_below (by (with_reducible repeat (first | apply Kd.R_alloc | apply Kd.R_drewN | apply Kd.R_drew));exact HO625.out) hb);replace BK616:=am (blk_below (g:=gb616) (o:=.cells #[.slice A0_0 l0_0.length c0_0,.slice A0_1 l0_1.length c0_1] 25 (0,0)) (by (with_reducible repeat (first | refine blk_drewN ?_ _ | refine blk_drew ?_ | refine blk_alloc ?_ _));exact BK616.out) hb);replace HB:=am (below_step (HB.out) hb);(try clear hb);(try clear hb2);(try clear hk);(try clear hi);obtain ⟨Ao123,co123,eo123⟩:=Kd.R_slice HO621.out;subst eo123))
      go_ret
      exact ⟨by first | rfl | (simp [*]<;>rfl),HB.out⟩
     rw [if_pos c89] at H
     have c89b0 : ((t619.length : Int) == 0) = true:=beq_iff_eq.mpr c89
     have c89b1 : ((t619.length : Int) != 0) = false:=bne_eq_false_iff_eq.mpr c89
     clear c89
     by_cases c90 : t626 = 2
     case neg =>
      rw [if_neg c90] at H
      have c90b0 : (t626 == 2) = false:=beq_eq_false_iff_ne.mpr c90
      have c90b1 : (t626 != 2) = true:=bne_iff_ne.mpr c90
      obtain rfl:=Option.some.inj H
      obtain ⟨hcz110_0,hcz110_1⟩:=cO2 BK616.out
      have hfz110_0:=blk_frozen BK616.out 0
      have hfz110_1:=blk_frozen BK616.out 1
      go_wp2_with (first | ((with_reducible refine ga_callee (f:=38) rfl ?_);refine goesL_ (some 23) rfl rfl Tryz.func38 (by kernel_rfl) rfl #[.agg #[.slice A0_0 l0_0.length c0_0,.slice A0_1 l0_1.length c0_1],.slice A1 l1.length c1] rfl (by (try simp only [List.map_toArray,List.map_cons,List.map_nil]);first | done | rfl | (simp only [List.length_drop,List.length_take];rfl)) ?_;(with_reducible refine (ga_Proof.calls kj2 _ _ l0_0 _ _ l0_1 _ _ l1 t619 t622 _ ?side1 ?side2 ?side3 ?side4 ?side5 ?side6 A14.out).mono ?_);(case side1=>exact kC HR0_0.out HB.out);(case side2=>exact HC0_0.out);(case side3=>exact kC HR0_1.out HB.out);(case side4=>exact HC0_1.out);(case side5=>exact kC HR1.out HB.out);(case side6=>exact HC1.out);rintro e w111 ⟨v620,rfl,ho0,hb⟩;refine ⟨_,rfl,?_⟩;have HO621:=am (Kd.R_lower ho0 (below_size (HB.out)));replace BK616:=am (blk_below (g:=gb616) (o:=.cells #[.slice A0_0 l0_0.length c0_0,.slice A0_1 l0_1.length c0_1] 25 (0,0)) (by (with_reducible repeat (first | refine blk_drewN ?_ _ | refine blk_drew ?_ | refine blk_alloc ?_ _));exact BK616.out) hb);replace HB:=am (below_step (HB.out) hb);(try clear hb);(try clear hb2);(try clear hk);(try clear hi);(try clear ho0);obtain ⟨hcz112_0,hcz112_1⟩:=cO2 BK616.out;have hfz112_0:=blk_frozen BK616.out 0;have hfz112_1:=blk_frozen BK616.out 1) | ((with_reducible refine ga_callee (f:=39) rfl ?_);refine goesL_ (some 28) rfl rfl Tryz.func39 (by kernel_rfl) rfl #[.agg #[.slice A0_0 l0_0.length c0_0,.slice A0_1 l0_1.length c0_1]] rfl (by (try simp only [List.map_toArray,List.map_cons,List.map_nil]);first | done | rfl | (simp only [List.length_drop,List.length_take];rfl)) ?_;(with_reducible refine (ga_Vital.calls kj2 _ _ l0_0 _ _ l0_1 t623 t626 _ ?side1 ?side2 ?side3 ?side4 A15.out).mono ?_);(case side1=>exact kC HR0_0.out HB.out);(case side2=>exact HC0_0.out);(case side3=>exact kC HR0_1.out HB.out);(case side4=>exact HC0_1.out);rintro e w113 ⟨v624,rfl,ho0,hb⟩;refine ⟨_,rfl,?_⟩;have HO625:=am (Kd.R_lower (Kd.R_new' ho0 (Kd.R_lt (by (with_reducible repeat (first | apply Kd.R_alloc | apply Kd.R_drewN | apply Kd.R_drew));exact HO621.out))) (below_size (HB.out)));replace HO621:=am (Kd.R_elder' (by (with_reducible repeat (first | apply Kd.R_alloc | apply Kd.R_drewN | apply Kd.R_drew));exact HO621.out) (Kd.R_base ho0) hb);replace BK616:=am (blk_below (g:=gb616) (o:=.cells #[.slice A0_0 l0_0.length c0_0,.slice A0_1 l0_1.length c0_1] 25 (0,0)) (by (with_reducible repeat (first | refine blk_drewN ?_ _ | refine blk_drew ?_ | refine blk_alloc ?_ _));exact BK616.out) hb);replace HB:=am (below_step (HB.out) hb);(try clear hb);(try clear hb2);(try clear hk);(try clear hi);(try clear ho0);obtain ⟨hcz114_0,hcz114_1⟩:=cO2 BK616.out;have hfz114_0:=blk_frozen BK616.out 0;have hfz114_1:=blk_frozen BK616.out 1) | ((with_reducible refine ga_callee (f:=17) rfl ?_);refine goesL_ (some 32) rfl rfl Tryz.func17 (by kernel_rfl) rfl #[.agg #[.slice A0_0 l0_0.length c0_0,.slice A0_1 l0_1.length c0_1]] rfl (by (try simp only [List.map_toArray,List.map_cons,List.map_nil]);first | done | rfl | (simp only [List.length_drop,List.length_take];rfl)) ?_;(with_reducible refine (q8_Net.calls kj2 _ _ l0_0 _ _ l0_1 false _ ?side1 ?side2 ?side3 ?side4 A16.out).mono ?_);(case side1=>exact kC HR0_0.out HB.out);(case side2=>exact HC0_0.out);(case side3=>exact kC HR0_1.out HB.out);(case side4=>exact HC0_1.out);rintro e w115 ⟨rfl,hb⟩;refine ⟨_,rfl,?_⟩;replace HO621:=am (Kd.R_below (by (with_reducible repeat (first | apply Kd.R_alloc | apply Kd.R_drewN | apply Kd.R_drew));exact HO621.out) hb);replace HO625:=am (Kd.R_below (by (with_reducible repeat (first | apply Kd.R_alloc | apply Kd.R_drewN | apply Kd.R_drew));exact HO625.out) hb);replace BK616:=am (blk_below (g:=gb616) (o:=.cells #[.slice A0_0 l0_0.length c0_0,.slice A0_1 l0_1.length c0_1] 25 (0,0)) (by (with_reducible repeat (first | refine blk_drewN ?_ _ | refine blk_drew ?_ | refine blk_alloc ?_ _));exact BK616.out) hb);replace HB:=am (below_step (HB.out) hb);(try clear hb);(try clear hb2);(try clear hk);(try clear hi);obtain ⟨Ao116,co116,eo116⟩:=Kd.R_slice HO621.out;subst eo116))
      go_ret
      exact ⟨by first | rfl | (simp [*]<;>rfl),HB.out⟩
     rw [if_pos c90] at H
     have c90b0 : (t626 == 2) = true:=beq_iff_eq.mpr c90
     have c90b1 : (t626 != 2) = false:=bne_eq_false_iff_eq.mpr c90
     clear c90
     by_cases c91 : (t623.length : Int) = 0
     case neg =>
      rw [if_neg c91] at H
      have c91b0 : ((t623.length : Int) == 0) = false:=beq_eq_false_iff_ne.mpr c91
      have c91b1 : ((t623.length : Int) != 0) = true:=bne_iff_ne.mpr c91
      have c91b2 : ¬ (t623 = []):=fun h_=>c91 (by rw [h_];rfl)
      obtain rfl:=Option.some.inj H
      obtain ⟨hcz102_0,hcz102_1⟩:=cO2 BK616.out
      have hfz102_0:=blk_frozen BK616.out 0
      have hfz102_1:=blk_frozen BK616.out 1
      go_wp2_with (first | ((with_reducible refine ga_callee (f:=38) rfl ?_);refine goesL_ (some 23) rfl rfl Tryz.func38 (by kernel_rfl) rfl #[.agg #[.slice A0_0 l0_0.length c0_0,.slice A0_1 l0_1.length c0_1],.slice A1 l1.length c1] rfl (by (try simp only [List.map_toArray,List.map_cons,List.map_nil]);first | done | rfl | (simp only [List.length_drop,List.length_take];rfl)) ?_;(with_reducible refine (ga_Proof.calls kj2 _ _ l0_0 _ _ l0_1 _ _ l1 t619 t622 _ ?side1 ?side2 ?side3 ?side4 ?side5 ?side6 A14.out).mono ?_);(case side1=>exact kC HR0_0.out HB.out);(case side2=>exact HC0_0.out);(case side3=>exact kC HR0_1.out HB.out);(case side4=>exact HC0_1.out);(case side5=>exact kC HR1.out HB.out);(case side6=>exact HC1.out);rintro e w103 ⟨v620,rfl,ho0,hb⟩;refine ⟨_,rfl,?_⟩;have HO621:=am (Kd.R_lower ho0 (below_size (HB.out)));replace BK616:=am (blk_below (g:=gb616) (o:=.cells #[.slice A0_0 l0_0.length c0_0,.slice A0_1 l0_1.length c0_1] 25 (0,0)) (by (with_reducible repeat (first | refine blk_drewN ?_ _ | refine blk_drew ?_ | refine blk_alloc ?_ _));exact BK616.out) hb);replace HB:=am (below_step (HB.out) hb);(try clear hb);(try clear hb2);(try clear hk);(try clear hi);(try clear ho0);obtain ⟨hcz104_0,hcz104_1⟩:=cO2 BK616.out;have hfz104_0:=blk_frozen BK616.out 0;have hfz104_1:=blk_frozen BK616.out 1) | ((with_reducible refine ga_callee (f:=39) rfl ?_);refine goesL_ (some 28) rfl rfl Tryz.func39 (by kernel_rfl) rfl #[.agg #[.slice A0_0 l0_0.length c0_0,.slice A0_1 l0_1.length c0_1]] rfl (by (try simp only [List.map_toArray,List.map_cons,List.map_nil]);first | done | rfl | (simp only [List.length_drop,List.length_take];rfl)) ?_;(with_reducible refine (ga_Vital.calls kj2 _ _ l0_0 _ _ l0_1 t623 t626 _ ?side1 ?side2 ?side3 ?side4 A15.out).mono ?_);(case side1=>exact kC HR0_0.out HB.out);(case side2=>exact HC0_0.out);(case side3=>exact kC HR0_1.out HB.out);(case side4=>exact HC0_1.out);rintro e w105 ⟨v624,rfl,ho0,hb⟩;refine ⟨_,rfl,?_⟩;have HO625:=am (Kd.R_lower (Kd.R_new' ho0 (Kd.R_lt (by (with_reducible repeat (first | apply Kd.R_alloc | apply Kd.R_drewN | apply Kd.R_drew));exact HO621.out))) (below_size (HB.out)));replace HO621:=am (Kd.R_elder' (by (with_reducible repeat (first | apply Kd.R_alloc | apply Kd.R_drewN | apply Kd.R_drew));exact HO621.out) (Kd.R_base ho0) hb);replace BK616:=am (blk_below (g:=gb616) (o:=.cells #[.slice A0_0 l0_0.length c0_0,.slice A0_1 l0_1.length c0_1] 25 (0,0)) (by (with_reducible repeat (first | refine blk_drewN ?_ _ | refine blk_drew ?_ | refine blk_alloc ?_ _));exact BK616.out) hb);replace HB:=am (below_step (HB.out) hb);(try clear hb);(try clear hb2);(try clear hk);(try clear hi);(try clear ho0);obtain ⟨hcz106_0,hcz106_1⟩:=cO2 BK616.out;have hfz106_0:=blk_frozen BK616.out 0;have hfz106_1:=blk_frozen BK616.out 1) | ((with_reducible refine ga_callee (f:=17) rfl ?_);refine goesL_ (some 32) rfl rfl Tryz.func17 (by kernel_rfl) rfl #[.agg #[.slice A0_0 l0_0.length c0_0,.slice A0_1 l0_1.length c0_1]] rfl (by (try simp only [List.map_toArray,List.map_cons,List.map_nil]);first | done | rfl | (simp only [List.length_drop,List.length_take];rfl)) ?_;(with_reducible refine (q8_Net.calls kj2 _ _ l0_0 _ _ l0_1 false _ ?side1 ?side2 ?side3 ?side4 A16.out).mono ?_);(case side1=>exact kC HR0_0.out HB.out);(case side2=>exact HC0_0.out);(case side3=>exact kC HR0_1.out HB.out);(case side4=>exact HC0_1.out);rintro e w107 ⟨rfl,hb⟩;refine ⟨_,rfl,?_⟩;replace HO621:=am (Kd.R_below (by (with_reducible repeat (first | apply Kd.R_alloc | apply Kd.R_drewN | apply Kd.R_drew));exact HO621.out) hb);replace HO625:=am (Kd.R_below (by (with_reducible repeat (first | apply Kd.R_alloc | apply Kd.R_drewN | apply Kd.R_drew));exact HO625.out) hb);replace BK616:=am (blk_below (g:=gb616) (o:=.cells #[.slice A0_0 l0_0.length c0_0,.slice A0_1 l0_1.length c0_1] 25 (0,0)) (by (with_reducible repeat (first | refine blk_drewN ?_ _ | refine blk_drew ?_ | refine blk_alloc ?_ _));exact BK616.out) hb);replace HB:=am (below_step (HB.out) hb);(try clear hb);(try clear hb2);(try clear hk);(try clear hi);obtain ⟨Ao108,co108,eo108⟩:=Kd.R_slice HO621.out;subst eo108;obtain ⟨Ao109,co109,eo109⟩:=Kd.R_slice HO625.out;subst eo109))
      go_ret
      exact ⟨by first | rfl | (simp [*]<;>rfl),HB.out⟩
     rw [if_pos c91] at H
     have c91b0 : ((t623.length : Int) == 0) = true:=beq_iff_eq.mpr c91
     have c91b1 : ((t623.length : Int) != 0) = false:=bne_eq_false_iff_eq.mpr c91
     clear c91
     replace H:=obm H
     obtain ⟨t628,A920,H⟩:=H
     replace H : (some t628) = some r:=H
     have A92:=am A920
     clear A920
     obtain rfl:=Option.some.inj H
     obtain ⟨hcz93_0,hcz93_1⟩:=cO2 BK616.out
     have hfz93_0:=blk_frozen BK616.out 0
     have hfz93_1:=blk_frozen BK616.out 1
     go_wp2_with (first | ((with_reducible refine ga_callee (f:=38) rfl ?_);refine goesL_ (some 23) rfl rfl Tryz.func38 (by kernel_rfl) rfl #[.agg #[.slice A0_0 l0_0.length c0_0,.slice A0_1 l0_1.length c0_1],.slice A1 l1.length c1] rfl (by (try simp only [List.map_toArray,List.map_cons,List.map_nil]);first | done | rfl | (simp only [List.length_drop,List.length_take];rfl)) ?_;(with_reducible refine (ga_Proof.calls kj2 _ _ l0_0 _ _ l0_1 _ _ l1 t619 t622 _ ?side1 ?side2 ?side3 ?side4 ?side5 ?side6 A14.out).mono ?_);(case side1=>exact kC HR0_0.out HB.out);(case side2=>exact HC0_0.out);(case side3=>exact kC HR0_1.out HB.out);(case side4=>exact HC0_1.out);(case side5=>exact kC HR1.out HB.out);(case side6=>exact HC1.out);rintro e w94 ⟨v620,rfl,ho0,hb⟩;refine ⟨_,rfl,?_⟩;have HO621:=am (Kd.R_lower ho0 (below_size (HB.out)));replace BK616:=am (blk_below (g:=gb616) (o:=.cells #[.slice A0_0 l0_0.length c0_0,.slice A0_1 l0_1.length c0_1] 25 (0,0)) (by (with_reducible repeat (first | refine blk_drewN ?_ _ | refine blk_drew ?_ | refine blk_alloc ?_ _));exact BK616.out) hb);replace HB:=am (below_step (HB.out) hb);(try clear hb);(try clear hb2);(try clear hk);(try clear hi);(try clear ho0);obtain ⟨hcz95_0,hcz95_1⟩:=cO2 BK616.out;have hfz95_0:=blk_frozen BK616.out 0;have hfz95_1:=blk_frozen BK616.out 1) | ((with_reducible refine ga_callee (f:=39) rfl ?_);refine goesL_ (some 28) rfl rfl Tryz.func39 (by kernel_rfl) rfl #[.agg #[.slice A0_0 l0_0.length c0_0,.slice A0_1 l0_1.length c0_1]] rfl (by (try simp only [List.map_toArray,List.map_cons,List.map_nil]);first | done | rfl | (simp only [List.length_drop,List.length_take];rfl)) ?_;(with_reducible refine (ga_Vital.calls kj2 _ _ l0_0 _ _ l0_1 t623 t626 _ ?side1 ?side2 ?side3 ?side4 A15.out).mono ?_);(case side1=>exact kC HR0_0.out HB.out);(case side2=>exact HC0_0.out);(case side3=>exact kC HR0_1.out HB.out);(case side4=>exact HC0_1.out);rintro e w96 ⟨v624,rfl,ho0,hb⟩;refine ⟨_,rfl,?_⟩;have HO625:=am (Kd.R_lower (Kd.R_new' ho0 (Kd.R_lt (by (with_reducible repeat (first | apply Kd.R_alloc | apply Kd.R_drewN | apply Kd.R_drew));exact HO621.out))) (below_size (HB.out)));replace HO621:=am (Kd.R_elder' (by (with_reducible repeat (first | apply Kd.R_alloc | apply Kd.R_drewN | apply Kd.R_drew));exact HO621.out) (Kd.R_base ho0) hb);replace BK616:=am (blk_below (g:=gb616) (o:=.cells #[.slice A0_0 l0_0.length c0_0,.slice A0_1 l0_1.length c0_1] 25 (0,0)) (by (with_reducible repeat (first | refine blk_drewN ?_ _ | refine blk_drew ?_ | refine blk_alloc ?_ _));exact BK616.out) hb);replace HB:=am (below_step (HB.out) hb);(try clear hb);(try clear hb2);(try clear hk);(try clear hi);(try clear ho0);obtain ⟨hcz97_0,hcz97_1⟩:=cO2 BK616.out;have hfz97_0:=blk_frozen BK616.out 0;have hfz97_1:=blk_frozen BK616.out 1) | ((with_reducible refine ga_callee (f:=17) rfl ?_);refine goesL_ (some 32) rfl rfl Tryz.func17 (by kernel_rfl) rfl #[.agg #[.slice A0_0 l0_0.length c0_0,.slice A0_1 l0_1.length c0_1]] rfl (by (try simp only [List.map_toArray,List.map_cons,List.map_nil]);first | done | rfl | (simp only [List.length_drop,List.length_take];rfl)) ?_;(with_reducible refine (q8_Net.calls kj2 _ _ l0_0 _ _ l0_1 false _ ?side1 ?side2 ?side3 ?side4 A16.out).mono ?_);(case side1=>exact kC HR0_0.out HB.out);(case side2=>exact HC0_0.out);(case side3=>exact kC HR0_1.out HB.out);(case side4=>exact HC0_1.out);rintro e w98 ⟨rfl,hb⟩;refine ⟨_,rfl,?_⟩;replace HO621:=am (Kd.R_below (by (with_reducible repeat (first | apply Kd.R_alloc | apply Kd.R_drewN | apply Kd.R_drew));exact HO621.out) hb);replace HO625:=am (Kd.R_below (by (with_reducible repeat (first | apply Kd.R_alloc | apply Kd.R_drewN | apply Kd.R_drew));exact HO625.out) hb);replace BK616:=am (blk_below (g:=gb616) (o:=.cells #[.slice A0_0 l0_0.length c0_0,.slice A0_1 l0_1.length c0_1] 25 (0,0)) (by (with_reducible repeat (first | refine blk_drewN ?_ _ | refine blk_drew ?_ | refine blk_alloc ?_ _));exact BK616.out) hb);replace HB:=am (below_step (HB.out) hb);(try clear hb);(try clear hb2);(try clear hk);(try clear hi);obtain ⟨Ao99,co99,eo99⟩:=Kd.R_slice HO621.out;subst eo99;obtain ⟨Ao100,co100,eo100⟩:=Kd.R_slice HO625.out;subst eo100) | (go_at_call 15;(with_reducible refine (l8_known.calls  t628 _ A92.out).mono ?_);rintro e w101 ⟨rfl,hb⟩;replace HO621:=am (Kd.R_below (by (with_reducible repeat (first | apply Kd.R_alloc | apply Kd.R_drewN | apply Kd.R_drew));exact HO621.out) hb);replace HO625:=am (Kd.R_below (by (with_reducible repeat (first | apply Kd.R_alloc | apply Kd.R_drewN | apply Kd.R_drew));exact HO625.out) hb);replace BK616:=am (blk_below (g:=gb616) (o:=.cells #[.slice A0_0 l0_0.length c0_0,.slice A0_1 l0_1.length c0_1] 25 (0,0)) (by (with_reducible repeat (first | refine blk_drewN ?_ _ | refine blk_drew ?_ | refine blk_alloc ?_ _));exact BK616.out) hb);replace HB:=am (below_step (HB.out) hb);(try clear hb);(try clear hb2);(try clear hk);(try clear hi)))
     go_ret
     exact ⟨by first | rfl | (simp [*]<;>rfl),HB.out⟩
    subst c17
    replace H : (if t626 = 0 then ((q8_Vital.f kj2 l0_0 l0_1).bind fun t629=>((q8_Same.f kj2 t623 t629).bind fun t632=>(l8_GateProofs.j1 kj2 l1 t619 t622 (!t632) l0_0 l0_1))) else (l8_GateProofs.j1 kj2 l1 t619 t622 true l0_0 l0_1)) = some r:=by rw [if_pos rfl] at H;exact H
    have HC18:=am H
    clear H
    obtain ⟨hcz19_0,hcz19_1⟩:=cO2 BK616.out
    have hfz19_0:=blk_frozen BK616.out 0
    have hfz19_1:=blk_frozen BK616.out 1
    go_upto_region 7 with (first | ((with_reducible refine ga_callee (f:=38) rfl ?_);refine goesL_ (some 23) rfl rfl Tryz.func38 (by kernel_rfl) rfl #[.agg #[.slice A0_0 l0_0.length c0_0,.slice A0_1 l0_1.length c0_1],.slice A1 l1.length c1] rfl (by (try simp only [List.map_toArray,List.map_cons,List.map_nil]);first | done | rfl | (simp only [List.length_drop,List.length_take];rfl)) ?_;(with_reducible refine (ga_Proof.calls kj2 _ _ l0_0 _ _ l0_1 _ _ l1 t619 t622 _ ?side1 ?side2 ?side3 ?side4 ?side5 ?side6 A14.out).mono ?_);(case side1=>exact kC HR0_0.out HB.out);(case side2=>exact HC0_0.out);(case side3=>exact kC HR0_1.out HB.out);(case side4=>exact HC0_1.out);(case side5=>exact kC HR1.out HB.out);(case side6=>exact HC1.out);rintro e w20 ⟨v620,rfl,ho0,hb⟩;refine ⟨_,rfl,?_⟩;have HO621:=am (Kd.R_lower ho0 (below_size (HB.out)));replace BK616:=am (blk_below (g:=gb616) (o:=.cells #[.slice A0_0 l0_0.length c0_0,.slice A0_1 l0_1.length c0_1] 25 (0,0)) (by (with_reducible repeat (first | refine blk_drewN ?_ _ | refine blk_drew ?_ | refine blk_alloc ?_ _));exact BK616.out) hb);replace HB:=am (below_step (HB.out) hb);(try clear hb);(try clear hb2);(try clear hk);(try clear hi);(try clear ho0);obtain ⟨hcz21_0,hcz21_1⟩:=cO2 BK616.out;have hfz21_0:=blk_frozen BK616.out 0;have hfz21_1:=blk_frozen BK616.out 1) | ((with_reducible refine ga_callee (f:=39) rfl ?_);refine goesL_ (some 28) rfl rfl Tryz.func39 (by kernel_rfl) rfl #[.agg #[.slice A0_0 l0_0.length c0_0,.slice A0_1 l0_1.length c0_1]] rfl (by (try simp only [List.map_toArray,List.map_cons,List.map_nil]);first | done | rfl | (simp only [List.length_drop,List.length_take];rfl)) ?_;(with_reducible refine (ga_Vital.calls kj2 _ _ l0_0 _ _ l0_1 t623 t626 _ ?side1 ?side2 ?side3 ?side4 A15.out).mono ?_);(case side1=>exact kC HR0_0.out HB.out);(case side2=>exact HC0_0.out);(case side3=>exact kC HR0_1.out HB.out);(case side4=>exact HC0_1.out);rintro e w22 ⟨v624,rfl,ho0,hb⟩;refine ⟨_,rfl,?_⟩;have HO625:=am (Kd.R_lower (Kd.R_new' ho0 (Kd.R_lt (by (with_reducible repeat (first | apply Kd.R_alloc | apply Kd.R_drewN | apply Kd.R_drew));exact HO621.out))) (below_size (HB.out)));replace HO621:=am (Kd.R_elder' (by (with_reducible repeat (first | apply Kd.R_alloc | apply Kd.R_drewN | apply Kd.R_drew));exact HO621.out) (Kd.R_base ho0) hb);replace BK616:=am (blk_below (g:=gb616) (o:=.cells #[.slice A0_0 l0_0.length c0_0,.slice A0_1 l0_1.length c0_1] 25 (0,0)) (by (with_reducible repeat (first | refine blk_drewN ?_ _ | refine blk_drew ?_ | refine blk_alloc ?_ _));exact BK616.out) hb);replace HB:=am (below_step (HB.out) hb);(try clear hb);(try clear hb2);(try clear hk);(try clear hi);(try clear ho0);obtain ⟨hcz23_0,hcz23_1⟩:=cO2 BK616.out;have hfz23_0:=blk_frozen BK616.out 0;have hfz23_1:=blk_frozen BK616.out 1) | ((with_reducible refine ga_callee (f:=17) rfl ?_);refine goesL_ (some 32) rfl rfl Tryz.func17 (by kernel_rfl) rfl #[.agg #[.slice A0_0 l0_0.length c0_0,.slice A0_1 l0_1.length c0_1]] rfl (by (try simp only [List.map_toArray,List.map_cons,List.map_nil]);first | done | rfl | (simp only [List.length_drop,List.length_take];rfl)) ?_;(with_reducible refine (q8_Net.calls kj2 _ _ l0_0 _ _ l0_1 true _ ?side1 ?side2 ?side3 ?side4 A16.out).mono ?_);(case side1=>exact kC HR0_0.out HB.out);(case side2=>exact HC0_0.out);(case side3=>exact kC HR0_1.out HB.out);(case side4=>exact HC0_1.out);rintro e w24 ⟨rfl,hb⟩;refine ⟨_,rfl,?_⟩;replace HO621:=am (Kd.R_below (by (with_reducible repeat (first | apply Kd.R_alloc | apply Kd.R_drewN | apply Kd.R_drew));exact HO621.out) hb);replace HO625:=am (Kd.R_below (by (with_reducible repeat (first | apply Kd.R_alloc | apply Kd.R_drewN | apply Kd.R_drew));exact HO625.out) hb);replace BK616:=am (blk_below (g:=gb616) (o:=.cells #[.slice A0_0 l0_0.length c0_0,.slice A0_1 l0_1.length c0_1] 25 (0,0)) (by (with_reducible repeat (first | refine blk_drewN ?_ _ | refine blk_drew ?_ | refine blk_alloc ?_ _));exact BK616.out) hb);replace HB:=am (below_step (HB.out) hb);(try clear hb);(try clear hb2);(try clear hk);(try clear hi)))
    (try simp only [Act.put,List.setIfInBounds_toArray,List.set_cons_zero,List.set_cons_succ])
    go_cut [61] (fun v61 wc=>∃ (kq : Nat) (x61_17 : Bool),v61 = .bool x61_17∧Aside0 (l8_GateProofs.j1 kq l1 t619 t622 x61_17 l0_0 l0_1 = some r)∧Aside0 (kq≤kj2)∧Aside0 (Kd.R (Kd.int .i64) 3 wc w.heap.size (fun _=>True) v620 t619)∧Aside0 (wc.heap[gb616]? = some (.cells #[(.slice A0_0 l0_0.length c0_0),(.slice A0_1 l0_1.length c0_1)] 25 (0,0)))∧Aside0 (Below w.heap.size w wc))
    case first =>
     have H:=HC18.out
     clear HC18
     by_cases c25 : t626 = 0
     case neg =>
      rw [if_neg c25] at H
      have c25b0 : (t626 == 0) = false:=beq_eq_false_iff_ne.mpr c25
      have c25b1 : (t626 != 0) = true:=bne_iff_ne.mpr c25
      (first | rw [c25b0] | (simp only [i64_w,i32_w];rw [c25b0]) | skip)
      replace H':=am H
      go_wp2
      go_meet
      case rel=>exact ⟨_,(true),(by first | rfl | (simp;done) | (simp [*];done)),H',⟨by have:=HJ2.out;first | omega | exact Nat.le_refl _⟩,⟨by (with_reducible repeat (first | apply Kd.R_alloc | apply Kd.R_drewN | apply Kd.R_drew));exact Kd.R_mono HO621.out (fun _ hk=>trivial)⟩,⟨by (with_reducible repeat (first | refine blk_drewN ?_ _ | refine blk_drew ?_ | refine blk_alloc ?_ _));exact BK616.out⟩,⟨HB.out⟩⟩
     rw [if_pos c25] at H
     have c25b0 : (t626 == 0) = true:=beq_iff_eq.mpr c25
     have c25b1 : (t626 != 0) = false:=bne_eq_false_iff_eq.mpr c25
     clear c25
     (first | rw [c25b0] | (simp only [i64_w,i32_w];rw [c25b0]) | skip)
     replace H:=obm H
     obtain ⟨t629,A260,H⟩:=H
     replace H : ((q8_Same.f kj2 t623 t629).bind fun t632=>(l8_GateProofs.j1 kj2 l1 t619 t622 (!t632) l0_0 l0_1)) = some r:=H
     have A26:=am A260
     clear A260
     replace H:=obm H
     obtain ⟨t632,A270,H⟩:=H
     replace H : (l8_GateProofs.j1 kj2 l1 t619 t622 (!t632) l0_0 l0_1) = some r:=H
     have A27:=am A270
     clear A270
     replace H':=am H
     obtain ⟨hcz28_0,hcz28_1⟩:=cO2 BK616.out
     have hfz28_0:=blk_frozen BK616.out 0
     have hfz28_1:=blk_frozen BK616.out 1
     go_wp2_with (first | (go_at_call 40;(with_reducible refine (q8_Vital.calls kj2 _ _ l0_0 _ _ l0_1 t629 _ ?side1 ?side2 ?side3 ?side4 A26.out).mono ?_);(case side1=>exact kC HR0_0.out HB.out);(case side2=>exact HC0_0.out);(case side3=>exact kC HR0_1.out HB.out);(case side4=>exact HC0_1.out);rintro e w29 ⟨v630,rfl,ho0,hb⟩;have HO631:=am (Kd.R_lower (Kd.R_new' (Kd.R_new' ho0 (Kd.R_lt (by (with_reducible repeat (first | apply Kd.R_alloc | apply Kd.R_drewN | apply Kd.R_drew));exact HO621.out))) (Kd.R_lt (by (with_reducible repeat (first | apply Kd.R_alloc | apply Kd.R_drewN | apply Kd.R_drew));exact HO625.out))) (below_size (HB.out)));replace HO621:=am (Kd.R_elder' (by (with_reducible repeat (first | apply Kd.R_alloc | apply Kd.R_drewN | apply Kd.R_drew));exact HO621.out) (Kd.R_base ho0) hb);replace HO625:=am (Kd.R_elder' (by (with_reducible repeat (first | apply Kd.R_alloc | apply Kd.R_drewN | apply Kd.R_drew));exact HO625.out) (Kd.R_base ho0) hb);replace BK616:=am (blk_below (g:=gb616) (o:=.cells #[.slice A0_0 l0_0.length c0_0,.slice A0_1 l0_1.length c0_1] 25 (0,0)) (by (with_reducible repeat (first | refine blk_drewN ?_ _ | refine blk_drew ?_ | refine blk_alloc ?_ _));exact BK616.out) hb);replace HB:=am (below_step (HB.out) hb);(try clear hb);(try clear hb2);(try clear hk);(try clear hi);(try clear ho0);obtain ⟨Ao30,co30,eo30⟩:=Kd.R_slice HO625.out;subst eo30;obtain ⟨Ao31,co31,eo31⟩:=Kd.R_slice HO631.out;subst eo31) | (go_at_call 25;(with_reducible refine (q8_Same.calls kj2 _ _ t623 _ _ t629 t632 _ ?side1 ?side2 ?side3 ?side4 A27.out).mono ?_);(case side1=>repeat (first | exact (Kd.R_reads' HO625.out).2.2 | (with_reducible refine Kd.C_alloc ?_ _) | (with_reducible refine Kd.C_drewN ?_ _) | (with_reducible refine Kd.C_drew ?_)));(case side2=>exact (Kd.R_reads' HO625.out).2.1);(case side3=>repeat (first | exact (Kd.R_reads' HO631.out).2.2 | (with_reducible refine Kd.C_alloc ?_ _) | (with_reducible refine Kd.C_drewN ?_ _) | (with_reducible refine Kd.C_drew ?_)));(case side4=>exact (Kd.R_reads' HO631.out).2.1);rintro e w' ⟨rfl,⟨nd,rfl⟩⟩))
     go_meet
     case rel=>exact ⟨_,(!t632),(by first | rfl | (simp;done) | (simp [*];done)),H',⟨by have:=HJ2.out;first | omega | exact Nat.le_refl _⟩,⟨by (with_reducible repeat (first | apply Kd.R_alloc | apply Kd.R_drewN | apply Kd.R_drew));exact Kd.R_mono HO621.out (fun _ hk=>trivial)⟩,⟨by (with_reducible repeat (first | refine blk_drewN ?_ _ | refine blk_drew ?_ | refine blk_alloc ?_ _));exact BK616.out⟩,⟨pw_below_drewN HB.out _⟩⟩
    case rest =>
     clear HC18
     obtain ⟨kq,x61_17,rfl,HA,HJ17,HO_5,BK616,HB⟩:=hcut
     cases kq with
     | zero=>exact absurd HA.out (by simp [l8_GateProofs.j1])
     | succ kj17 =>
      have H:=HA.out
      clear HA
      simp only [l8_GateProofs.j1] at H
      by_cases c32 : x61_17 = true
      ·subst c32
       replace H : (some false) = some r:=by rw [if_pos rfl] at H;exact H
       obtain rfl:=Option.some.inj H
       go_wp2
       go_ret
       exact ⟨by first | rfl | (simp [*]<;>rfl),HB.out⟩
      ·replace c32:=Bool.eq_false_iff.mpr c32
       subst c32
       replace H : ((q8_Some.f kj17 l0_0 l0_1 l1).bind fun t633=>(if t633 = true then ((q8_Proof.f kj17 l0_0 l0_1 l1).bind fun bt635=>(if bt635.2 = true then (if t622 = 0 then ((q8_Same.f kj17 t619 bt635.1).bind fun t639=>(if t639 = true then ((l8_known.f).bind fun t640=>(some t640)) else (some false))) else (some false)) else (if t622 = 5 then (if (t619.length : Int) = 0 then ((l8_known.f).bind fun t641=>(some t641)) else (some false)) else (some false)))) else (if t622 = 2 then (if (t619.length : Int) = 0 then ((l8_known.f).bind fun t634=>(some t634)) else (some false)) else (some false)))) = some r:=by rw [if_neg (show ¬ (false = true) by decide)] at H;exact H
       replace H:=obm H
       obtain ⟨t633,A330,H⟩:=H
       replace H : (if t633 = true then ((q8_Proof.f kj17 l0_0 l0_1 l1).bind fun bt635=>(if bt635.2 = true then (if t622 = 0 then ((q8_Same.f kj17 t619 bt635.1).bind fun t639=>(if t639 = true then ((l8_known.f).bind fun t640=>(some t640)) else (some false))) else (some false)) else (if t622 = 5 then (if (t619.length : Int) = 0 then ((l8_known.f).bind fun t641=>(some t641)) else (some false)) else (some false)))) else (if t622 = 2 then (if (t619.length : Int) = 0 then ((l8_known.f).bind fun t634=>(some t634)) else (some false)) else (some false))) = some r:=H
       have A33:=am A330
       clear A330
       by_cases c34 : t633 = true
       case neg =>
        replace c34:=Bool.eq_false_iff.mpr c34
        subst c34
        replace H : (if t622 = 2 then (if (t619.length : Int) = 0 then ((l8_known.f).bind fun t634=>(some t634)) else (some false)) else (some false)) = some r:=by rw [if_neg (show ¬ (false = true) by decide)] at H;exact H
        by_cases c76 : t622 = 2
        case neg =>
         rw [if_neg c76] at H
         have c76b0 : (t622 == 2) = false:=beq_eq_false_iff_ne.mpr c76
         have c76b1 : (t622 != 2) = true:=bne_iff_ne.mpr c76
         obtain rfl:=Option.some.inj H
         obtain ⟨hcz86_0,hcz86_1⟩:=cO2 BK616.out
         have hfz86_0:=blk_frozen BK616.out 0
         have hfz86_1:=blk_frozen BK616.out 1
         go_wp2_with (first | ((with_reducible refine ga_callee (f:=18) rfl ?_);refine goesL_ (some 64) rfl rfl Tryz.func18 (by kernel_rfl) rfl #[.agg #[.slice A0_0 l0_0.length c0_0,.slice A0_1 l0_1.length c0_1],.slice A1 l1.length c1] rfl (by (try simp only [List.map_toArray,List.map_cons,List.map_nil]);first | done | rfl | (simp only [List.length_drop,List.length_take];rfl)) ?_;(with_reducible refine (q8_Some.calls kj17 _ _ l0_0 _ _ l0_1 _ _ l1 false _ ?side1 ?side2 ?side3 ?side4 ?side5 ?side6 A33.out).mono ?_);(case side1=>exact kC HR0_0.out HB.out);(case side2=>exact HC0_0.out);(case side3=>exact kC HR0_1.out HB.out);(case side4=>exact HC0_1.out);(case side5=>exact kC HR1.out HB.out);(case side6=>exact HC1.out);rintro e w87 ⟨rfl,hb⟩;refine ⟨_,rfl,?_⟩;replace HO_5:=am (Kd.R_below (by (with_reducible repeat (first | apply Kd.R_alloc | apply Kd.R_drewN | apply Kd.R_drew));exact HO_5.out) hb);replace BK616:=am (blk_below (g:=gb616) (o:=.cells #[.slice A0_0 l0_0.length c0_0,.slice A0_1 l0_1.length c0_1] 25 (0,0)) (by (with_reducible repeat (first | refine blk_drewN ?_ _ | refine blk_drew ?_ | refine blk_alloc ?_ _));exact BK616.out) hb);replace HB:=am (below_step (HB.out) hb);(try clear hb);(try clear hb2);(try clear hk);(try clear hi)))
         go_ret
         exact ⟨by first | rfl | (simp [*]<;>rfl),HB.out⟩
        rw [if_pos c76] at H
        have c76b0 : (t622 == 2) = true:=beq_iff_eq.mpr c76
        have c76b1 : (t622 != 2) = false:=bne_eq_false_iff_eq.mpr c76
        clear c76
        by_cases c77 : (t619.length : Int) = 0
        case neg =>
         rw [if_neg c77] at H
         have c77b0 : ((t619.length : Int) == 0) = false:=beq_eq_false_iff_ne.mpr c77
         have c77b1 : ((t619.length : Int) != 0) = true:=bne_iff_ne.mpr c77
         have c77b2 : ¬ (t619 = []):=fun h_=>c77 (by rw [h_];rfl)
         obtain rfl:=Option.some.inj H
         obtain ⟨hcz83_0,hcz83_1⟩:=cO2 BK616.out
         have hfz83_0:=blk_frozen BK616.out 0
         have hfz83_1:=blk_frozen BK616.out 1
         go_wp2_with (first | ((with_reducible refine ga_callee (f:=18) rfl ?_);refine goesL_ (some 64) rfl rfl Tryz.func18 (by kernel_rfl) rfl #[.agg #[.slice A0_0 l0_0.length c0_0,.slice A0_1 l0_1.length c0_1],.slice A1 l1.length c1] rfl (by (try simp only [List.map_toArray,List.map_cons,List.map_nil]);first | done | rfl | (simp only [List.length_drop,List.length_take];rfl)) ?_;(with_reducible refine (q8_Some.calls kj17 _ _ l0_0 _ _ l0_1 _ _ l1 false _ ?side1 ?side2 ?side3 ?side4 ?side5 ?side6 A33.out).mono ?_);(case side1=>exact kC HR0_0.out HB.out);(case side2=>exact HC0_0.out);(case side3=>exact kC HR0_1.out HB.out);(case side4=>exact HC0_1.out);(case side5=>exact kC HR1.out HB.out);(case side6=>exact HC1.out);rintro e w84 ⟨rfl,hb⟩;refine ⟨_,rfl,?_⟩;replace HO_5:=am (Kd.R_below (by (with_reducible repeat (first | apply Kd.R_alloc | apply Kd.R_drewN | apply Kd.R_drew));exact HO_5.out) hb);replace BK616:=am (blk_below (g:=gb616) (o:=.cells #[.slice A0_0 l0_0.length c0_0,.slice A0_1 l0_1.length c0_1] 25 (0,0)) (by (with_reducible repeat (first | refine blk_drewN ?_ _ | refine blk_drew ?_ | refine blk_alloc ?_ _));exact BK616.out) hb);replace HB:=am (below_step (HB.out) hb);(try clear hb);(try clear hb2);(try clear hk);(try clear hi);obtain ⟨Ao85,co85,eo85⟩:=Kd.R_slice HO_5.out;subst eo85))
         go_ret
         exact ⟨by first | rfl | (simp [*]<;>rfl),HB.out⟩
        rw [if_pos c77] at H
        have c77b0 : ((t619.length : Int) == 0) = true:=beq_iff_eq.mpr c77
        have c77b1 : ((t619.length : Int) != 0) = false:=bne_eq_false_iff_eq.mpr c77
        clear c77
        replace H:=obm H
        obtain ⟨t634,A780,H⟩:=H
        replace H : (some t634) = some r:=H
        have A78:=am A780
        clear A780
        obtain rfl:=Option.some.inj H
        obtain ⟨hcz79_0,hcz79_1⟩:=cO2 BK616.out
        have hfz79_0:=blk_frozen BK616.out 0
        have hfz79_1:=blk_frozen BK616.out 1
        go_wp2_with (first | ((with_reducible refine ga_callee (f:=18) rfl ?_);refine goesL_ (some 64) rfl rfl Tryz.func18 (by kernel_rfl) rfl #[.agg #[.slice A0_0 l0_0.length c0_0,.slice A0_1 l0_1.length c0_1],.slice A1 l1.length c1] rfl (by (try simp only [List.map_toArray,List.map_cons,List.map_nil]);first | done | rfl | (simp only [List.length_drop,List.length_take];rfl)) ?_;(with_reducible refine (q8_Some.calls kj17 _ _ l0_0 _ _ l0_1 _ _ l1 false _ ?side1 ?side2 ?side3 ?side4 ?side5 ?side6 A33.out).mono ?_);(case side1=>exact kC HR0_0.out HB.out);(case side2=>exact HC0_0.out);(case side3=>exact kC HR0_1.out HB.out);(case side4=>exact HC0_1.out);(case side5=>exact kC HR1.out HB.out);(case side6=>exact HC1.out);rintro e w80 ⟨rfl,hb⟩;refine ⟨_,rfl,?_⟩;replace HO_5:=am (Kd.R_below (by (with_reducible repeat (first | apply Kd.R_alloc | apply Kd.R_drewN | apply Kd.R_drew));exact HO_5.out) hb);replace BK616:=am (blk_below (g:=gb616) (o:=.cells #[.slice A0_0 l0_0.length c0_0,.slice A0_1 l0_1.length c0_1] 25 (0,0)) (by (with_reducible repeat (first | refine blk_drewN ?_ _ | refine blk_drew ?_ | refine blk_alloc ?_ _));exact BK616.out) hb);replace HB:=am (below_step (HB.out) hb);(try clear hb);(try clear hb2);(try clear hk);(try clear hi);obtain ⟨Ao81,co81,eo81⟩:=Kd.R_slice HO_5.out;subst eo81) | (go_at_call 15;(with_reducible refine (l8_known.calls  t634 _ A78.out).mono ?_);rintro e w82 ⟨rfl,hb⟩;replace HO_5:=am (Kd.R_below (by (with_reducible repeat (first | apply Kd.R_alloc | apply Kd.R_drewN | apply Kd.R_drew));exact HO_5.out) hb);replace BK616:=am (blk_below (g:=gb616) (o:=.cells #[.slice A0_0 l0_0.length c0_0,.slice A0_1 l0_1.length c0_1] 25 (0,0)) (by (with_reducible repeat (first | refine blk_drewN ?_ _ | refine blk_drew ?_ | refine blk_alloc ?_ _));exact BK616.out) hb);replace HB:=am (below_step (HB.out) hb);(try clear hb);(try clear hb2);(try clear hk);(try clear hi)))
        go_ret
        exact ⟨by first | rfl | (simp [*]<;>rfl),HB.out⟩
       subst c34
       replace H : ((q8_Proof.f kj17 l0_0 l0_1 l1).bind fun bt635=>(if bt635.2 = true then (if t622 = 0 then ((q8_Same.f kj17 t619 bt635.1).bind fun t639=>(if t639 = true then ((l8_known.f).bind fun t640=>(some t640)) else (some false))) else (some false)) else (if t622 = 5 then (if (t619.length : Int) = 0 then ((l8_known.f).bind fun t641=>(some t641)) else (some false)) else (some false)))) = some r:=by rw [if_pos rfl] at H;exact H
       replace H:=obm H
       obtain ⟨⟨t635,t638⟩,A350,H⟩:=H
       replace H : (if t638 = true then (if t622 = 0 then ((q8_Same.f kj17 t619 t635).bind fun t639=>(if t639 = true then ((l8_known.f).bind fun t640=>(some t640)) else (some false))) else (some false)) else (if t622 = 5 then (if (t619.length : Int) = 0 then ((l8_known.f).bind fun t641=>(some t641)) else (some false)) else (some false))) = some r:=H
       have A35:=am A350
       clear A350
       by_cases c36 : t638 = true
       case neg =>
        replace c36:=Bool.eq_false_iff.mpr c36
        subst c36
        replace H : (if t622 = 5 then (if (t619.length : Int) = 0 then ((l8_known.f).bind fun t641=>(some t641)) else (some false)) else (some false)) = some r:=by rw [if_neg (show ¬ (false = true) by decide)] at H;exact H
        by_cases c58 : t622 = 5
        case neg =>
         rw [if_neg c58] at H
         have c58b0 : (t622 == 5) = false:=beq_eq_false_iff_ne.mpr c58
         have c58b1 : (t622 != 5) = true:=bne_iff_ne.mpr c58
         obtain rfl:=Option.some.inj H
         obtain ⟨hcz72_0,hcz72_1⟩:=cO2 BK616.out
         have hfz72_0:=blk_frozen BK616.out 0
         have hfz72_1:=blk_frozen BK616.out 1
         go_wp2_with (first | ((with_reducible refine ga_callee (f:=18) rfl ?_);refine goesL_ (some 64) rfl rfl Tryz.func18 (by kernel_rfl) rfl #[.agg #[.slice A0_0 l0_0.length c0_0,.slice A0_1 l0_1.length c0_1],.slice A1 l1.length c1] rfl (by (try simp only [List.map_toArray,List.map_cons,List.map_nil]);first | done | rfl | (simp only [List.length_drop,List.length_take];rfl)) ?_;(with_reducible refine (q8_Some.calls kj17 _ _ l0_0 _ _ l0_1 _ _ l1 true _ ?side1 ?side2 ?side3 ?side4 ?side5 ?side6 A33.out).mono ?_);(case side1=>exact kC HR0_0.out HB.out);(case side2=>exact HC0_0.out);(case side3=>exact kC HR0_1.out HB.out);(case side4=>exact HC0_1.out);(case side5=>exact kC HR1.out HB.out);(case side6=>exact HC1.out);rintro e w73 ⟨rfl,hb⟩;refine ⟨_,rfl,?_⟩;replace HO_5:=am (Kd.R_below (by (with_reducible repeat (first | apply Kd.R_alloc | apply Kd.R_drewN | apply Kd.R_drew));exact HO_5.out) hb);replace BK616:=am (blk_below (g:=gb616) (o:=.cells #[.slice A0_0 l0_0.length c0_0,.slice A0_1 l0_1.length c0_1] 25 (0,0)) (by (with_reducible repeat (first | refine blk_drewN ?_ _ | refine blk_drew ?_ | refine blk_alloc ?_ _));exact BK616.out) hb);replace HB:=am (below_step (HB.out) hb);(try clear hb);(try clear hb2);(try clear hk);(try clear hi);obtain ⟨hcz74_0,hcz74_1⟩:=cO2 BK616.out;have hfz74_0:=blk_frozen BK616.out 0;have hfz74_1:=blk_frozen BK616.out 1) | ((with_reducible refine ga_callee (f:=41) rfl ?_);refine goesL_ (some 79) rfl rfl Tryz.func41 (by kernel_rfl) rfl #[.agg #[.slice A0_0 l0_0.length c0_0,.slice A0_1 l0_1.length c0_1],.slice A1 l1.length c1] rfl (by (try simp only [List.map_toArray,List.map_cons,List.map_nil]);first | done | rfl | (simp only [List.length_drop,List.length_take];rfl)) ?_;(with_reducible refine (q8_Proof.calls kj17 _ _ l0_0 _ _ l0_1 _ _ l1 t635 false _ ?side1 ?side2 ?side3 ?side4 ?side5 ?side6 A35.out).mono ?_);(case side1=>exact kC HR0_0.out HB.out);(case side2=>exact HC0_0.out);(case side3=>exact kC HR0_1.out HB.out);(case side4=>exact HC0_1.out);(case side5=>exact kC HR1.out HB.out);(case side6=>exact HC1.out);rintro e w75 ⟨v636,rfl,ho0,hb⟩;refine ⟨_,rfl,?_⟩;have HO637:=am (Kd.V_lower (Kd.V_mono (ok':=fun k_=>some k_ ≠ (v620 : Value).ownBlock∧k_ ≠ gb616) ho0 (fun k_ hk_=>⟨(Kd.fresh' (Kd.R_lt (by (with_reducible repeat (first | apply Kd.R_alloc | apply Kd.R_drewN | apply Kd.R_drew));exact HO_5.out)) k_ hk_),(Kd.freshB (g:=gb616) (o:=.cells #[.slice A0_0 l0_0.length c0_0,.slice A0_1 l0_1.length c0_1] 25 (0,0)) (by (with_reducible repeat (first | refine blk_drewN ?_ _ | refine blk_drew ?_ | refine blk_alloc ?_ _));exact BK616.out) k_ hk_)⟩)) (below_size (HB.out)));replace HO_5:=am (Kd.R_below (by (with_reducible repeat (first | apply Kd.R_alloc | apply Kd.R_drewN | apply Kd.R_drew));exact HO_5.out) hb);replace BK616:=am (blk_below (g:=gb616) (o:=.cells #[.slice A0_0 l0_0.length c0_0,.slice A0_1 l0_1.length c0_1] 25 (0,0)) (by (with_reducible repeat (first | refine blk_drewN ?_ _ | refine blk_drew ?_ | refine blk_alloc ?_ _));exact BK616.out) hb);replace HB:=am (below_step (HB.out) hb);(try clear hb);(try clear hb2);(try clear hk);(try clear hi);(try clear ho0)))
         go_ret
         exact ⟨by first | rfl | (simp [*]<;>rfl),HB.out⟩
        rw [if_pos c58] at H
        have c58b0 : (t622 == 5) = true:=beq_iff_eq.mpr c58
        have c58b1 : (t622 != 5) = false:=bne_eq_false_iff_eq.mpr c58
        clear c58
        by_cases c59 : (t619.length : Int) = 0
        case neg =>
         rw [if_neg c59] at H
         have c59b0 : ((t619.length : Int) == 0) = false:=beq_eq_false_iff_ne.mpr c59
         have c59b1 : ((t619.length : Int) != 0) = true:=bne_iff_ne.mpr c59
         have c59b2 : ¬ (t619 = []):=fun h_=>c59 (by rw [h_];rfl)
         obtain rfl:=Option.some.inj H
         obtain ⟨hcz67_0,hcz67_1⟩:=cO2 BK616.out
         have hfz67_0:=blk_frozen BK616.out 0
         have hfz67_1:=blk_frozen BK616.out 1
         go_wp2_with (first | ((with_reducible refine ga_callee (f:=18) rfl ?_);refine goesL_ (some 64) rfl rfl Tryz.func18 (by kernel_rfl) rfl #[.agg #[.slice A0_0 l0_0.length c0_0,.slice A0_1 l0_1.length c0_1],.slice A1 l1.length c1] rfl (by (try simp only [List.map_toArray,List.map_cons,List.map_nil]);first | done | rfl | (simp only [List.length_drop,List.length_take];rfl)) ?_;(with_reducible refine (q8_Some.calls kj17 _ _ l0_0 _ _ l0_1 _ _ l1 true _ ?side1 ?side2 ?side3 ?side4 ?side5 ?side6 A33.out).mono ?_);(case side1=>exact kC HR0_0.out HB.out);(case side2=>exact HC0_0.out);(case side3=>exact kC HR0_1.out HB.out);(case side4=>exact HC0_1.out);(case side5=>exact kC HR1.out HB.out);(case side6=>exact HC1.out);rintro e w68 ⟨rfl,hb⟩;refine ⟨_,rfl,?_⟩;replace HO_5:=am (Kd.R_below (by (with_reducible repeat (first | apply Kd.R_alloc | apply Kd.R_drewN | apply Kd.R_drew));exact HO_5.out) hb);replace BK616:=am (blk_below (g:=gb616) (o:=.cells #[.slice A0_0 l0_0.length c0_0,.slice A0_1 l0_1.length c0_1] 25 (0,0)) (by (with_reducible repeat (first | refine blk_drewN ?_ _ | refine blk_drew ?_ | refine blk_alloc ?_ _));exact BK616.out) hb);replace HB:=am (below_step (HB.out) hb);(try clear hb);(try clear hb2);(try clear hk);(try clear hi);obtain ⟨hcz69_0,hcz69_1⟩:=cO2 BK616.out;have hfz69_0:=blk_frozen BK616.out 0;have hfz69_1:=blk_frozen BK616.out 1) | ((with_reducible refine ga_callee (f:=41) rfl ?_);refine goesL_ (some 79) rfl rfl Tryz.func41 (by kernel_rfl) rfl #[.agg #[.slice A0_0 l0_0.length c0_0,.slice A0_1 l0_1.length c0_1],.slice A1 l1.length c1] rfl (by (try simp only [List.map_toArray,List.map_cons,List.map_nil]);first | done | rfl | (simp only [List.length_drop,List.length_take];rfl)) ?_;(with_reducible refine (q8_Proof.calls kj17 _ _ l0_0 _ _ l0_1 _ _ l1 t635 false _ ?side1 ?side2 ?side3 ?side4 ?side5 ?side6 A35.out).mono ?_);(case side1=>exact kC HR0_0.out HB.out);(case side2=>exact HC0_0.out);(case side3=>exact kC HR0_1.out HB.out);(case side4=>exact HC0_1.out);(case side5=>exact kC HR1.out HB.out);(case side6=>exact HC1.out);rintro e w70 ⟨v636,rfl,ho0,hb⟩;refine ⟨_,rfl,?_⟩;have HO637:=am (Kd.V_lower (Kd.V_mono (ok':=fun k_=>some k_ ≠ (v620 : Value).ownBlock∧k_ ≠ gb616) ho0 (fun k_ hk_=>⟨(Kd.fresh' (Kd.R_lt (by (with_reducible repeat (first | apply Kd.R_alloc | apply Kd.R_drewN | apply Kd.R_drew));exact HO_5.out)) k_ hk_),(Kd.freshB (g:=gb616) (o:=.cells #[.slice A0_0 l0_0.length c0_0,.slice A0_1 l0_1.length c0_1] 25 (0,0)) (by (with_reducible repeat (first | refine blk_drewN ?_ _ | refine blk_drew ?_ | refine blk_alloc ?_ _));exact BK616.out) k_ hk_)⟩)) (below_size (HB.out)));replace HO_5:=am (Kd.R_below (by (with_reducible repeat (first | apply Kd.R_alloc | apply Kd.R_drewN | apply Kd.R_drew));exact HO_5.out) hb);replace BK616:=am (blk_below (g:=gb616) (o:=.cells #[.slice A0_0 l0_0.length c0_0,.slice A0_1 l0_1.length c0_1] 25 (0,0)) (by (with_reducible repeat (first | refine blk_drewN ?_ _ | refine blk_drew ?_ | refine blk_alloc ?_ _));exact BK616.out) hb);replace HB:=am (below_step (HB.out) hb);(try clear hb);(try clear hb2);(try clear hk);(try clear hi);(try clear ho0);obtain ⟨Ao71,co71,eo71⟩:=Kd.R_slice HO_5.out;subst eo71))
         go_ret
         exact ⟨by first | rfl | (simp [*]<;>rfl),HB.out⟩
        rw [if_pos c59] at H
        have c59b0 : ((t619.length : Int) == 0) = true:=beq_iff_eq.mpr c59
        have c59b1 : ((t619.length : Int) != 0) = false:=bne_eq_false_iff_eq.mpr c59
        clear c59
        replace H:=obm H
        obtain ⟨t641,A600,H⟩:=H
        replace H : (some t641) = some r:=H
        have A60:=am A600
        clear A600
        obtain rfl:=Option.some.inj H
        obtain ⟨hcz61_0,hcz61_1⟩:=cO2 BK616.out
        have hfz61_0:=blk_frozen BK616.out 0
        have hfz61_1:=blk_frozen BK616.out 1
        go_wp2_with (first | ((with_reducible refine ga_callee (f:=18) rfl ?_);refine goesL_ (some 64) rfl rfl Tryz.func18 (by kernel_rfl) rfl #[.agg #[.slice A0_0 l0_0.length c0_0,.slice A0_1 l0_1.length c0_1],.slice A1 l1.length c1] rfl (by (try simp only [List.map_toArray,List.map_cons,List.map_nil]);first | done | rfl | (simp only [List.length_drop,List.length_take];rfl)) ?_;(with_reducible refine (q8_Some.calls kj17 _ _ l0_0 _ _ l0_1 _ _ l1 true _ ?side1 ?side2 ?side3 ?side4 ?side5 ?side6 A33.out).mono ?_);(case side1=>exact kC HR0_0.out HB.out);(case side2=>exact HC0_0.out);(case side3=>exact kC HR0_1.out HB.out);(case side4=>exact HC0_1.out);(case side5=>exact kC HR1.out HB.out);(case side6=>exact HC1.out);rintro e w62 ⟨rfl,hb⟩;refine ⟨_,rfl,?_⟩;replace HO_5:=am (Kd.R_below (by (with_reducible repeat (first | apply Kd.R_alloc | apply Kd.R_drewN | apply Kd.R_drew));exact HO_5.out) hb);replace BK616:=am (blk_below (g:=gb616) (o:=.cells #[.slice A0_0 l0_0.length c0_0,.slice A0_1 l0_1.length c0_1] 25 (0,0)) (by (with_reducible repeat (first | refine blk_drewN ?_ _ | refine blk_drew ?_ | refine blk_alloc ?_ _));exact BK616.out) hb);replace HB:=am (below_step (HB.out) hb);(try clear hb);(try clear hb2);(try clear hk);(try clear hi);obtain ⟨hcz63_0,hcz63_1⟩:=cO2 BK616.out;have hfz63_0:=blk_frozen BK616.out 0;have hfz63_1:=blk_frozen BK616.out 1) | ((with_reducible refine ga_callee (f:=41) rfl ?_);refine goesL_ (some 79) rfl rfl Tryz.func41 (by kernel_rfl) rfl #[.agg #[.slice A0_0 l0_0.length c0_0,.slice A0_1 l0_1.length c0_1],.slice A1 l1.length c1] rfl (by (try simp only [List.map_toArray,List.map_cons,List.map_nil]);first | done | rfl | (simp only [List.length_drop,List.length_take];rfl)) ?_;(with_reducible refine (q8_Proof.calls kj17 _ _ l0_0 _ _ l0_1 _ _ l1 t635 false _ ?side1 ?side2 ?side3 ?side4 ?side5 ?side6 A35.out).mono ?_);(case side1=>exact kC HR0_0.out HB.out);(case side2=>exact HC0_0.out);(case side3=>exact kC HR0_1.out HB.out);(case side4=>exact HC0_1.out);(case side5=>exact kC HR1.out HB.out);(case side6=>exact HC1.out);rintro e w64 ⟨v636,rfl,ho0,hb⟩;refine ⟨_,rfl,?_⟩;have HO637:=am (Kd.V_lower (Kd.V_mono (ok':=fun k_=>some k_ ≠ (v620 : Value).ownBlock∧k_ ≠ gb616) ho0 (fun k_ hk_=>⟨(Kd.fresh' (Kd.R_lt (by (with_reducible repeat (first | apply Kd.R_alloc | apply Kd.R_drewN | apply Kd.R_drew));exact HO_5.out)) k_ hk_),(Kd.freshB (g:=gb616) (o:=.cells #[.slice A0_0 l0_0.length c0_0,.slice A0_1 l0_1.length c0_1] 25 (0,0)) (by (with_reducible repeat (first | refine blk_drewN ?_ _ | refine blk_drew ?_ | refine blk_alloc ?_ _));exact BK616.out) k_ hk_)⟩)) (below_size (HB.out)));replace HO_5:=am (Kd.R_below (by (with_reducible repeat (first | apply Kd.R_alloc | apply Kd.R_drewN | apply Kd.R_drew));exact HO_5.out) hb);replace BK616:=am (blk_below (g:=gb616) (o:=.cells #[.slice A0_0 l0_0.length c0_0,.slice A0_1 l0_1.length c0_1] 25 (0,0)) (by (with_reducible repeat (first | refine blk_drewN ?_ _ | refine blk_drew ?_ | refine blk_alloc ?_ _));exact BK616.out) hb);replace HB:=am (below_step (HB.out) hb);(try clear hb);(try clear hb2);(try clear hk);(try clear hi);(try clear ho0);obtain ⟨Ao65,co65,eo65⟩:=Kd.R_slice HO_5.out;subst eo65) | (go_at_call 15;(with_reducible refine (l8_known.calls  t641 _ A60.out).mono ?_);rintro e w66 ⟨rfl,hb⟩;replace HO_5:=am (Kd.R_below (by (with_reducible repeat (first | apply Kd.R_alloc | apply Kd.R_drewN | apply Kd.R_drew));exact HO_5.out) hb);replace HO637:=am (Kd.V_below (by (with_reducible repeat (first | apply Kd.V_alloc | apply Kd.V_drewN | apply Kd.V_drew));exact HO637.out) hb);replace BK616:=am (blk_below (g:=gb616) (o:=.cells #[.slice A0_0 l0_0.length c0_0,.slice A0_1 l0_1.length c0_1] 25 (0,0)) (by (with_reducible repeat (first | refine blk_drewN ?_ _ | refine blk_drew ?_ | refine blk_alloc ?_ _));exact BK616.out) hb);replace HB:=am (below_step (HB.out) hb);(try clear hb);(try clear hb2);(try clear hk);(try clear hi)))
        go_ret
        exact ⟨by first | rfl | (simp [*]<;>rfl),HB.out⟩
       subst c36
       replace H : (if t622 = 0 then ((q8_Same.f kj17 t619 t635).bind fun t639=>(if t639 = true then ((l8_known.f).bind fun t640=>(some t640)) else (some false))) else (some false)) = some r:=by rw [if_pos rfl] at H;exact H
       by_cases c37 : t622 = 0
       case neg =>
        rw [if_neg c37] at H
        have c37b0 : (t622 == 0) = false:=beq_eq_false_iff_ne.mpr c37
        have c37b1 : (t622 != 0) = true:=bne_iff_ne.mpr c37
        obtain rfl:=Option.some.inj H
        obtain ⟨hcz54_0,hcz54_1⟩:=cO2 BK616.out
        have hfz54_0:=blk_frozen BK616.out 0
        have hfz54_1:=blk_frozen BK616.out 1
        go_wp2_with (first | ((with_reducible refine ga_callee (f:=18) rfl ?_);refine goesL_ (some 64) rfl rfl Tryz.func18 (by kernel_rfl) rfl #[.agg #[.slice A0_0 l0_0.length c0_0,.slice A0_1 l0_1.length c0_1],.slice A1 l1.length c1] rfl (by (try simp only [List.map_toArray,List.map_cons,List.map_nil]);first | done | rfl | (simp only [List.length_drop,List.length_take];rfl)) ?_;(with_reducible refine (q8_Some.calls kj17 _ _ l0_0 _ _ l0_1 _ _ l1 true _ ?side1 ?side2 ?side3 ?side4 ?side5 ?side6 A33.out).mono ?_);(case side1=>exact kC HR0_0.out HB.out);(case side2=>exact HC0_0.out);(case side3=>exact kC HR0_1.out HB.out);(case side4=>exact HC0_1.out);(case side5=>exact kC HR1.out HB.out);(case side6=>exact HC1.out);rintro e w55 ⟨rfl,hb⟩;refine ⟨_,rfl,?_⟩;replace HO_5:=am (Kd.R_below (by (with_reducible repeat (first | apply Kd.R_alloc | apply Kd.R_drewN | apply Kd.R_drew));exact HO_5.out) hb);replace BK616:=am (blk_below (g:=gb616) (o:=.cells #[.slice A0_0 l0_0.length c0_0,.slice A0_1 l0_1.length c0_1] 25 (0,0)) (by (with_reducible repeat (first | refine blk_drewN ?_ _ | refine blk_drew ?_ | refine blk_alloc ?_ _));exact BK616.out) hb);replace HB:=am (below_step (HB.out) hb);(try clear hb);(try clear hb2);(try clear hk);(try clear hi);obtain ⟨hcz56_0,hcz56_1⟩:=cO2 BK616.out;have hfz56_0:=blk_frozen BK616.out 0;have hfz56_1:=blk_frozen BK616.out 1) | ((with_reducible refine ga_callee (f:=41) rfl ?_);refine goesL_ (some 79) rfl rfl Tryz.func41 (by kernel_rfl) rfl #[.agg #[.slice A0_0 l0_0.length c0_0,.slice A0_1 l0_1.length c0_1],.slice A1 l1.length c1] rfl (by (try simp only [List.map_toArray,List.map_cons,List.map_nil]);first | done | rfl | (simp only [List.length_drop,List.length_take];rfl)) ?_;(with_reducible refine (q8_Proof.calls kj17 _ _ l0_0 _ _ l0_1 _ _ l1 t635 true _ ?side1 ?side2 ?side3 ?side4 ?side5 ?side6 A35.out).mono ?_);(case side1=>exact kC HR0_0.out HB.out);(case side2=>exact HC0_0.out);(case side3=>exact kC HR0_1.out HB.out);(case side4=>exact HC0_1.out);(case side5=>exact kC HR1.out HB.out);(case side6=>exact HC1.out);rintro e w57 ⟨v636,rfl,ho0,hb⟩;refine ⟨_,rfl,?_⟩;have HO637:=am (Kd.V_lower (Kd.V_mono (ok':=fun k_=>some k_ ≠ (v620 : Value).ownBlock∧k_ ≠ gb616) ho0 (fun k_ hk_=>⟨(Kd.fresh' (Kd.R_lt (by (with_reducible repeat (first | apply Kd.R_alloc | apply Kd.R_drewN | apply Kd.R_drew));exact HO_5.out)) k_ hk_),(Kd.freshB (g:=gb616) (o:=.cells #[.slice A0_0 l0_0.length c0_0,.slice A0_1 l0_1.length c0_1] 25 (0,0)) (by (with_reducible repeat (first | refine blk_drewN ?_ _ | refine blk_drew ?_ | refine blk_alloc ?_ _));exact BK616.out) k_ hk_)⟩)) (below_size (HB.out)));replace HO_5:=am (Kd.R_below (by (with_reducible repeat (first | apply Kd.R_alloc | apply Kd.R_drewN | apply Kd.R_drew));exact HO_5.out) hb);replace BK616:=am (blk_below (g:=gb616) (o:=.cells #[.slice A0_0 l0_0.length c0_0,.slice A0_1 l0_1.length c0_1] 25 (0,0)) (by (with_reducible repeat (first | refine blk_drewN ?_ _ | refine blk_drew ?_ | refine blk_alloc ?_ _));exact BK616.out) hb);replace HB:=am (below_step (HB.out) hb);(try clear hb);(try clear hb2);(try clear hk);(try clear hi);(try clear ho0)))
        go_ret
        exact ⟨by first | rfl | (simp [*]<;>rfl),HB.out⟩
       rw [if_pos c37] at H
       have c37b0 : (t622 == 0) = true:=beq_iff_eq.mpr c37
       have c37b1 : (t622 != 0) = false:=bne_eq_false_iff_eq.mpr c37
       clear c37
       replace H:=obm H
       obtain ⟨t639,A380,H⟩:=H
       replace H : (if t639 = true then ((l8_known.f).bind fun t640=>(some t640)) else (some false)) = some r:=H
       have A38:=am A380
       clear A380
       by_cases c39 : t639 = true
       case neg =>
        replace c39:=Bool.eq_false_iff.mpr c39
        subst c39
        replace H : (some false) = some r:=by rw [if_neg (show ¬ (false = true) by decide)] at H;exact H
        obtain rfl:=Option.some.inj H
        obtain ⟨hcz48_0,hcz48_1⟩:=cO2 BK616.out
        have hfz48_0:=blk_frozen BK616.out 0
        have hfz48_1:=blk_frozen BK616.out 1
        go_wp2_with (first | ((with_reducible refine ga_callee (f:=18) rfl ?_);refine goesL_ (some 64) rfl rfl Tryz.func18 (by kernel_rfl) rfl #[.agg #[.slice A0_0 l0_0.length c0_0,.slice A0_1 l0_1.length c0_1],.slice A1 l1.length c1] rfl (by (try simp only [List.map_toArray,List.map_cons,List.map_nil]);first | done | rfl | (simp only [List.length_drop,List.length_take];rfl)) ?_;(with_reducible refine (q8_Some.calls kj17 _ _ l0_0 _ _ l0_1 _ _ l1 true _ ?side1 ?side2 ?side3 ?side4 ?side5 ?side6 A33.out).mono ?_);(case side1=>exact kC HR0_0.out HB.out);(case side2=>exact HC0_0.out);(case side3=>exact kC HR0_1.out HB.out);(case side4=>exact HC0_1.out);(case side5=>exact kC HR1.out HB.out);(case side6=>exact HC1.out);rintro e w49 ⟨rfl,hb⟩;refine ⟨_,rfl,?_⟩;replace HO_5:=am (Kd.R_below (by (with_reducible repeat (first | apply Kd.R_alloc | apply Kd.R_drewN | apply Kd.R_drew));exact HO_5.out) hb);replace BK616:=am (blk_below (g:=gb616) (o:=.cells #[.slice A0_0 l0_0.length c0_0,.slice A0_1 l0_1.length c0_1] 25 (0,0)) (by (with_reducible repeat (first | refine blk_drewN ?_ _ | refine blk_drew ?_ | refine blk_alloc ?_ _));exact BK616.out) hb);replace HB:=am (below_step (HB.out) hb);(try clear hb);(try clear hb2);(try clear hk);(try clear hi);obtain ⟨hcz50_0,hcz50_1⟩:=cO2 BK616.out;have hfz50_0:=blk_frozen BK616.out 0;have hfz50_1:=blk_frozen BK616.out 1) | ((with_reducible refine ga_callee (f:=41) rfl ?_);refine goesL_ (some 79) rfl rfl Tryz.func41 (by kernel_rfl) rfl #[.agg #[.slice A0_0 l0_0.length c0_0,.slice A0_1 l0_1.length c0_1],.slice A1 l1.length c1] rfl (by (try simp only [List.map_toArray,List.map_cons,List.map_nil]);first | done | rfl | (simp only [List.length_drop,List.length_take];rfl)) ?_;(with_reducible refine (q8_Proof.calls kj17 _ _ l0_0 _ _ l0_1 _ _ l1 t635 true _ ?side1 ?side2 ?side3 ?side4 ?side5 ?side6 A35.out).mono ?_);(case side1=>exact kC HR0_0.out HB.out);(case side2=>exact HC0_0.out);(case side3=>exact kC HR0_1.out HB.out);(case side4=>exact HC0_1.out);(case side5=>exact kC HR1.out HB.out);(case side6=>exact HC1.out);rintro e w51 ⟨v636,rfl,ho0,hb⟩;refine ⟨_,rfl,?_⟩;have HO637:=am (Kd.V_lower (Kd.V_mono (ok':=fun k_=>some k_ ≠ (v620 : Value).ownBlock∧k_ ≠ gb616) ho0 (fun k_ hk_=>⟨(Kd.fresh' (Kd.R_lt (by (with_reducible repeat (first | apply Kd.R_alloc | apply Kd.R_drewN | apply Kd.R_drew));exact HO_5.out)) k_ hk_),(Kd.freshB (g:=gb616) (o:=.cells #[.slice A0_0 l0_0.length c0_0,.slice A0_1 l0_1.length c0_1] 25 (0,0)) (by (with_reducible repeat (first | refine blk_drewN ?_ _ | refine blk_drew ?_ | refine blk_alloc ?_ _));exact BK616.out) k_ hk_)⟩)) (below_size (HB.out)));replace HO_5:=am (Kd.R_below (by (with_reducible repeat (first | apply Kd.R_alloc | apply Kd.R_drewN | apply Kd.R_drew));exact HO_5.out) hb);replace BK616:=am (blk_below (g:=gb616) (o:=.cells #[.slice A0_0 l0_0.length c0_0,.slice A0_1 l0_1.length c0_1] 25 (0,0)) (by (with_reducible repeat (first | refine blk_drewN ?_ _ | refine blk_drew ?_ | refine blk_alloc ?_ _));exact BK616.out) hb);replace HB:=am (below_step (HB.out) hb);(try clear hb);(try clear hb2);(try clear hk);(try clear hi);(try clear ho0);obtain ⟨Ao52,co52,eo52⟩:=Kd.R_slice HO_5.out;subst eo52;obtain ⟨Ao53,co53,eo53⟩:=Kd.V_slice HO637.out;subst eo53) | (go_at_call 25;(with_reducible refine (q8_Same.calls kj17 _ _ t619 _ _ t635 false _ ?side1 ?side2 ?side3 ?side4 A38.out).mono ?_);(case side1=>repeat (first | exact (Kd.R_reads' HO_5.out).2.2 | (with_reducible refine Kd.C_alloc ?_ _) | (with_reducible refine Kd.C_drewN ?_ _) | (with_reducible refine Kd.C_drew ?_)));(case side2=>exact (Kd.R_reads' HO_5.out).2.1);(case side3=>repeat (first | exact (Kd.V_reads' HO637.out).2.2 | (with_reducible refine Kd.C_alloc ?_ _) | (with_reducible refine Kd.C_drewN ?_ _) | (with_reducible refine Kd.C_drew ?_)));(case side4=>exact (Kd.V_reads' HO637.out).2.1);rintro e w' ⟨rfl,⟨nd,rfl⟩⟩))
        go_ret
        exact ⟨by first | rfl | (simp [*]<;>rfl),pw_below_drewN HB.out _⟩
       subst c39
       replace H : ((l8_known.f).bind fun t640=>(some t640)) = some r:=by rw [if_pos rfl] at H;exact H
       replace H:=obm H
       obtain ⟨t640,A400,H⟩:=H
       replace H : (some t640) = some r:=H
       have A40:=am A400
       clear A400
       obtain rfl:=Option.some.inj H
       obtain ⟨hcz41_0,hcz41_1⟩:=cO2 BK616.out
       have hfz41_0:=blk_frozen BK616.out 0
       have hfz41_1:=blk_frozen BK616.out 1
       go_wp2_with (first | ((with_reducible refine ga_callee (f:=18) rfl ?_);refine goesL_ (some 64) rfl rfl Tryz.func18 (by kernel_rfl) rfl #[.agg #[.slice A0_0 l0_0.length c0_0,.slice A0_1 l0_1.length c0_1],.slice A1 l1.length c1] rfl (by (try simp only [List.map_toArray,List.map_cons,List.map_nil]);first | done | rfl | (simp only [List.length_drop,List.length_take];rfl)) ?_;(with_reducible refine (q8_Some.calls kj17 _ _ l0_0 _ _ l0_1 _ _ l1 true _ ?side1 ?side2 ?side3 ?side4 ?side5 ?side6 A33.out).mono ?_);(case side1=>exact kC HR0_0.out HB.out);(case side2=>exact HC0_0.out);(case side3=>exact kC HR0_1.out HB.out);(case side4=>exact HC0_1.out);(case side5=>exact kC HR1.out HB.out);(case side6=>exact HC1.out);rintro e w42 ⟨rfl,hb⟩;refine ⟨_,rfl,?_⟩;replace HO_5:=am (Kd.R_below (by (with_reducible repeat (first | apply Kd.R_alloc | apply Kd.R_drewN | apply Kd.R_drew));exact HO_5.out) hb);replace BK616:=am (blk_below (g:=gb616) (o:=.cells #[.slice A0_0 l0_0.length c0_0,.slice A0_1 l0_1.length c0_1] 25 (0,0)) (by (with_reducible repeat (first | refine blk_drewN ?_ _ | refine blk_drew ?_ | refine blk_alloc ?_ _));exact BK616.out) hb);replace HB:=am (below_step (HB.out) hb);(try clear hb);(try clear hb2);(try clear hk);(try clear hi);obtain ⟨hcz43_0,hcz43_1⟩:=cO2 BK616.out;have hfz43_0:=blk_frozen BK616.out 0;have hfz43_1:=blk_frozen BK616.out 1) | ((with_reducible refine ga_callee (f:=41) rfl ?_);refine goesL_ (some 79) rfl rfl Tryz.func41 (by kernel_rfl) rfl #[.agg #[.slice A0_0 l0_0.length c0_0,.slice A0_1 l0_1.length c0_1],.slice A1 l1.length c1] rfl (by (try simp only [List.map_toArray,List.map_cons,List.map_nil]);first | done | rfl | (simp only [List.length_drop,List.length_take];rfl)) ?_;(with_reducible refine (q8_Proof.calls kj17 _ _ l0_0 _ _ l0_1 _ _ l1 t635 true _ ?side1 ?side2 ?side3 ?side4 ?side5 ?side6 A35.out).mono ?_);(case side1=>exact kC HR0_0.out HB.out);(case side2=>exact HC0_0.out);(case side3=>exact kC HR0_1.out HB.out);(case side4=>exact HC0_1.out);(case side5=>exact kC HR1.out HB.out);(case side6=>exact HC1.out);rintro e w44 ⟨v636,rfl,ho0,hb⟩;refine ⟨_,rfl,?_⟩;have HO637:=am (Kd.V_lower (Kd.V_mono (ok':=fun k_=>some k_ ≠ (v620 : Value).ownBlock∧k_ ≠ gb616) ho0 (fun k_ hk_=>⟨(Kd.fresh' (Kd.R_lt (by (with_reducible repeat (first | apply Kd.R_alloc | apply Kd.R_drewN | apply Kd.R_drew));exact HO_5.out)) k_ hk_),(Kd.freshB (g:=gb616) (o:=.cells #[.slice A0_0 l0_0.length c0_0,.slice A0_1 l0_1.length c0_1] 25 (0,0)) (by (with_reducible repeat (first | refine blk_drewN ?_ _ | refine blk_drew ?_ | refine blk_alloc ?_ _));exact BK616.out) k_ hk_)⟩)) (below_size (HB.out)));replace HO_5:=am (Kd.R_below (by (with_reducible repeat (first | apply Kd.R_alloc | apply Kd.R_drewN | apply Kd.R_drew));exact HO_5.out) hb);replace BK616:=am (blk_below (g:=gb616) (o:=.cells #[.slice A0_0 l0_0.length c0_0,.slice A0_1 l0_1.length c0_1] 25 (0,0)) (by (with_reducible repeat (first | refine blk_drewN ?_ _ | refine blk_drew ?_ | refine blk_alloc ?_ _));exact BK616.out) hb);replace HB:=am (below_step (HB.out) hb);(try clear hb);(try clear hb2);(try clear hk);(try clear hi);(try clear ho0);obtain ⟨Ao45,co45,eo45⟩:=Kd.R_slice HO_5.out;subst eo45;obtain ⟨Ao46,co46,eo46⟩:=Kd.V_slice HO637.out;subst eo46) | (go_at_call 25;(with_reducible refine (q8_Same.calls kj17 _ _ t619 _ _ t635 true _ ?side1 ?side2 ?side3 ?side4 A38.out).mono ?_);(case side1=>repeat (first | exact (Kd.R_reads' HO_5.out).2.2 | (with_reducible refine Kd.C_alloc ?_ _) | (with_reducible refine Kd.C_drewN ?_ _) | (with_reducible refine Kd.C_drew ?_)));(case side2=>exact (Kd.R_reads' HO_5.out).2.1);(case side3=>repeat (first | exact (Kd.V_reads' HO637.out).2.2 | (with_reducible refine Kd.C_alloc ?_ _) | (with_reducible refine Kd.C_drewN ?_ _) | (with_reducible refine Kd.C_drew ?_)));(case side4=>exact (Kd.V_reads' HO637.out).2.1);rintro e w' ⟨rfl,⟨nd,rfl⟩⟩) | (go_at_call 15;(with_reducible refine (l8_known.calls  t640 _ A40.out).mono ?_);rintro e w47 ⟨rfl,hb⟩;replace HO_5:=am (Kd.R_below (by (with_reducible repeat (first | apply Kd.R_alloc | apply Kd.R_drewN | apply Kd.R_drew));exact HO_5.out) hb);replace HO637:=am (Kd.V_below (by (with_reducible repeat (first | apply Kd.V_alloc | apply Kd.V_drewN | apply Kd.V_drew));exact HO637.out) hb);replace BK616:=am (blk_below (g:=gb616) (o:=.cells #[.slice A0_0 l0_0.length c0_0,.slice A0_1 l0_1.length c0_1] 25 (0,0)) (by (with_reducible repeat (first | refine blk_drewN ?_ _ | refine blk_drew ?_ | refine blk_alloc ?_ _));exact BK616.out) hb);replace HB:=am (below_step (pw_below_drewN HB.out _) hb);(try clear hb);(try clear hb2);(try clear hk);(try clear hi)))
       go_ret
       exact ⟨by first | rfl | (simp [*]<;>rfl),HB.out⟩
end Go.Proofs.YtclkbedbocnpkaaGreatDoor.C
namespace Go.Proofs.YtclkbedbocnpkaaGreatDoor.C
open Go Go.RowKit Go.Proofs.YtclkbedbocnpkaaGreatDoorW.PrintWords Go.Proofs.YtclkbedbocnpkaaGreatDoorW.PrintLast Go.Proofs.YtclkbedbocnpkaaGreatDoorW.PrintMore
set_option linter.unusedVariables false
set_option linter.unusedSimpArgs false
set_option maxHeartbeats 16000000
set_option maxRecDepth 100000
section
variable {pts : List Pt} {ch : List Ch}
def vitalS (pts : List Pt) (ch : List Ch) : List Int:=(gatesL ch).filter fun c=>!canS pts ch [c]
theorem vital_go (h : netS pts ch = true) {G : List Int} (hG : G.length≤1000) : ∀ (rest : List Int) (k i : Nat) (acc : List Int),G.drop i = rest→acc.length≤i→rest.length + 4000 < k→
 ga_Vital.l0 k acc G (G.length : Int) (i : Int) pts ch = some (acc ++ rest.filter (fun c=>!canS pts ch [c]),0)
 | _,0,_,_,_,_,hk=>by omega
 | [],k + 1,i,acc,hd,_,_=>by
  have : G.length≤i:=by have:=congrArg List.length hd;simp at this;omega
  unfold ga_Vital.l0
  rw [if_neg (by omega)];simp
 | x :: rest,k + 1,i,acc,hd,hacc,hk=>by
  obtain ⟨hd2,hlt⟩:=drop_succ hd
  have ih:=fun acc h'=>vital_go h hG rest k (i + 1) acc hd2 h' (by simp at hk;omega)
  unfold ga_Vital.l0
  rw [if_pos (by omega),if_pos (by omega),if_pos (by omega),getD_of_drop hd,can_eq h (by simp) (by omega),wr (by omega) (by omega),show (i : Int) + 1 = ((i + 1 : Nat) : Int) from rfl]
  simp only [Option.bind_some]
  rw [List.filter_cons]
  by_cases hq : canS pts ch [x] = true
  ·rw [if_pos hq,if_neg (by simp [hq]),ih _ (by omega)]
  ·rw [if_neg hq,if_pos (by omega),if_pos (by simp [hq]),ih _ (by simp;omega)];simp
theorem vital_eq (hp : pts.length≤1000) (hc : ch.length≤1000) {k : Nat} (hk : 6000≤k) : ga_Vital.f k pts ch = some (if netS pts ch = true then (vitalS pts ch,0) else ([],2)):=by
 have:=gatesL_len (ch:=ch)
 unfold ga_Vital.f
 rw [isNet_eq hp hc (by omega)]
 simp only [Option.bind_some]
 by_cases h : netS pts ch = true
 ·rw [if_pos h,if_pos h,gates_eq hc (by omega)]
  simp only [Option.bind_some]
  exact vital_go h (by omega) _ k 0 [] rfl (by simp) (by omega)
 ·rw [if_neg h,if_neg h]
theorem rVital_go (h : netS pts ch = true) {G : List Int} (hG : G.length≤1000) (hg : ∀ c ∈ G,gateAt ch c = true) : ∀ (rest : List Int) (k i : Nat) (acc : List Int),G.drop i = rest→acc.length≤i→rest.length + 121000 < k→
 q8_Vital.l0 k acc G (i : Int) pts ch = some (acc ++ rest.filter (fun c=>!canS pts ch [c]))
 | _,0,_,_,_,_,hk=>by omega
 | [],k + 1,i,acc,hd,_,_=>by
  have : G.length≤i:=by have:=congrArg List.length hd;simp at this;omega
  unfold q8_Vital.l0
  rw [if_neg (by omega)];simp
 | x :: rest,k + 1,i,acc,hd,hacc,hk=>by
  obtain ⟨hd2,hlt⟩:=drop_succ hd
  have hx : gateAt ch x = true:=hg x (by
   have : x ∈ G.drop i:=by rw [hd];exact List.mem_cons_self
   exact List.mem_of_mem_drop this)
  have ih:=fun acc h'=>rVital_go h hG hg rest k (i + 1) acc hd2 h' (by simp at hk;omega)
  unfold q8_Vital.l0
  rw [if_pos (by omega),if_pos (by omega),getD_of_drop hd,rCan_eq h (by simp) (by simpa using hx) (by omega),wr (by omega) (by omega),show (i : Int) + 1 = ((i + 1 : Nat) : Int) from rfl]
  simp only [Option.bind_some]
  rw [List.filter_cons]
  by_cases hq : canS pts ch [x] = true
  ·rw [if_pos hq,if_neg (by simp [hq]),ih _ (by omega)]
  ·rw [if_neg hq,if_pos (by omega),if_pos (by simp [hq]),ih _ (by simp;omega)];simp
theorem rVital_eq (h : netS pts ch = true) {k : Nat} (hk : 125000≤k) : q8_Vital.f k pts ch = some (vitalS pts ch):=by
 obtain ⟨h1,h2,h3,h4,_⟩:=netS_iff.1 h
 have:=gatesL_len (ch:=ch)
 unfold q8_Vital.f
 rw [rGates_eq (by omega) (by omega)]
 simp only [Option.bind_some]
 exact rVital_go h (by omega) (fun c hc=>mem_gates.1 hc) _ k 0 [] rfl (by simp) (by omega)
theorem proof_eq (hp : pts.length≤1000) (hc : ch.length≤1000) {l : List Int} (hl : l.length≤20) {k : Nat} (hk : 6000≤k) :
 ga_Proof.f k pts ch l = some (if openS pts ch l = true then (match cutS pts ch (restS ch l) false with | some S=>(S,(0 : Int)) | none=>(([] : List Int),(5 : Int))) else (([] : List Int),(2 : Int))):=by
 obtain ⟨k,rfl⟩ : ∃ m,k = m + 1:=⟨k - 1,by omega⟩
 unfold ga_Proof.f
 rw [isNet_eq hp hc (by omega)]
 simp only [Option.bind_some]
 by_cases hn : netS pts ch = true
 case neg=>rw [if_neg hn,if_neg (by unfold openS;simp [hn])];simp [ga_Proof.j0]
 obtain ⟨h1,h2,h3,h4,_⟩:=netS_iff.1 hn
 rw [if_pos hn,areGates_eq hc (by omega) (by omega)]
 simp only [Option.bind_some,ga_Proof.j0]
 by_cases hs : someS ch l = true
 case neg=>rw [if_pos (by simp [hs]),if_neg (by unfold openS;simp [hs])]
 have:=movedS_len (ch:=ch) (gatesL ch) l
 rw [if_neg (by simp [hs]),if_pos (by unfold openS;simp [hs,hn]),rest_eq (by omega) (by omega) (by omega)]
 simp only [Option.bind_some]
 rw [gCut_eq (by omega) (by omega) (by unfold restS;omega) (by omega),if_pos (by unfold openS restS;rw [hn,movedS_some];rfl)]
 rfl
theorem rProof_eq (h : netS pts ch = true) {l : List Int} (hl : l.length≤20) (hs : someS ch l = true) {k : Nat} (hk : 125000≤k) : q8_Proof.f k pts ch l = some (firstV (cutS pts ch (restS ch l) false)):=by
 obtain ⟨h1,h2,h3,h4,_⟩:=netS_iff.1 h
 have:=movedS_len (ch:=ch) (gatesL ch) l
 unfold q8_Proof.f
 rw [rRest_eq (by omega) (by omega) (someS_iff.1 hs).1 (by omega)]
 simp only [Option.bind_some]
 rw [rCut_eq h (by unfold restS;omega) false (by omega)];rfl
theorem vitalS_len : (vitalS pts ch).length≤ch.length:=Nat.le_trans (List.length_filter_le _ _) gatesL_len
theorem proofs_pure (pts : List Pt) (ch : List Ch) (op : List Int) {k : Nat} (hk : 130000≤k) : l8_GateProofs.f k pts ch op = some true:=by
 obtain ⟨k,rfl⟩ : ∃ m,k = m + 2:=⟨k - 2,by omega⟩
 unfold l8_GateProofs.f
 rw [short_eq]
 simp only [Option.bind_some]
 by_cases hs : shortB pts ch = true
 case neg=>rw [if_neg hs];simp only [l8_GateProofs.j0,known_true];rfl
 obtain ⟨hp,hc⟩:=shortB_iff.1 hs
 rw [if_pos hs]
 by_cases hl : (op.length : Int) > 10
 ·rw [decide_eq_true hl];simp only [l8_GateProofs.j0,known_true];rfl
 rw [decide_eq_false hl]
 simp only [l8_GateProofs.j0]
 rw [if_neg (by simp),proof_eq (by omega) (by omega) (by omega) (by omega),vital_eq (by omega) (by omega) (by omega),rNet_eq (by omega) (by omega) (by omega)]
 simp only [Option.bind_some]
 by_cases hn : netS pts ch = true
 case neg =>
  have ho : openS pts ch op = false:=by unfold openS;simp [hn]
  simp [hn,ho,known_true]
 have:=vitalS_len (pts:=pts) (ch:=ch)
 rw [if_pos hn,if_pos hn,if_pos rfl,rVital_eq hn (by omega)]
 simp only [Option.bind_some]
 rw [same8_self (by omega) (by omega)]
 simp only [Option.bind_some,l8_GateProofs.j1]
 rw [if_neg (by simp),rSome_eq (by omega) (by omega) (by omega)]
 simp only [Option.bind_some]
 by_cases hm : someS ch op = true
 case neg =>
  have ho : openS pts ch op = false:=by unfold openS;simp [hm]
  simp [hm,ho,known_true]
 have ho : openS pts ch op = true:=by unfold openS;simp [hn,hm]
 rw [rProof_eq hn (by omega) hm (by omega)]
 simp only [Option.bind_some,ho,hm,if_true]
 cases hS : cutS pts ch (restS ch op) false with
 | none=>simp [firstV,known_true]
 | some S =>
  have:=(cutS_ok hn hS).1
  simp only [firstV,known_true]
  rw [same8_self (by omega) (by omega)]
  simp
end
end Go.Proofs.YtclkbedbocnpkaaGreatDoor.C

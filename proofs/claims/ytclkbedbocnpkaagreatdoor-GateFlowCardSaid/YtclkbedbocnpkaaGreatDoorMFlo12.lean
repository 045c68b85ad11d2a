/- A part of the proof: the walks of the functions that it reaches. TIGHT. -/
import Derived.Test.YtclkbedbocnpkaaGreatDoorMFlo11
set_option linter.unusedVariables false
set_option linter.unusedSimpArgs false
namespace Go.Proofs.YtclkbedbocnpkaaGreatDoor.C
open Go.RowKit Go.Proofs.YtclkbedbocnpkaaGreatDoorW.PrintWords Go.Proofs.YtclkbedbocnpkaaGreatDoorW.PrintLast Go.Proofs.YtclkbedbocnpkaaGreatDoorW.PrintMore
set_option linter.unusedVariables false
set_option linter.unusedSimpArgs false
set_option maxHeartbeats 16000000
set_option maxRecDepth 100000
mutual
def l8_GateFlow.j0 : Nat→List Int→List Int→List Int→Bool→List (S37)→List (S65)→Option (Bool)
 | 0,_,_,_,_,_,_=>none
 | k + 1,x1,x2,x3,x42,x313000,x313001=>if x42 = true then ((l8_known.f).bind fun t315=>(some t315)) else (l8_GateFlow.l0 k x1 x2 x3 0 x313000 x313001 ([] : List (S37)) x313001)
def l8_GateFlow.l0 : Nat→List Int→List Int→List Int→Int→List (S37)→List (S65)→List (S37)→List (S65)→Option (Bool)
 | 0,_,_,_,_,_,_,_,_=>none
 | k + 1,x1,x2,x3,x10,x313000,x313001,x317000,x317001=>if x10 < (x3.length : Int) then (if 0≤x10 then (if x10 < (x313000.length : Int) then (if (rd x3 x10) < ((rd_T37 x313000 x10).f0.f0) then ((l8_known.f).bind fun t320=>(some t320)) else (if (rd x3 x10) > ((rd_T37 x313000 x10).f0.f1) then ((l8_known.f).bind fun t322=>(some t322)) else (if x317000.length < 5864062014805 then (l8_GateFlow.l0 k x1 x2 x3 (wrap64 (x10 + 1)) x313000 x313001 (x317000 ++ [(⟨(⟨rd x3 x10,rd x3 x10⟩ : S35),(rd_T37 x313000 x10).f1⟩ : S37)]) x317001) else (none)))) else (none)) else (none)) else ((ga_Feeds.f k x313000 x313001 x1 x2).bind fun bt328=>((ga_Fed.f k x313000 x313001 x1).bind fun bt330=>((ga_Cut.f k x313000 x313001 x1).bind fun bt332=>((ga_Fed.f k x317000 x317001 x1).bind fun bt336=>(if bt328.2 = 0 then (if bt330.2 = 0 then (if bt336.2 = 0 then (if bt332.2 = 0 then (l8_GateFlow.j2 k bt328.1 bt330.1 bt332.2 bt336.1 (bt336.1 == 2)) else (if bt332.2 = 5 then (l8_GateFlow.j2 k bt328.1 bt330.1 bt332.2 bt336.1 (bt336.1 == 2)) else (l8_GateFlow.j2 k bt328.1 bt330.1 bt332.2 bt336.1 true))) else (l8_GateFlow.j2 k bt328.1 bt330.1 bt332.2 bt336.1 true)) else (l8_GateFlow.j2 k bt328.1 bt330.1 bt332.2 bt336.1 true)) else (l8_GateFlow.j2 k bt328.1 bt330.1 bt332.2 bt336.1 true))))))
def l8_GateFlow.j2 : Nat→Bool→Int→Int→Int→Bool→Option (Bool)
 | 0,_,_,_,_,_=>none
 | k + 1,x12,x14,x17,x18,x140=>if x140 = true then (some false) else (if x12 = true then (if x14 = 3 then (if x17 = 5 then (if ((x14 == 3) != (x17 == 5)) = true then (some false) else (if x18 = 3 then (if x14 = 1 then (if x18 = 1 then ((l8_known.f).bind fun t338=>(some t338)) else (some false)) else ((l8_known.f).bind fun t339=>(some t339))) else (some false))) else (some false)) else (some false)) else (if ((x14 == 3) != (x17 == 5)) = true then (some false) else (if x14 = 3 then (if x18 = 3 then (if x14 = 1 then (if x18 = 1 then ((l8_known.f).bind fun t340=>(some t340)) else (some false)) else ((l8_known.f).bind fun t341=>(some t341))) else (some false)) else (if x14 = 1 then (if x18 = 1 then ((l8_known.f).bind fun t342=>(some t342)) else (some false)) else ((l8_known.f).bind fun t343=>(some t343))))))
end
def l8_GateFlow.f (k : Nat) (l0_0 : List (S37)) (l0_1 : List (S65)) (l1 : List Int) (l2 : List Int) (l3 : List Int) : Option (Bool):=(l8_right.f k l0_0 l0_1 l1).bind fun t313=>(if t313 = true then (if (l2.length : Int) > 13 then (l8_GateFlow.j0 k l1 l2 l3 true l0_0 l0_1) else ((q8_Flows.f k l0_0 l0_1 l2).bind fun t314=>(if t314 = true then (l8_GateFlow.j0 k l1 l2 l3 ((l3.length : Int) != (l0_0.length : Int)) l0_0 l0_1) else (l8_GateFlow.j0 k l1 l2 l3 true l0_0 l0_1)))) else (l8_GateFlow.j0 k l1 l2 l3 true l0_0 l0_1))
def l8_GateFlow.T8 : Bool × List (List Nat × List Nat):=(true,[([],[]),([],[]),([0,1],[0,1]),([2],[2]),([],[]),([4],[4]),([5],[5]),([3,6],[3,6]),([7],[7]),([8],[8]),([8],[8]),([9,10,8],[8,9,10]),([11,8],[8,11]),([8],[8]),([13,8],[8,13]),([14,8],[8,14]),([12,15,8],[8,12,15]),([8,16],[8,16])])
def l8_GateFlow.B8 : List Nat:=[0,0,3,7,0,16,48,127,255,511,511,2047,4095,511,8703,25087,65535,131071]
theorem l8_GateFlow.tab8 : rtab .any (opsOf Tryz.f4 8) = l8_GateFlow.T8:=by kernel_rfl
theorem l8_GateFlow.bits8 : waitsOk l8_GateFlow.T8.2 l8_GateFlow.B8 = true:=by kernel_rfl
def l8_GateFlow.T10 : Bool × List (List Nat × List Nat):=(true,[([],[]),([0],[0]),([],[]),([],[]),([2,3],[2,3]),([4],[4]),([],[]),([],[]),([6,7],[6,7]),([8],[8]),([5,9],[5,9]),([],[]),([11],[11]),([10,12],[10,12]),([13],[13]),([1,14],[1,14]),([0,1,2,3,4,5,6,7,8,9,10,11,12,13,14,15],[]),([16,15,15,0,1,2,3,4,5,6,7,8,9,10,11,12,13,14,15],[15,16])])
def l8_GateFlow.B10 : List Nat:=[0,1,0,0,12,28,0,0,192,448,1020,0,2048,8188,16380,32767,65535,131071]
theorem l8_GateFlow.tab10 : rtab .any (opsOf Tryz.f4 10) = l8_GateFlow.T10:=by kernel_rfl
theorem l8_GateFlow.bits10 : waitsOk l8_GateFlow.T10.2 l8_GateFlow.B10 = true:=by kernel_rfl
theorem l8_GateFlow.calls (k : Nat) (A0_0 : Option Addr) (c0_0 : Nat) (l0_0 : List (S37)) (A0_1 : Option Addr) (c0_1 : Nat) (l0_1 : List (S65)) (A1 : Option Addr) (c1 : Nat) (l1 : List Int) (A2 : Option Addr) (c2 : Nat) (l2 : List Int) (A3 : Option Addr) (c3 : Nat) (l3 : List Int) (r : Bool) (w : World) (hr0_0 : Kd.C k37 w A0_0 l0_0.length l0_0) (hc0_0 : l0_0.length≤c0_0) (hr0_1 : Kd.C k65 w A0_1 l0_1.length l0_1) (hc0_1 : l0_1.length≤c0_1) (hr1 : Kd.C (Kd.int .i64) w A1 l1.length l1) (hc1 : l1.length≤c1) (hr2 : Kd.C (Kd.int .i64) w A2 l2.length l2) (hc2 : l2.length≤c2) (hr3 : Kd.C (Kd.int .i64) w A3 l3.length l3) (hc3 : l3.length≤c3) (h : l8_GateFlow.f k l0_0 l0_1 l1 l2 l3 = some r) :
 Calls Tryz.prog 4 #[.agg #[.slice A0_0 l0_0.length c0_0,.slice A0_1 l0_1.length c0_1],.slice A1 l1.length c1,.slice A2 l2.length c2,.slice A3 l3.length c3] w fun e w'=>e = .returned (.bool r)∧Below w.heap.size w w':=by
 have hu25:=Tryz.underlying25
 have hu37:=Tryz.underlying37
 have hu35:=Tryz.underlying35
 have HR0_0:=am hr0_0
 have HC0_0:=am hc0_0
 clear hr0_0 hc0_0
 have HR0_1:=am hr0_1
 have HC0_1:=am hc0_1
 clear hr0_1 hc0_1
 have HR1:=am hr1
 have HC1:=am hc1
 clear hr1 hc1
 have HR2:=am hr2
 have HC2:=am hc2
 clear hr2 hc2
 have HR3:=am hr3
 have HC3:=am hc3
 clear hr3 hc3
 have HB:=am (Below.refl w.heap.size w)
 have H : ((l8_right.f k l0_0 l0_1 l1).bind fun t313=>(if t313 = true then (if (l2.length : Int) > 13 then (l8_GateFlow.j0 k l1 l2 l3 true l0_0 l0_1) else ((q8_Flows.f k l0_0 l0_1 l2).bind fun t314=>(if t314 = true then (l8_GateFlow.j0 k l1 l2 l3 ((l3.length : Int) != (l0_0.length : Int)) l0_0 l0_1) else (l8_GateFlow.j0 k l1 l2 l3 true l0_0 l0_1)))) else (l8_GateFlow.j0 k l1 l2 l3 true l0_0 l0_1))) = some r:=h
 clear h
 have HC5:=am H
 clear H
 go_enter Tryz.func4,Tryz.ntmps4
 go_upto_region 1 with (first | ((refine ga_dst (N:=4) rfl ?_);(try (refine ga_guard (by rfl) ?_;dsimp only));refine box_event rfl (N:=4) rfl (cs:=#[.slice A0_0 l0_0.length c0_0,.slice A0_1 l0_1.length c0_1]) (t:=25) ?hr ?_;(case hr=>go_simp;try rfl);intro gb312 hg w6 hbox hb;have BK312:=am (hbox);have GW312:=am (ge_new (HB.out) hg);have GE312:=am (ge_new (HB.out) hg);replace HB:=am (below_step (HB.out) hb);clear hb hbox hg))
 (try simp only [Act.put,List.setIfInBounds_toArray,List.set_cons_zero,List.set_cons_succ])
 go_cut [42] (fun v42 wc=>∃ (kq : Nat) (x42_4 : Bool),v42 = .bool x42_4∧Aside0 (l8_GateFlow.j0 kq l1 l2 l3 x42_4 l0_0 l0_1 = some r)∧Aside0 (kq≤k)∧Aside0 (wc.heap[gb312]? = some (.cells #[(.slice A0_0 l0_0.length c0_0),(.slice A0_1 l0_1.length c0_1)] 25 (0,0)))∧Aside0 (Below w.heap.size w wc))
 case first =>
  have H:=HC5.out
  clear HC5
  replace H:=obm H
  obtain ⟨t313,A70,H⟩:=H
  replace H : (if t313 = true then (if (l2.length : Int) > 13 then (l8_GateFlow.j0 k l1 l2 l3 true l0_0 l0_1) else ((q8_Flows.f k l0_0 l0_1 l2).bind fun t314=>(if t314 = true then (l8_GateFlow.j0 k l1 l2 l3 ((l3.length : Int) != (l0_0.length : Int)) l0_0 l0_1) else (l8_GateFlow.j0 k l1 l2 l3 true l0_0 l0_1)))) else (l8_GateFlow.j0 k l1 l2 l3 true l0_0 l0_1)) = some r:=H
  have A7:=am A70
  clear A70
  by_cases c8 : t313 = true
  case neg =>
   replace c8:=Bool.eq_false_iff.mpr c8
   subst c8
   replace H : (l8_GateFlow.j0 k l1 l2 l3 true l0_0 l0_1) = some r:=by rw [if_neg (show ¬ (false = true) by decide)] at H;exact H
   replace H':=am H
   obtain ⟨hcz23_0,hcz23_1⟩:=cO2 BK312.out
   go_wp2_with (first | ((with_reducible refine ga_callee (f:=21) rfl ?_);refine goesL_ (some 22) rfl rfl Tryz.func21 (by kernel_rfl) rfl #[.agg #[.slice A0_0 l0_0.length c0_0,.slice A0_1 l0_1.length c0_1],.slice A1 l1.length c1] rfl (by (try simp only [List.map_toArray,List.map_cons,List.map_nil]);first | done | rfl | (simp only [List.length_drop,List.length_take];rfl)) ?_;(refine (l8_right.calls k _ _ l0_0 _ _ l0_1 _ _ l1 false _ ?side1 ?side2 ?side3 ?side4 ?side5 ?side6 A7.out).mono ?_);(case side1=>exact kC HR0_0.out HB.out);(case side2=>exact HC0_0.out);(case side3=>exact kC HR0_1.out HB.out);(case side4=>exact HC0_1.out);(case side5=>exact kC HR1.out HB.out);(case side6=>exact HC1.out);rintro e w24 ⟨rfl,hb⟩;refine ⟨_,rfl,?_⟩;replace BK312:=(kmv hb BK312);replace HB:=am (below_step (HB.out) hb);(try clear hb);(try clear hb2);(try clear hk);(try clear hi)))
   go_meet
   case rel=>exact ⟨_,(true),(by first | rfl | (simp;done) | (simp [*];done)),H',⟨by first | omega | exact Nat.le_refl _⟩,⟨BK312.out⟩,⟨HB.out⟩⟩
  subst c8
  replace H : (if (l2.length : Int) > 13 then (l8_GateFlow.j0 k l1 l2 l3 true l0_0 l0_1) else ((q8_Flows.f k l0_0 l0_1 l2).bind fun t314=>(if t314 = true then (l8_GateFlow.j0 k l1 l2 l3 ((l3.length : Int) != (l0_0.length : Int)) l0_0 l0_1) else (l8_GateFlow.j0 k l1 l2 l3 true l0_0 l0_1)))) = some r:=by rw [if_pos rfl] at H;exact H
  by_cases c9 : (l2.length : Int) > 13
  ·rw [if_pos c9] at H
   have c9b0 : decide (13 < (l2.length : Int)) = true:=decide_eq_true c9
   have c9b1 : decide (13 < l2.length) = true:=decide_eq_true (by omega)
   clear c9
   (first | rw [c9b0] | (simp only [i64_w,i32_w];rw [c9b0]) | skip)
   replace H':=am H
   obtain ⟨hcz10_0,hcz10_1⟩:=cO2 BK312.out
   go_wp2_with (first | ((with_reducible refine ga_callee (f:=21) rfl ?_);refine goesL_ (some 22) rfl rfl Tryz.func21 (by kernel_rfl) rfl #[.agg #[.slice A0_0 l0_0.length c0_0,.slice A0_1 l0_1.length c0_1],.slice A1 l1.length c1] rfl (by (try simp only [List.map_toArray,List.map_cons,List.map_nil]);first | done | rfl | (simp only [List.length_drop,List.length_take];rfl)) ?_;(refine (l8_right.calls k _ _ l0_0 _ _ l0_1 _ _ l1 true _ ?side1 ?side2 ?side3 ?side4 ?side5 ?side6 A7.out).mono ?_);(case side1=>exact kC HR0_0.out HB.out);(case side2=>exact HC0_0.out);(case side3=>exact kC HR0_1.out HB.out);(case side4=>exact HC0_1.out);(case side5=>exact kC HR1.out HB.out);(case side6=>exact HC1.out);rintro e w11 ⟨rfl,hb⟩;refine ⟨_,rfl,?_⟩;replace BK312:=(kmv hb BK312);replace HB:=am (below_step (HB.out) hb);(try clear hb);(try clear hb2);(try clear hk);(try clear hi)))
   go_meet
   case rel=>exact ⟨_,(true),(by first | rfl | (simp;done) | (simp [*];done)),H',⟨by first | omega | exact Nat.le_refl _⟩,⟨BK312.out⟩,⟨HB.out⟩⟩
  ·rw [if_neg c9] at H
   have c9b0 : decide (13 < (l2.length : Int)) = false:=decide_eq_false c9
   have c9b1 : decide (13 < l2.length) = false:=decide_eq_false (by omega)
   clear c9
   (first | rw [c9b0] | (simp only [i64_w,i32_w];rw [c9b0]) | skip)
   replace H:=obm H
   obtain ⟨t314,A120,H⟩:=H
   replace H : (if t314 = true then (l8_GateFlow.j0 k l1 l2 l3 ((l3.length : Int) != (l0_0.length : Int)) l0_0 l0_1) else (l8_GateFlow.j0 k l1 l2 l3 true l0_0 l0_1)) = some r:=H
   have A12:=am A120
   clear A120
   by_cases c13 : t314 = true
   ·subst c13
    replace H : (l8_GateFlow.j0 k l1 l2 l3 ((l3.length : Int) != (l0_0.length : Int)) l0_0 l0_1) = some r:=by rw [if_pos rfl] at H;exact H
    replace H':=am H
    obtain ⟨hcz14_0,hcz14_1⟩:=cO2 BK312.out
    go_wp2_with (first | ((with_reducible refine ga_callee (f:=21) rfl ?_);refine goesL_ (some 22) rfl rfl Tryz.func21 (by kernel_rfl) rfl #[.agg #[.slice A0_0 l0_0.length c0_0,.slice A0_1 l0_1.length c0_1],.slice A1 l1.length c1] rfl (by (try simp only [List.map_toArray,List.map_cons,List.map_nil]);first | done | rfl | (simp only [List.length_drop,List.length_take];rfl)) ?_;(refine (l8_right.calls k _ _ l0_0 _ _ l0_1 _ _ l1 true _ ?side1 ?side2 ?side3 ?side4 ?side5 ?side6 A7.out).mono ?_);(case side1=>exact kC HR0_0.out HB.out);(case side2=>exact HC0_0.out);(case side3=>exact kC HR0_1.out HB.out);(case side4=>exact HC0_1.out);(case side5=>exact kC HR1.out HB.out);(case side6=>exact HC1.out);rintro e w15 ⟨rfl,hb⟩;refine ⟨_,rfl,?_⟩;replace BK312:=(kmv hb BK312);replace HB:=am (below_step (HB.out) hb);(try clear hb);(try clear hb2);(try clear hk);(try clear hi);obtain ⟨hcz16_0,hcz16_1⟩:=cO2 BK312.out) | (go_at_call 19;(refine (q8_Flows.calls k _ _ l0_0 _ _ l0_1 _ _ l2 true _ ?side1 ?side2 ?side3 ?side4 ?side5 ?side6 A12.out).mono ?_);(case side1=>exact kC HR0_0.out HB.out);(case side2=>exact HC0_0.out);(case side3=>exact kC HR0_1.out HB.out);(case side4=>exact HC0_1.out);(case side5=>exact kC HR2.out HB.out);(case side6=>exact HC2.out);rintro e w17 ⟨rfl,hb⟩;replace BK312:=(kmv hb BK312);replace HB:=am (below_step (HB.out) hb);(try clear hb);(try clear hb2);(try clear hk);(try clear hi);obtain ⟨hcz18_0,hcz18_1⟩:=cO2 BK312.out))
    go_meet
    case rel=>exact ⟨_,(((l3.length : Int) != (l0_0.length : Int))),(by first | rfl | (simp;done) | (simp [*];done)),H',⟨by first | omega | exact Nat.le_refl _⟩,⟨BK312.out⟩,⟨HB.out⟩⟩
   ·replace c13:=Bool.eq_false_iff.mpr c13
    subst c13
    replace H : (l8_GateFlow.j0 k l1 l2 l3 true l0_0 l0_1) = some r:=by rw [if_neg (show ¬ (false = true) by decide)] at H;exact H
    replace H':=am H
    obtain ⟨hcz19_0,hcz19_1⟩:=cO2 BK312.out
    go_wp2_with (first | ((with_reducible refine ga_callee (f:=21) rfl ?_);refine goesL_ (some 22) rfl rfl Tryz.func21 (by kernel_rfl) rfl #[.agg #[.slice A0_0 l0_0.length c0_0,.slice A0_1 l0_1.length c0_1],.slice A1 l1.length c1] rfl (by (try simp only [List.map_toArray,List.map_cons,List.map_nil]);first | done | rfl | (simp only [List.length_drop,List.length_take];rfl)) ?_;(refine (l8_right.calls k _ _ l0_0 _ _ l0_1 _ _ l1 true _ ?side1 ?side2 ?side3 ?side4 ?side5 ?side6 A7.out).mono ?_);(case side1=>exact kC HR0_0.out HB.out);(case side2=>exact HC0_0.out);(case side3=>exact kC HR0_1.out HB.out);(case side4=>exact HC0_1.out);(case side5=>exact kC HR1.out HB.out);(case side6=>exact HC1.out);rintro e w20 ⟨rfl,hb⟩;refine ⟨_,rfl,?_⟩;replace BK312:=(kmv hb BK312);replace HB:=am (below_step (HB.out) hb);(try clear hb);(try clear hb2);(try clear hk);(try clear hi);obtain ⟨hcz21_0,hcz21_1⟩:=cO2 BK312.out) | (go_at_call 19;(refine (q8_Flows.calls k _ _ l0_0 _ _ l0_1 _ _ l2 false _ ?side1 ?side2 ?side3 ?side4 ?side5 ?side6 A12.out).mono ?_);(case side1=>exact kC HR0_0.out HB.out);(case side2=>exact HC0_0.out);(case side3=>exact kC HR0_1.out HB.out);(case side4=>exact HC0_1.out);(case side5=>exact kC HR2.out HB.out);(case side6=>exact HC2.out);rintro e w22 ⟨rfl,hb⟩;replace BK312:=(kmv hb BK312);replace HB:=am (below_step (HB.out) hb);(try clear hb);(try clear hb2);(try clear hk);(try clear hi)))
    go_meet
    case rel=>exact ⟨_,(true),(by first | rfl | (simp;done) | (simp [*];done)),H',⟨by first | omega | exact Nat.le_refl _⟩,⟨BK312.out⟩,⟨HB.out⟩⟩
 case rest =>
  clear HC5
  obtain ⟨kq,x42_4,rfl,HA,HJ4,BK312,HB⟩:=hcut
  cases kq with
  | zero=>exact absurd HA.out (by simp [l8_GateFlow.j0])
  | succ kj4 =>
   have H:=HA.out
   clear HA
   simp only [l8_GateFlow.j0] at H
   by_cases c25 : x42_4 = true
   ·subst c25
    replace H : ((l8_known.f).bind fun t315=>(some t315)) = some r:=by rw [if_pos rfl] at H;exact H
    replace H:=obm H
    obtain ⟨t315,A260,H⟩:=H
    replace H : (some t315) = some r:=H
    have A26:=am A260
    clear A260
    obtain rfl:=Option.some.inj H
    go_wp2_with (first | ((with_reducible refine ga_callee (f:=15) rfl ?_);refine goesL_ (some 43) rfl rfl Tryz.func15 (by kernel_rfl) rfl #[] rfl (by (try simp only [List.map_toArray,List.map_cons,List.map_nil]);first | done | rfl | (simp only [List.length_drop,List.length_take];rfl)) ?_;(refine (l8_known.calls  t315 _ A26.out).mono ?_);rintro e w27 ⟨rfl,hb⟩;refine ⟨_,rfl,?_⟩;replace BK312:=(kmv hb BK312);replace HB:=am (below_step (HB.out) hb);(try clear hb);(try clear hb2);(try clear hk);(try clear hi)))
    go_ret
    exact ⟨by first | rfl | (simp [*]<;>rfl),HB.out⟩
   ·replace c25:=Bool.eq_false_iff.mpr c25
    subst c25
    replace H : (l8_GateFlow.l0 kj4 l1 l2 l3 0 l0_0 l0_1 ([] : List (S37)) l0_1) = some r:=by rw [if_neg (show ¬ (false = true) by decide)] at H;exact H
    replace H':=am H
    obtain ⟨hcz28_0,hcz28_1⟩:=cO2 BK312.out
    go_wp2_with (first | ((refine ga_dst (N:=9) rfl ?_);(try (refine ga_guard (by rfl) ?_;dsimp only));refine box_event rfl (N:=9) rfl (cs:=#[.slice none 0 0,.slice none 0 0]) (t:=25) ?hr ?_;(case hr=>go_simp;try rfl);intro gb316 hg w29 hbox hb;have BK316:=am (hbox);have GW316:=am (ge_new (HB.out) hg);have GE316:=am (ge_new (HB.out) hg);have NB312_316:=am (ne_new BK312.out hg);have NB316_312:=am (ne_new2 BK312.out hg);replace BK312:=(kmv hb BK312);replace HB:=am (below_step (HB.out) hb);clear hb hbox hg;have hnb30:=NB316_312.out;have hnc30:=NB312_316.out;obtain ⟨hcz31_0,hcz31_1⟩:=cO2 BK316.out;have hfz31_0:=blk_frozen BK316.out 0;have hfz31_1:=blk_frozen BK316.out 1))
    go_loopg [10] kj4 (fun kq v10 w'=>∃ (x10_2 : Int) (x317000_2 : List (S37)) (u317000 : Value),v10 = .int .i64 x10_2∧Aside0 (l8_GateFlow.l0 kq l1 l2 l3 x10_2 l0_0 l0_1 x317000_2 l0_1 = some r)∧Aside0 (kq≤kj4)∧Aside0 (Kd.R k37 37 w' w.heap.size (fun _=>True) u317000 x317000_2)∧Aside0 (w'.heap[gb312]? = some (.cells #[(.slice A0_0 l0_0.length c0_0),(.slice A0_1 l0_1.length c0_1)] 25 (0,0)))∧Aside0 (w'.heap[gb316]? = some (.cells #[u317000,(.slice A0_1 l0_1.length c0_1)] 25 (0,0)))∧Aside0 (Below w.heap.size w w'))
    case atStart=>exact ⟨(0),(([] : List (S37))),(.slice none 0 0),(by first | rfl | (simp;done) | (simp [*];done)),H',⟨Nat.le_refl _⟩,⟨by first | exact Kd.R_nil _ _ _ _ _ | exact Kd.N_nil _ _ _ _ _ | exact Kd.V_nil _ _ _ _ _ | exact Kd.Q_nil _ _ _ _ _ | exact Kd.S_nil _ _ _ _ _⟩,⟨(blk_far (blk_far BK312.out NB312_316.out _) NB312_316.out _)⟩,⟨(blk_put (cs:=#[.slice none 0 0,.slice none 0 0]) (blk_put (cs:=#[.slice none 0 0,.slice none 0 0]) BK316.out 0 _ rfl) 1 _ rfl)⟩,⟨by repeat (first | (with_reducible first | exact HB.out | refine below_set ?_ (Aside0.out (by assumption)) | apply below_alloc | apply pw_below_drewN) | exact HB.out)⟩⟩
    case round =>
     clear H'
     obtain ⟨x10_2,x317000_2,u317000,rfl,HA,HK2,HO_317000,BK312,BK316,HB⟩:=hrel
     cases gk with
     | zero=>exact absurd HA.out (by simp [l8_GateFlow.l0])
     | succ k2 =>
      have H:=HA.out
      clear HA
      simp only [l8_GateFlow.l0] at H
      by_cases c32 : x10_2 < (l3.length : Int)
      case neg =>
       rw [if_neg c32] at H
       have c32b0 : decide (x10_2 < (l3.length : Int)) = false:=decide_eq_false c32
       clear c32
       replace H:=obm H
       obtain ⟨⟨t328,t329⟩,A700,H⟩:=H
       replace H : ((ga_Fed.f k2 l0_0 l0_1 l1).bind fun bt330=>((ga_Cut.f k2 l0_0 l0_1 l1).bind fun bt332=>((ga_Fed.f k2 x317000_2 l0_1 l1).bind fun bt336=>(if t329 = 0 then (if bt330.2 = 0 then (if bt336.2 = 0 then (if bt332.2 = 0 then (l8_GateFlow.j2 k2 t328 bt330.1 bt332.2 bt336.1 (bt336.1 == 2)) else (if bt332.2 = 5 then (l8_GateFlow.j2 k2 t328 bt330.1 bt332.2 bt336.1 (bt336.1 == 2)) else (l8_GateFlow.j2 k2 t328 bt330.1 bt332.2 bt336.1 true))) else (l8_GateFlow.j2 k2 t328 bt330.1 bt332.2 bt336.1 true)) else (l8_GateFlow.j2 k2 t328 bt330.1 bt332.2 bt336.1 true)) else (l8_GateFlow.j2 k2 t328 bt330.1 bt332.2 bt336.1 true))))) = some r:=H
       have A70:=am A700
       clear A700
       replace H:=obm H
       obtain ⟨⟨t330,t331⟩,A710,H⟩:=H
       replace H : ((ga_Cut.f k2 l0_0 l0_1 l1).bind fun bt332=>((ga_Fed.f k2 x317000_2 l0_1 l1).bind fun bt336=>(if t329 = 0 then (if t331 = 0 then (if bt336.2 = 0 then (if bt332.2 = 0 then (l8_GateFlow.j2 k2 t328 t330 bt332.2 bt336.1 (bt336.1 == 2)) else (if bt332.2 = 5 then (l8_GateFlow.j2 k2 t328 t330 bt332.2 bt336.1 (bt336.1 == 2)) else (l8_GateFlow.j2 k2 t328 t330 bt332.2 bt336.1 true))) else (l8_GateFlow.j2 k2 t328 t330 bt332.2 bt336.1 true)) else (l8_GateFlow.j2 k2 t328 t330 bt332.2 bt336.1 true)) else (l8_GateFlow.j2 k2 t328 t330 bt332.2 bt336.1 true)))) = some r:=H
       have A71:=am A710
       clear A710
       replace H:=obm H
       obtain ⟨⟨t332,t335⟩,A720,H⟩:=H
       replace H : ((ga_Fed.f k2 x317000_2 l0_1 l1).bind fun bt336=>(if t329 = 0 then (if t331 = 0 then (if bt336.2 = 0 then (if t335 = 0 then (l8_GateFlow.j2 k2 t328 t330 t335 bt336.1 (bt336.1 == 2)) else (if t335 = 5 then (l8_GateFlow.j2 k2 t328 t330 t335 bt336.1 (bt336.1 == 2)) else (l8_GateFlow.j2 k2 t328 t330 t335 bt336.1 true))) else (l8_GateFlow.j2 k2 t328 t330 t335 bt336.1 true)) else (l8_GateFlow.j2 k2 t328 t330 t335 bt336.1 true)) else (l8_GateFlow.j2 k2 t328 t330 t335 bt336.1 true))) = some r:=H
       have A72:=am A720
       clear A720
       replace H:=obm H
       obtain ⟨⟨t336,t337⟩,A730,H⟩:=H
       replace H : (if t329 = 0 then (if t331 = 0 then (if t337 = 0 then (if t335 = 0 then (l8_GateFlow.j2 k2 t328 t330 t335 t336 (t336 == 2)) else (if t335 = 5 then (l8_GateFlow.j2 k2 t328 t330 t335 t336 (t336 == 2)) else (l8_GateFlow.j2 k2 t328 t330 t335 t336 true))) else (l8_GateFlow.j2 k2 t328 t330 t335 t336 true)) else (l8_GateFlow.j2 k2 t328 t330 t335 t336 true)) else (l8_GateFlow.j2 k2 t328 t330 t335 t336 true)) = some r:=H
       have A73:=am A730
       clear A730
       have HC74:=am H
       clear H
       have hnb75:=NB312_316.out
       have hnc75:=NB316_312.out
       obtain ⟨hcz76_0,hcz76_1⟩:=cO2 BK312.out
       go_upto_region 15 with (first | ((with_reducible refine ga_callee (f:=16) rfl ?_);refine goesL_ (some 98) rfl rfl Tryz.func16 (by kernel_rfl) rfl #[.agg #[.slice A0_0 l0_0.length c0_0,.slice A0_1 l0_1.length c0_1],.slice A1 l1.length c1,.slice A2 l2.length c2] rfl (by (try simp only [List.map_toArray,List.map_cons,List.map_nil]);first | done | rfl | (simp only [List.length_drop,List.length_take];rfl)) ?_;(refine (ga_Feeds.calls k2 _ _ l0_0 _ _ l0_1 _ _ l1 _ _ l2 t328 t329 _ ?side1 ?side2 ?side3 ?side4 ?side5 ?side6 ?side7 ?side8 A70.out).mono ?_);(case side1=>exact kC HR0_0.out HB.out);(case side2=>exact HC0_0.out);(case side3=>exact kC HR0_1.out HB.out);(case side4=>exact HC0_1.out);(case side5=>exact kC HR1.out HB.out);(case side6=>exact HC1.out);(case side7=>exact kC HR2.out HB.out);(case side8=>exact HC2.out);rintro e w77 ⟨rfl,hb⟩;refine ⟨_,rfl,?_⟩;replace HO_317000:=am (Kd.R_below HO_317000.out hb);replace BK312:=(kmv hb BK312);replace BK316:=(kmv hb BK316);replace HB:=am (below_step (HB.out) hb);(try clear hb);(try clear hb2);(try clear hk);(try clear hi);obtain ⟨hcz78_0,hcz78_1⟩:=cO2 BK312.out) | ((with_reducible refine ga_callee (f:=22) rfl ?_);refine goesL_ (some 104) rfl rfl Tryz.func22 (by kernel_rfl) rfl #[.agg #[.slice A0_0 l0_0.length c0_0,.slice A0_1 l0_1.length c0_1],.slice A1 l1.length c1] rfl (by (try simp only [List.map_toArray,List.map_cons,List.map_nil]);first | done | rfl | (simp only [List.length_drop,List.length_take];rfl)) ?_;(refine (ga_Fed.calls k2 _ _ l0_0 _ _ l0_1 _ _ l1 t330 t331 _ ?side1 ?side2 ?side3 ?side4 ?side5 ?side6 A71.out).mono ?_);(case side1=>exact kC HR0_0.out HB.out);(case side2=>exact HC0_0.out);(case side3=>exact kC HR0_1.out HB.out);(case side4=>exact HC0_1.out);(case side5=>exact kC HR1.out HB.out);(case side6=>exact HC1.out);rintro e w79 ⟨rfl,hb⟩;refine ⟨_,rfl,?_⟩;replace HO_317000:=am (Kd.R_below HO_317000.out hb);replace BK312:=(kmv hb BK312);replace BK316:=(kmv hb BK316);replace HB:=am (below_step (HB.out) hb);(try clear hb);(try clear hb2);(try clear hk);(try clear hi);obtain ⟨hcz80_0,hcz80_1⟩:=cO2 BK312.out) | ((with_reducible refine ga_callee (f:=23) rfl ?_);refine goesL_ (some 110) rfl rfl Tryz.func23 (by kernel_rfl) rfl #[.agg #[.slice A0_0 l0_0.length c0_0,.slice A0_1 l0_1.length c0_1],.slice A1 l1.length c1] rfl (by (try simp only [List.map_toArray,List.map_cons,List.map_nil]);first | done | rfl | (simp only [List.length_drop,List.length_take];rfl)) ?_;(refine (ga_Cut.calls k2 _ _ l0_0 _ _ l0_1 _ _ l1 t332 t335 _ ?side1 ?side2 ?side3 ?side4 ?side5 ?side6 A72.out).mono ?_);(case side1=>exact kC HR0_0.out HB.out);(case side2=>exact HC0_0.out);(case side3=>exact kC HR0_1.out HB.out);(case side4=>exact HC0_1.out);(case side5=>exact kC HR1.out HB.out);(case side6=>exact HC1.out);rintro e w81 ⟨v333,rfl,ho0,hb⟩;refine ⟨_,rfl,?_⟩;have HO334:=am (Kd.R_lower ho0 (below_size (HB.out)));replace HO_317000:=am (Kd.R_below HO_317000.out hb);replace BK312:=(kmv hb BK312);replace BK316:=(kmv hb BK316);replace HB:=am (below_step (HB.out) hb);(try clear hb);(try clear hb2);(try clear hk);(try clear hi);(try clear ho0);obtain ⟨hcz82_0,hcz82_1⟩:=cO2 BK316.out;have hfz82_0:=blk_frozen BK316.out 0;have hfz82_1:=blk_frozen BK316.out 1;obtain ⟨Ao83,co83,eo83⟩:=Kd.R_slice HO_317000.out;subst eo83) | ((with_reducible refine ga_callee (f:=22) rfl ?_);refine goesL_ (some 116) rfl rfl Tryz.func22 (by kernel_rfl) rfl #[.agg #[.slice Ao83 x317000_2.length co83,.slice A0_1 l0_1.length c0_1],.slice A1 l1.length c1] rfl (by (try simp only [List.map_toArray,List.map_cons,List.map_nil]);first | done | rfl | (simp only [List.length_drop,List.length_take];rfl)) ?_;(refine (ga_Fed.calls k2 _ _ x317000_2 _ _ l0_1 _ _ l1 t336 t337 _ ?side1 ?side2 ?side3 ?side4 ?side5 ?side6 A73.out).mono ?_);(case side1=>repeat (first | exact (Kd.R_reads' HO_317000.out).2.2 | (with_reducible refine Kd.C_alloc ?_ _) | (with_reducible refine Kd.C_drewN ?_ _) | (with_reducible refine Kd.C_drew ?_)));(case side2=>exact (Kd.R_reads' HO_317000.out).2.1);(case side3=>exact kC HR0_1.out HB.out);(case side4=>exact HC0_1.out);(case side5=>exact kC HR1.out HB.out);(case side6=>exact HC1.out);rintro e w84 ⟨rfl,hb⟩;refine ⟨_,rfl,?_⟩;replace HO_317000:=am (Kd.R_below HO_317000.out hb);replace HO334:=am (Kd.R_below HO334.out hb);replace BK312:=(kmv hb BK312);replace BK316:=(kmv hb BK316);replace HB:=am (below_step (HB.out) hb);(try clear hb);(try clear hb2);(try clear hk);(try clear hi)))
       (try simp only [Act.put,List.setIfInBounds_toArray,List.set_cons_zero,List.set_cons_succ])
       go_cut [140] (fun v140 wc=>∃ (kq : Nat) (x140_73 : Bool),v140 = .bool x140_73∧Aside0 (l8_GateFlow.j2 kq t328 t330 t335 t336 x140_73 = some r)∧Aside0 (kq≤k2)∧Aside0 (Kd.R k37 37 wc w.heap.size (fun _=>True) (.slice Ao83 x317000_2.length co83) x317000_2)∧Aside0 (wc.heap[gb312]? = some (.cells #[(.slice A0_0 l0_0.length c0_0),(.slice A0_1 l0_1.length c0_1)] 25 (0,0)))∧Aside0 (wc.heap[gb316]? = some (.cells #[(.slice Ao83 x317000_2.length co83),(.slice A0_1 l0_1.length c0_1)] 25 (0,0)))∧Aside0 (Below w.heap.size w wc))
       case first =>
        have H:=HC74.out
        clear HC74
        by_cases c85 : t329 = 0
        case neg =>
         rw [if_neg c85] at H
         have c85b0 : (t329 == 0) = false:=beq_eq_false_iff_ne.mpr c85
         have c85b1 : (t329 != 0) = true:=bne_iff_ne.mpr c85
         (first | rw [c85b0] | (simp only [i64_w,i32_w];rw [c85b0]) | skip)
         replace H':=am H
         go_wp2
         go_meet
         case rel=>exact ⟨_,(true),(by first | rfl | (simp;done) | (simp [*];done)),H',⟨by have:=HJ4.out;have:=HK2.out;first | omega | exact Nat.le_refl _⟩,⟨by (with_reducible repeat (first | apply Kd.R_alloc | apply Kd.R_drewN | apply Kd.R_drew));exact HO_317000.out⟩,⟨BK312.out⟩,⟨BK316.out⟩,⟨HB.out⟩⟩
        rw [if_pos c85] at H
        have c85b0 : (t329 == 0) = true:=beq_iff_eq.mpr c85
        have c85b1 : (t329 != 0) = false:=bne_eq_false_iff_eq.mpr c85
        clear c85
        (first | rw [c85b0] | (simp only [i64_w,i32_w];rw [c85b0]) | skip)
        by_cases c86 : t331 = 0
        case neg =>
         rw [if_neg c86] at H
         have c86b0 : (t331 == 0) = false:=beq_eq_false_iff_ne.mpr c86
         have c86b1 : (t331 != 0) = true:=bne_iff_ne.mpr c86
         replace H':=am H
         go_wp2
         go_meet
         case rel=>exact ⟨_,(true),(by first | rfl | (simp;done) | (simp [*];done)),H',⟨by have:=HJ4.out;have:=HK2.out;first | omega | exact Nat.le_refl _⟩,⟨by (with_reducible repeat (first | apply Kd.R_alloc | apply Kd.R_drewN | apply Kd.R_drew));exact HO_317000.out⟩,⟨BK312.out⟩,⟨BK316.out⟩,⟨HB.out⟩⟩
        rw [if_pos c86] at H
        have c86b0 : (t331 == 0) = true:=beq_iff_eq.mpr c86
        have c86b1 : (t331 != 0) = false:=bne_eq_false_iff_eq.mpr c86
        clear c86
        by_cases c87 : t337 = 0
        case neg =>
         rw [if_neg c87] at H
         have c87b0 : (t337 == 0) = false:=beq_eq_false_iff_ne.mpr c87
         have c87b1 : (t337 != 0) = true:=bne_iff_ne.mpr c87
         replace H':=am H
         go_wp2
         go_meet
         case rel=>exact ⟨_,(true),(by first | rfl | (simp;done) | (simp [*];done)),H',⟨by have:=HJ4.out;have:=HK2.out;first | omega | exact Nat.le_refl _⟩,⟨by (with_reducible repeat (first | apply Kd.R_alloc | apply Kd.R_drewN | apply Kd.R_drew));exact HO_317000.out⟩,⟨BK312.out⟩,⟨BK316.out⟩,⟨HB.out⟩⟩
        rw [if_pos c87] at H
        have c87b0 : (t337 == 0) = true:=beq_iff_eq.mpr c87
        have c87b1 : (t337 != 0) = false:=bne_eq_false_iff_eq.mpr c87
        clear c87
        by_cases c88 : t335 = 0
        ·rw [if_pos c88] at H
         have c88b0 : (t335 == 0) = true:=beq_iff_eq.mpr c88
         have c88b1 : (t335 != 0) = false:=bne_eq_false_iff_eq.mpr c88
         clear c88
         replace H':=am H
         go_wp2
         go_meet
         case rel=>exact ⟨_,((t336 == 2)),(by first | rfl | (simp;done) | (simp [*];done)),H',⟨by have:=HJ4.out;have:=HK2.out;first | omega | exact Nat.le_refl _⟩,⟨by (with_reducible repeat (first | apply Kd.R_alloc | apply Kd.R_drewN | apply Kd.R_drew));exact HO_317000.out⟩,⟨BK312.out⟩,⟨BK316.out⟩,⟨HB.out⟩⟩
        ·rw [if_neg c88] at H
         have c88b0 : (t335 == 0) = false:=beq_eq_false_iff_ne.mpr c88
         have c88b1 : (t335 != 0) = true:=bne_iff_ne.mpr c88
         by_cases c89 : t335 = 5
         case neg =>
          rw [if_neg c89] at H
          have c89b0 : (t335 == 5) = false:=beq_eq_false_iff_ne.mpr c89
          have c89b1 : (t335 != 5) = true:=bne_iff_ne.mpr c89
          replace H':=am H
          go_wp2
          go_meet
          case rel=>exact ⟨_,(true),(by first | rfl | (simp;done) | (simp [*];done)),H',⟨by have:=HJ4.out;have:=HK2.out;first | omega | exact Nat.le_refl _⟩,⟨by (with_reducible repeat (first | apply Kd.R_alloc | apply Kd.R_drewN | apply Kd.R_drew));exact HO_317000.out⟩,⟨BK312.out⟩,⟨BK316.out⟩,⟨HB.out⟩⟩
         rw [if_pos c89] at H
         have c89b0 : (t335 == 5) = true:=beq_iff_eq.mpr c89
         have c89b1 : (t335 != 5) = false:=bne_eq_false_iff_eq.mpr c89
         clear c89
         replace H':=am H
         go_wp2
         go_meet
         case rel=>exact ⟨_,((t336 == 2)),(by first | rfl | (simp;done) | (simp [*];done)),H',⟨by have:=HJ4.out;have:=HK2.out;first | omega | exact Nat.le_refl _⟩,⟨by (with_reducible repeat (first | apply Kd.R_alloc | apply Kd.R_drewN | apply Kd.R_drew));exact HO_317000.out⟩,⟨BK312.out⟩,⟨BK316.out⟩,⟨HB.out⟩⟩
       case rest =>
        clear HC74
        obtain ⟨kq,x140_73,rfl,HA,HJ73,HO_317000,BK312,BK316,HB⟩:=hcut
        cases kq with
        | zero=>exact absurd HA.out (by simp [l8_GateFlow.j2])
        | succ kj73 =>
         have H:=HA.out
         clear HA
         simp only [l8_GateFlow.j2] at H
         by_cases c90 : x140_73 = true
         ·subst c90
          replace H : (some false) = some r:=by rw [if_pos rfl] at H;exact H
          obtain rfl:=Option.some.inj H
          go_wp2
          go_ret
          exact ⟨by first | rfl | (simp [*]<;>rfl),HB.out⟩
         ·replace c90:=Bool.eq_false_iff.mpr c90
          subst c90
          replace H : (if t328 = true then (if t330 = 3 then (if t335 = 5 then (if ((t330 == 3) != (t335 == 5)) = true then (some false) else (if t336 = 3 then (if t330 = 1 then (if t336 = 1 then ((l8_known.f).bind fun t338=>(some t338)) else (some false)) else ((l8_known.f).bind fun t339=>(some t339))) else (some false))) else (some false)) else (some false)) else (if ((t330 == 3) != (t335 == 5)) = true then (some false) else (if t330 = 3 then (if t336 = 3 then (if t330 = 1 then (if t336 = 1 then ((l8_known.f).bind fun t340=>(some t340)) else (some false)) else ((l8_known.f).bind fun t341=>(some t341))) else (some false)) else (if t330 = 1 then (if t336 = 1 then ((l8_known.f).bind fun t342=>(some t342)) else (some false)) else ((l8_known.f).bind fun t343=>(some t343)))))) = some r:=by rw [if_neg (show ¬ (false = true) by decide)] at H;exact H
          by_cases c91 : t328 = true
          ·subst c91
           replace H : (if t330 = 3 then (if t335 = 5 then (if ((t330 == 3) != (t335 == 5)) = true then (some false) else (if t336 = 3 then (if t330 = 1 then (if t336 = 1 then ((l8_known.f).bind fun t338=>(some t338)) else (some false)) else ((l8_known.f).bind fun t339=>(some t339))) else (some false))) else (some false)) else (some false)) = some r:=by rw [if_pos rfl] at H;exact H
           by_cases c92 : t330 = 3
           case neg =>
            rw [if_neg c92] at H
            have c92b0 : (t330 == 3) = false:=beq_eq_false_iff_ne.mpr c92
            have c92b1 : (t330 != 3) = true:=bne_iff_ne.mpr c92
            obtain rfl:=Option.some.inj H
            go_wp2
            go_ret
            exact ⟨by first | rfl | (simp [*]<;>rfl),HB.out⟩
           rw [if_pos c92] at H
           have c92b0 : (t330 == 3) = true:=beq_iff_eq.mpr c92
           have c92b1 : (t330 != 3) = false:=bne_eq_false_iff_eq.mpr c92
           clear c92
           by_cases c93 : t335 = 5
           case neg =>
            rw [if_neg c93] at H
            have c93b0 : (t335 == 5) = false:=beq_eq_false_iff_ne.mpr c93
            have c93b1 : (t335 != 5) = true:=bne_iff_ne.mpr c93
            obtain rfl:=Option.some.inj H
            go_wp2
            go_ret
            exact ⟨by first | rfl | (simp [*]<;>rfl),HB.out⟩
           rw [if_pos c93] at H
           have c93b0 : (t335 == 5) = true:=beq_iff_eq.mpr c93
           have c93b1 : (t335 != 5) = false:=bne_eq_false_iff_eq.mpr c93
           clear c93
           by_cases c94 : ((t330 == 3) != (t335 == 5)) = true
           ·rw [if_pos c94] at H
            have c94b0 : ((t330 == 3) != (t335 == 5)) = true:=c94
            (try (have c94b1 : decide ((t330 == 3) = (t335 == 5)) = false:=by simpa using c94))
            (try (have c94b2 : ((t330 == 3) == (t335 == 5)) = false:=by simpa using c94))
            (try (have c94b3 : ¬ ((t330 == 3) = (t335 == 5)):=by simpa using c94))
            clear c94
            obtain rfl:=Option.some.inj H
            exact absurd c94b0 (by rw [c92b0,c93b0];decide)
           ·rw [if_neg c94] at H
            have c94b0 : ((t330 == 3) != (t335 == 5)) = false:=by simpa using c94
            (try (have c94b1 : decide ((t330 == 3) = (t335 == 5)) = true:=by simpa using c94))
            (try (have c94b2 : ((t330 == 3) == (t335 == 5)) = true:=by simpa using c94))
            clear c94
            by_cases c95 : t336 = 3
            case neg =>
             rw [if_neg c95] at H
             have c95b0 : (t336 == 3) = false:=beq_eq_false_iff_ne.mpr c95
             have c95b1 : (t336 != 3) = true:=bne_iff_ne.mpr c95
             obtain rfl:=Option.some.inj H
             go_wp2
             go_ret
             exact ⟨by first | rfl | (simp [*]<;>rfl),HB.out⟩
            rw [if_pos c95] at H
            have c95b0 : (t336 == 3) = true:=beq_iff_eq.mpr c95
            have c95b1 : (t336 != 3) = false:=bne_eq_false_iff_eq.mpr c95
            clear c95
            by_cases c96 : t330 = 1
            case neg =>
             rw [if_neg c96] at H
             have c96b0 : (t330 == 1) = false:=beq_eq_false_iff_ne.mpr c96
             have c96b1 : (t330 != 1) = true:=bne_iff_ne.mpr c96
             replace H:=obm H
             obtain ⟨t339,A1000,H⟩:=H
             replace H : (some t339) = some r:=H
             have A100:=am A1000
             clear A1000
             obtain rfl:=Option.some.inj H
             go_wp2_with (first | (go_at_call 15;(refine (l8_known.calls  t339 _ A100.out).mono ?_);rintro e w101 ⟨rfl,hb⟩;replace HO_317000:=am (Kd.R_below HO_317000.out hb);replace BK312:=(kmv hb BK312);replace BK316:=(kmv hb BK316);replace HB:=am (below_step (HB.out) hb);(try clear hb);(try clear hb2);(try clear hk);(try clear hi)))
             go_ret
             exact ⟨by first | rfl | (simp [*]<;>rfl),HB.out⟩
            rw [if_pos c96] at H
            have c96b0 : (t330 == 1) = true:=beq_iff_eq.mpr c96
            have c96b1 : (t330 != 1) = false:=bne_eq_false_iff_eq.mpr c96
            clear c96
            by_cases c97 : t336 = 1
            case neg =>
             rw [if_neg c97] at H
             have c97b0 : (t336 == 1) = false:=beq_eq_false_iff_ne.mpr c97
             have c97b1 : (t336 != 1) = true:=bne_iff_ne.mpr c97
             obtain rfl:=Option.some.inj H
             go_wp2
             go_ret
             exact ⟨by first | rfl | (simp [*]<;>rfl),HB.out⟩
            rw [if_pos c97] at H
            have c97b0 : (t336 == 1) = true:=beq_iff_eq.mpr c97
            have c97b1 : (t336 != 1) = false:=bne_eq_false_iff_eq.mpr c97
            clear c97
            replace H:=obm H
            obtain ⟨t338,A980,H⟩:=H
            replace H : (some t338) = some r:=H
            have A98:=am A980
            clear A980
            obtain rfl:=Option.some.inj H
            go_wp2_with (first | (go_at_call 15;(refine (l8_known.calls  t338 _ A98.out).mono ?_);rintro e w99 ⟨rfl,hb⟩;replace HO_317000:=am (Kd.R_below HO_317000.out hb);replace BK312:=(kmv hb BK312);replace BK316:=(kmv hb BK316);replace HB:=am (below_step (HB.out) hb);(try clear hb);(try clear hb2);(try clear hk);(try clear hi)))
            go_ret
            exact ⟨by first | rfl | (simp [*]<;>rfl),HB.out⟩
          ·replace c91:=Bool.eq_false_iff.mpr c91
           subst c91
           replace H : (if ((t330 == 3) != (t335 == 5)) = true then (some false) else (if t330 = 3 then (if t336 = 3 then (if t330 = 1 then (if t336 = 1 then ((l8_known.f).bind fun t340=>(some t340)) else (some false)) else ((l8_known.f).bind fun t341=>(some t341))) else (some false)) else (if t330 = 1 then (if t336 = 1 then ((l8_known.f).bind fun t342=>(some t342)) else (some false)) else ((l8_known.f).bind fun t343=>(some t343))))) = some r:=by rw [if_neg (show ¬ (false = true) by decide)] at H;exact H
           by_cases c102 : ((t330 == 3) != (t335 == 5)) = true
           ·rw [if_pos c102] at H
            have c102b0 : ((t330 == 3) != (t335 == 5)) = true:=c102
            (try (have c102b1 : decide ((t330 == 3) = (t335 == 5)) = false:=by simpa using c102))
            (try (have c102b2 : ((t330 == 3) == (t335 == 5)) = false:=by simpa using c102))
            (try (have c102b3 : ¬ ((t330 == 3) = (t335 == 5)):=by simpa using c102))
            clear c102
            obtain rfl:=Option.some.inj H
            go_wp2
            go_ret
            exact ⟨by first | rfl | (simp [*]<;>rfl),HB.out⟩
           ·rw [if_neg c102] at H
            have c102b0 : ((t330 == 3) != (t335 == 5)) = false:=by simpa using c102
            (try (have c102b1 : decide ((t330 == 3) = (t335 == 5)) = true:=by simpa using c102))
            (try (have c102b2 : ((t330 == 3) == (t335 == 5)) = true:=by simpa using c102))
            clear c102
            by_cases c103 : t330 = 3
            case neg =>
             rw [if_neg c103] at H
             have c103b0 : (t330 == 3) = false:=beq_eq_false_iff_ne.mpr c103
             have c103b1 : (t330 != 3) = true:=bne_iff_ne.mpr c103
             by_cases c111 : t330 = 1
             case neg =>
              rw [if_neg c111] at H
              have c111b0 : (t330 == 1) = false:=beq_eq_false_iff_ne.mpr c111
              have c111b1 : (t330 != 1) = true:=bne_iff_ne.mpr c111
              replace H:=obm H
              obtain ⟨t343,A1150,H⟩:=H
              replace H : (some t343) = some r:=H
              have A115:=am A1150
              clear A1150
              obtain rfl:=Option.some.inj H
              have hbt335_5 : (t335 == 5) = false:=by rw [c103b0] at c102b0;simpa using c102b0
              go_wp2_with (first | (go_at_call 15;(refine (l8_known.calls  t343 _ A115.out).mono ?_);rintro e w116 ⟨rfl,hb⟩;replace HO_317000:=am (Kd.R_below HO_317000.out hb);replace BK312:=(kmv hb BK312);replace BK316:=(kmv hb BK316);replace HB:=am (below_step (HB.out) hb);(try clear hb);(try clear hb2);(try clear hk);(try clear hi)))
              go_ret
              exact ⟨by first | rfl | (simp [*]<;>rfl),HB.out⟩
             rw [if_pos c111] at H
             have c111b0 : (t330 == 1) = true:=beq_iff_eq.mpr c111
             have c111b1 : (t330 != 1) = false:=bne_eq_false_iff_eq.mpr c111
             clear c111
             by_cases c112 : t336 = 1
             case neg =>
              rw [if_neg c112] at H
              have c112b0 : (t336 == 1) = false:=beq_eq_false_iff_ne.mpr c112
              have c112b1 : (t336 != 1) = true:=bne_iff_ne.mpr c112
              obtain rfl:=Option.some.inj H
              have hbt335_5 : (t335 == 5) = false:=by rw [c103b0] at c102b0;simpa using c102b0
              go_wp2
              go_ret
              exact ⟨by first | rfl | (simp [*]<;>rfl),HB.out⟩
             rw [if_pos c112] at H
             have c112b0 : (t336 == 1) = true:=beq_iff_eq.mpr c112
             have c112b1 : (t336 != 1) = false:=bne_eq_false_iff_eq.mpr c112
             clear c112
             replace H:=obm H
             obtain ⟨t342,A1130,H⟩:=H
             replace H : (some t342) = some r:=H
             have A113:=am A1130
             clear A1130
             obtain rfl:=Option.some.inj H
             have hbt335_5 : (t335 == 5) = false:=by rw [c103b0] at c102b0;simpa using c102b0
             go_wp2_with (first | (go_at_call 15;(refine (l8_known.calls  t342 _ A113.out).mono ?_);rintro e w114 ⟨rfl,hb⟩;replace HO_317000:=am (Kd.R_below HO_317000.out hb);replace BK312:=(kmv hb BK312);replace BK316:=(kmv hb BK316);replace HB:=am (below_step (HB.out) hb);(try clear hb);(try clear hb2);(try clear hk);(try clear hi)))
             go_ret
             exact ⟨by first | rfl | (simp [*]<;>rfl),HB.out⟩
            rw [if_pos c103] at H
            have c103b0 : (t330 == 3) = true:=beq_iff_eq.mpr c103
            have c103b1 : (t330 != 3) = false:=bne_eq_false_iff_eq.mpr c103
            clear c103
            by_cases c104 : t336 = 3
            case neg =>
             rw [if_neg c104] at H
             have c104b0 : (t336 == 3) = false:=beq_eq_false_iff_ne.mpr c104
             have c104b1 : (t336 != 3) = true:=bne_iff_ne.mpr c104
             obtain rfl:=Option.some.inj H
             have hbt335_5 : (t335 == 5) = true:=by rw [c103b0] at c102b0;simpa using c102b0
             go_wp2
             go_ret
             exact ⟨by first | rfl | (simp [*]<;>rfl),HB.out⟩
            rw [if_pos c104] at H
            have c104b0 : (t336 == 3) = true:=beq_iff_eq.mpr c104
            have c104b1 : (t336 != 3) = false:=bne_eq_false_iff_eq.mpr c104
            clear c104
            by_cases c105 : t330 = 1
            case neg =>
             rw [if_neg c105] at H
             have c105b0 : (t330 == 1) = false:=beq_eq_false_iff_ne.mpr c105
             have c105b1 : (t330 != 1) = true:=bne_iff_ne.mpr c105
             replace H:=obm H
             obtain ⟨t341,A1090,H⟩:=H
             replace H : (some t341) = some r:=H
             have A109:=am A1090
             clear A1090
             obtain rfl:=Option.some.inj H
             have hbt335_5 : (t335 == 5) = true:=by rw [c103b0] at c102b0;simpa using c102b0
             go_wp2_with (first | (go_at_call 15;(refine (l8_known.calls  t341 _ A109.out).mono ?_);rintro e w110 ⟨rfl,hb⟩;replace HO_317000:=am (Kd.R_below HO_317000.out hb);replace BK312:=(kmv hb BK312);replace BK316:=(kmv hb BK316);replace HB:=am (below_step (HB.out) hb);(try clear hb);(try clear hb2);(try clear hk);(try clear hi)))
             go_ret
             exact ⟨by first | rfl | (simp [*]<;>rfl),HB.out⟩
            rw [if_pos c105] at H
            have c105b0 : (t330 == 1) = true:=beq_iff_eq.mpr c105
            have c105b1 : (t330 != 1) = false:=bne_eq_false_iff_eq.mpr c105
            clear c105
            by_cases c106 : t336 = 1
            case neg =>
             rw [if_neg c106] at H
             have c106b0 : (t336 == 1) = false:=beq_eq_false_iff_ne.mpr c106
             have c106b1 : (t336 != 1) = true:=bne_iff_ne.mpr c106
             obtain rfl:=Option.some.inj H
             have hbt335_5 : (t335 == 5) = true:=by rw [c103b0] at c102b0;simpa using c102b0
             go_wp2
             go_ret
             exact ⟨by first | rfl | (simp [*]<;>rfl),HB.out⟩
            rw [if_pos c106] at H
            have c106b0 : (t336 == 1) = true:=beq_iff_eq.mpr c106
            have c106b1 : (t336 != 1) = false:=bne_eq_false_iff_eq.mpr c106
            clear c106
            replace H:=obm H
            obtain ⟨t340,A1070,H⟩:=H
            replace H : (some t340) = some r:=H
            have A107:=am A1070
            clear A1070
            obtain rfl:=Option.some.inj H
            have hbt335_5 : (t335 == 5) = true:=by rw [c103b0] at c102b0;simpa using c102b0
            go_wp2_with (first | (go_at_call 15;(refine (l8_known.calls  t340 _ A107.out).mono ?_);rintro e w108 ⟨rfl,hb⟩;replace HO_317000:=am (Kd.R_below HO_317000.out hb);replace BK312:=(kmv hb BK312);replace BK316:=(kmv hb BK316);replace HB:=am (below_step (HB.out) hb);(try clear hb);(try clear hb2);(try clear hk);(try clear hi)))
            go_ret
            exact ⟨by first | rfl | (simp [*]<;>rfl),HB.out⟩
      rw [if_pos c32] at H
      have c32b0 : decide (x10_2 < (l3.length : Int)) = true:=decide_eq_true c32
      clear c32
      by_cases c33 : 0≤x10_2
      case neg =>
       rw [if_neg c33] at H
       exact absurd H (by simp)
      rw [if_pos c33] at H
      have c33b0 : decide (0≤x10_2) = true:=decide_eq_true c33
      clear c33
      by_cases c34 : x10_2 < (l0_0.length : Int)
      case neg =>
       rw [if_neg c34] at H
       exact absurd H (by simp)
      rw [if_pos c34] at H
      have c34b0 : decide (x10_2 < (l0_0.length : Int)) = true:=decide_eq_true c34
      clear c34
      by_cases c35 : (rd l3 x10_2) < ((rd_T37 l0_0 x10_2).f0.f0)
      ·rw [if_pos c35] at H
       have c35b0 : decide ((rd l3 x10_2) < ((rd_T37 l0_0 x10_2).f0.f0)) = true:=decide_eq_true c35
       clear c35
       replace H:=obm H
       obtain ⟨t320,A360,H⟩:=H
       replace H : (some t320) = some r:=H
       have A36:=am A360
       clear A360
       obtain rfl:=Option.some.inj H
       have hnb37:=NB312_316.out
       have hnc37:=NB316_312.out
       obtain ⟨hcz38_0,hcz38_1⟩:=cO2 BK312.out
       have p317 : 0≤(x10_2 : Int):=of_decide_eq_true (by assumption)
       have q317 : x10_2 < (l0_0.length : Int):=of_decide_eq_true (by assumption)
       obtain ⟨ad317,e317,hx317_0,hx317_1,hx317_2⟩:=at_T37 HR0_0.out x10_2 p317 q317
       cases e317
       replace hx317_0:=(HB.out.cell (wbl hx317_0)).trans hx317_0
       replace hx317_1:=(HB.out.cell (wbl hx317_1)).trans hx317_1
       replace hx317_2:=(HB.out.cell (wbl hx317_2)).trans hx317_2
       replace p317:=eq_true p317
       replace q317:=eq_true q317
       try go_wp2_with (first | ((refine ga_dst (N:=11) rfl ?_);(try (refine ga_guard (by rfl) ?_;dsimp only));refine box_event rfl (N:=11) rfl (cs:=#[.int .i64 0,.int .i64 0,.int .i64 0]) (t:=37) ?hr ?_;(case hr=>go_simp;try rfl);intro gb318 hg w39 hbox hb;have BK318:=am (hbox);have GW318:=am (ge_new (HB.out) hg);have GE318:=am (ge_new (HB.out) hg);have NB312_318:=am (ne_new BK312.out hg);have NB318_312:=am (ne_new2 BK312.out hg);have NB316_318:=am (ne_new BK316.out hg);have NB318_316:=am (ne_new2 BK316.out hg);replace HO_317000:=am (Kd.R_below (Kd.R_elderB HO_317000.out gb318 (Nat.le_of_eq hg.symm)) hb);replace BK312:=(kmv hb BK312);replace BK316:=(kmv hb BK316);replace HB:=am (below_step (HB.out) hb);clear hb hbox hg;have hnb40:=NB318_312.out;have hnc40:=NB312_318.out;have hnb41:=NB318_316.out;have hnc41:=NB316_318.out;obtain ⟨hcz42_0,hcz42_1,hcz42_2⟩:=cO3 BK318.out;have hfz42_0:=blk_frozen BK318.out 0;have hfz42_1:=blk_frozen BK318.out 1;have hfz42_2:=blk_frozen BK318.out 2))
       have n0_ : Aside0 (Kd.R k37 37 (((w39.setCell ⟨gb318,0,none⟩ (.int .i64 ((rd_T37 l0_0 x10_2).f0.f0))).setCell ⟨gb318,1,none⟩ (.int .i64 ((rd_T37 l0_0 x10_2).f0.f1))).setCell ⟨gb318,2,none⟩ (.int .i64 ((rd_T37 l0_0 x10_2).f1))) w.heap.size (fun k_=>k_ ≠ gb318) u317000 x317000_2):=⟨by (with_reducible repeat (first | apply Kd.R_alloc | apply Kd.R_drewN | apply Kd.R_drew));exact Kd.R_mono (Kd.R_far (p:=⟨gb318,2,none⟩) (Kd.R_far (p:=⟨gb318,1,none⟩) (Kd.R_far (p:=⟨gb318,0,none⟩) (Kd.R_mono HO_317000.out (fun k_ hk=>(⟨hk,hk.2⟩ : _∧k_ ≠ gb318))) (fun _ hk=>hk.2) (.int .i64 ((rd_T37 l0_0 x10_2).f0.f0))) (fun _ hk=>hk.2) (.int .i64 ((rd_T37 l0_0 x10_2).f0.f1))) (fun _ hk=>hk.2) (.int .i64 ((rd_T37 l0_0 x10_2).f1))) (fun _ hk=>hk.1.2)⟩
       have n1_ : Aside0 ((((w39.setCell ⟨gb318,0,none⟩ (.int .i64 ((rd_T37 l0_0 x10_2).f0.f0))).setCell ⟨gb318,1,none⟩ (.int .i64 ((rd_T37 l0_0 x10_2).f0.f1))).setCell ⟨gb318,2,none⟩ (.int .i64 ((rd_T37 l0_0 x10_2).f1))).heap[gb312]? = some (.cells #[.slice (some ad317) l0_0.length c0_0,.slice A0_1 l0_1.length c0_1] 25 (0,0))):=⟨(blk_far (blk_far (blk_far BK312.out NB312_318.out _) NB312_318.out _) NB312_318.out _)⟩
       have n2_ : Aside0 ((((w39.setCell ⟨gb318,0,none⟩ (.int .i64 ((rd_T37 l0_0 x10_2).f0.f0))).setCell ⟨gb318,1,none⟩ (.int .i64 ((rd_T37 l0_0 x10_2).f0.f1))).setCell ⟨gb318,2,none⟩ (.int .i64 ((rd_T37 l0_0 x10_2).f1))).heap[gb316]? = some (.cells #[u317000,.slice A0_1 l0_1.length c0_1] 25 (0,0))):=⟨(blk_far (blk_far (blk_far BK316.out NB316_318.out _) NB316_318.out _) NB316_318.out _)⟩
       have n3_ : Aside0 ((((w39.setCell ⟨gb318,0,none⟩ (.int .i64 ((rd_T37 l0_0 x10_2).f0.f0))).setCell ⟨gb318,1,none⟩ (.int .i64 ((rd_T37 l0_0 x10_2).f0.f1))).setCell ⟨gb318,2,none⟩ (.int .i64 ((rd_T37 l0_0 x10_2).f1))).heap[gb318]? = some (.cells #[.int .i64 ((rd_T37 l0_0 x10_2).f0.f0),.int .i64 ((rd_T37 l0_0 x10_2).f0.f1),.int .i64 ((rd_T37 l0_0 x10_2).f1)] 37 (0,0))):=⟨(blk_put (cs:=#[.int .i64 ((rd_T37 l0_0 x10_2).f0.f0),.int .i64 ((rd_T37 l0_0 x10_2).f0.f1),.int .i64 0]) (blk_put (cs:=#[.int .i64 ((rd_T37 l0_0 x10_2).f0.f0),.int .i64 0,.int .i64 0]) (blk_put (cs:=#[.int .i64 0,.int .i64 0,.int .i64 0]) BK318.out 0 _ rfl) 1 _ rfl) 2 _ rfl)⟩
       have n4_ : Aside0 (Below w.heap.size w (((w39.setCell ⟨gb318,0,none⟩ (.int .i64 ((rd_T37 l0_0 x10_2).f0.f0))).setCell ⟨gb318,1,none⟩ (.int .i64 ((rd_T37 l0_0 x10_2).f0.f1))).setCell ⟨gb318,2,none⟩ (.int .i64 ((rd_T37 l0_0 x10_2).f1)))):=⟨by repeat (first | (with_reducible first | exact HB.out | refine below_set ?_ (Aside0.out (by assumption)) | apply below_alloc | apply pw_below_drewN) | exact HB.out)⟩
       (try clear HO_317000)
       (try clear BK312)
       (try clear BK316)
       (try clear BK318)
       (try clear HB)
       generalize (((w39.setCell ⟨gb318,0,none⟩ (.int .i64 ((rd_T37 l0_0 x10_2).f0.f0))).setCell ⟨gb318,1,none⟩ (.int .i64 ((rd_T37 l0_0 x10_2).f0.f1))).setCell ⟨gb318,2,none⟩ (.int .i64 ((rd_T37 l0_0 x10_2).f1))) = w43 at n0_ n1_ n2_ n3_ n4_ ⊢
       have HO_317000:=n0_
       have BK312:=n1_
       have BK316:=n2_
       have BK318:=n3_
       have HB:=n4_
       clear n0_ n1_ n2_ n3_ n4_
       replace HO_317000:=am (Kd.R_drew HO_317000.out)
       replace BK312:=am (blk_drew BK312.out)
       replace BK316:=am (blk_drew BK316.out)
       replace BK318:=am (blk_drew BK318.out)
       replace HB:=am (below_drew1 HB.out)
       have p319 : 0≤(x10_2 : Int):=of_decide_eq_true (by assumption)
       have q319 : x10_2 < (l3.length : Int):=of_decide_eq_true (by assumption)
       obtain ⟨ad319,e319,hx319_0⟩:=Kd.at_int HR3.out x10_2 p319 q319
       have hw319_0:=hx319_0
       cases e319
       replace hx319_0:=(HB.out.cell (wbl hx319_0)).trans hx319_0
       replace p319:=eq_true p319
       replace q319:=eq_true q319
       refine start_ (n:=18) (S:=fun w'=>w'.cell? ⟨gb318,0,none⟩ = some (.int .i64 ((rd_T37 l0_0 x10_2).f0.f0))∧w'.cell? ⟨gb318,1,none⟩ = some (.int .i64 ((rd_T37 l0_0 x10_2).f0.f1))∧w'.cell? ⟨gb318,2,none⟩ = some (.int .i64 ((rd_T37 l0_0 x10_2).f1))∧w'.cell? (ad319.add (x10_2).toNat) = some (.int .i64 (rd l3 x10_2))) (ds:=[]) (ba 18 0) (by kernel_rfl) rfl rfl ⟨(blk_cell BK318.out 0).trans rfl,(blk_cell BK318.out 1).trans rfl,(blk_cell BK318.out 2).trans rfl,((HB.out.cell (wbl hw319_0)).trans hw319_0)⟩ (fun hHeld=>?_);refine with_tabW l8_GateFlow.tab8 l8_GateFlow.bits8 (fun HT_ HW_=>?_)
       generalize w43.drew = w44 at HO_317000 BK312 BK316 BK318 HB hx319_0 hHeld ⊢
       refine pure_ (i:=0) (N:=some 58) (v:=?_) (a':=?_) (ba 18 1) rfl rfl (any_of HT_.out (by kernel_rfl)) (fun _ _ _ h=>h) (Or.inl ⟨by rfl,?_⟩) ?_ ?_
       rotate_left
       ·intro w'
        go_simp
        with_reducible rfl
       rotate_left
       ·simp only [Act.put,NRM]
        rfl
       refine pure_ (i:=1) (N:=some 59) (v:=?_) (a':=?_) (ba 18 3) rfl rfl (any_of HT_.out (by kernel_rfl)) (fun _ _ _ h=>h) (Or.inl ⟨by rfl,?_⟩) ?_ ?_
       rotate_left
       ·intro w'
        go_simp
        with_reducible rfl
       rotate_left
       ·simp only [Act.put,NRM]
        rfl
       refine pure_ (i:=2) (N:=some 60) (v:=?_) (a':=?_) (ba 18 7) rfl rfl (any_of HT_.out (by kernel_rfl)) (fun _ _ _ h=>h) (Or.inl ⟨by rfl,?_⟩) ?_ ?_
       rotate_left
       ·intro w'
        go_simp
        with_reducible rfl
       rotate_left
       ·simp only [Act.put,NRM]
        rfl
       refine pure_ (i:=4) (N:=some 62) (v:=?_) (a':=?_) (ba 18 23) rfl rfl (any_of HT_.out (by kernel_rfl)) (fun _ _ _ h=>h) (Or.inl ⟨by rfl,?_⟩) ?_ ?_
       rotate_left
       ·intro w'
        go_simp
        with_reducible rfl
       rotate_left
       ·simp only [Act.put,NRM]
        rfl
       refine pure_ (i:=5) (N:=some 63) (v:=?_) (a':=?_) (ba 18 55) rfl rfl (any_of HT_.out (by kernel_rfl)) (fun _ _ _ h=>h) (Or.inl ⟨by rfl,?_⟩) ?_ ?_
       rotate_left
       ·intro w'
        go_simp
        with_reducible rfl
       rotate_left
       ·simp only [Act.put,NRM]
        rfl
       refine take_ (i:=3) (N:=some 61) (v:=?_) (a':=?_) (ba 18 63) rfl rfl (take_ofW HT_.out HW_.out (by kernel_rfl)) (fun _ _ _ h=>h) (Or.inl ⟨by rfl,?_⟩) hHeld ?_ ?_
       rotate_left
       ·rintro w' ⟨s0,s1,s2,s3⟩
        go_simp
        with_reducible rfl
       rotate_left
       ·simp only [Act.put,NRM]
        rfl
       refine take_ (i:=6) (N:=some 64) (v:=?_) (a':=?_) (ba 18 127) rfl rfl (take_ofW HT_.out HW_.out (by kernel_rfl)) (fun _ _ _ h=>h) (Or.inl ⟨by rfl,?_⟩) hHeld ?_ ?_
       rotate_left
       ·rintro w' ⟨s0,s1,s2,s3⟩
        go_simp
        with_reducible rfl
       rotate_left
       ·simp only [Act.put,NRM]
        rfl
       refine pure_ (i:=7) (N:=some 65) (v:=?_) (a':=?_) (ba 18 255) rfl rfl (any_of HT_.out (by kernel_rfl)) (fun _ _ _ h=>h) (Or.inl ⟨by rfl,?_⟩) ?_ ?_
       rotate_left
       ·intro w'
        go_simp
        with_reducible rfl
       rotate_left
       ·simp only [Act.put,NRM]
        rfl
       refine pure_ (i:=8) (N:=some 66) (v:=?_) (a':=?_) (ba 18 511) rfl rfl (any_of HT_.out (by kernel_rfl)) (fun _ _ _ h=>h) (Or.inl ⟨by rfl,?_⟩) ?_ ?_
       rotate_left
       ·intro w'
        go_simp
        with_reducible rfl
       rotate_left
       ·simp only [Act.put,NRM]
        rfl
       refine pure_ (i:=9) (N:=some 67) (v:=undef) (a':=?_) (ba 18 1023) rfl rfl (any_of HT_.out (by kernel_rfl)) (fun _ _ _ h=>h) (Or.inr ⟨by rfl,rfl⟩) ?_ ?_
       rotate_left
       ·simp only [Act.put,NRM]
        rfl
       refine pure_ (i:=10) (N:=some 68) (v:=undef) (a':=?_) (ba 18 2047) rfl rfl (any_of HT_.out (by kernel_rfl)) (fun _ _ _ h=>h) (Or.inr ⟨by rfl,rfl⟩) ?_ ?_
       rotate_left
       ·simp only [Act.put,NRM]
        rfl
       refine pure_ (i:=11) (N:=some 69) (v:=undef) (a':=?_) (ba 18 4095) rfl rfl (any_of HT_.out (by kernel_rfl)) (fun _ _ _ h=>h) (Or.inr ⟨by rfl,rfl⟩) ?_ ?_
       rotate_left
       ·simp only [Act.put,NRM]
        rfl
       refine pure_ (i:=12) (N:=some 70) (v:=undef) (a':=?_) (ba 18 8191) rfl rfl (any_of HT_.out (by kernel_rfl)) (fun _ _ _ h=>h) (Or.inr ⟨by rfl,rfl⟩) ?_ ?_
       rotate_left
       ·simp only [Act.put,NRM]
        rfl
       refine pure_ (i:=13) (N:=some 71) (v:=undef) (a':=?_) (ba 18 16383) rfl rfl (any_of HT_.out (by kernel_rfl)) (fun _ _ _ h=>h) (Or.inr ⟨by rfl,rfl⟩) ?_ ?_
       rotate_left
       ·simp only [Act.put,NRM]
        rfl
       refine pure_ (i:=14) (N:=some 72) (v:=undef) (a':=?_) (ba 18 32767) rfl rfl (any_of HT_.out (by kernel_rfl)) (fun _ _ _ h=>h) (Or.inr ⟨by rfl,rfl⟩) ?_ ?_
       rotate_left
       ·simp only [Act.put,NRM]
        rfl
       refine pure_ (i:=15) (N:=some 73) (v:=undef) (a':=?_) (ba 18 65535) rfl rfl (any_of HT_.out (by kernel_rfl)) (fun _ _ _ h=>h) (Or.inr ⟨by rfl,rfl⟩) ?_ ?_
       rotate_left
       ·simp only [Act.put,NRM]
        rfl
       refine pure_ (i:=16) (N:=some 74) (v:=undef) (a':=?_) (ba 18 131071) rfl rfl (any_of HT_.out (by kernel_rfl)) (fun _ _ _ h=>h) (Or.inr ⟨by rfl,rfl⟩) ?_ ?_
       rotate_left
       ·simp only [Act.put,NRM]
        rfl
       refine pure_ (i:=17) (N:=some 75) (v:=?_) (a':=?_) (ba 18 262143) rfl rfl (any_of HT_.out (by kernel_rfl)) (fun _ _ _ h=>h) (Or.inl ⟨by rfl,?_⟩) ?_ ?_
       rotate_left
       ·intro w'
        go_simp
        with_reducible rfl
       rotate_left
       ·simp only [Act.put,NRM]
        rfl
       refine done_ (done_of HT_.out (by kernel_rfl)) ?_
       try go_wp2_with (first | ((with_reducible refine ga_callee (f:=15) rfl ?_);refine goesL_ (some 76) rfl rfl Tryz.func15 (by kernel_rfl) rfl #[] rfl (by (try simp only [List.map_toArray,List.map_cons,List.map_nil]);first | done | rfl | (simp only [List.length_drop,List.length_take];rfl)) ?_;(refine (l8_known.calls  t320 _ A36.out).mono ?_);rintro e w45 ⟨rfl,hb⟩;refine ⟨_,rfl,?_⟩;replace HO_317000:=am (Kd.R_below HO_317000.out hb);replace BK312:=(kmv hb BK312);replace BK316:=(kmv hb BK316);replace BK318:=(kmv hb BK318);replace HB:=am (below_step (HB.out) hb);(try clear hb);(try clear hb2);(try clear hk);(try clear hi)))
       go_ret
       exact ⟨by first | rfl | (simp [*]<;>rfl),HB.out⟩
      ·rw [if_neg c35] at H
       have c35b0 : decide ((rd l3 x10_2) < ((rd_T37 l0_0 x10_2).f0.f0)) = false:=decide_eq_false c35
       clear c35
       by_cases c46 : (rd l3 x10_2) > ((rd_T37 l0_0 x10_2).f0.f1)
       ·rw [if_pos c46] at H
        have c46b0 : decide (((rd_T37 l0_0 x10_2).f0.f1) < (rd l3 x10_2)) = true:=decide_eq_true c46
        clear c46
        replace H:=obm H
        obtain ⟨t322,A470,H⟩:=H
        replace H : (some t322) = some r:=H
        have A47:=am A470
        clear A470
        obtain rfl:=Option.some.inj H
        have hnb48:=NB312_316.out
        have hnc48:=NB316_312.out
        obtain ⟨hcz49_0,hcz49_1⟩:=cO2 BK312.out
        have p317 : 0≤(x10_2 : Int):=of_decide_eq_true (by assumption)
        have q317 : x10_2 < (l0_0.length : Int):=of_decide_eq_true (by assumption)
        obtain ⟨ad317,e317,hx317_0,hx317_1,hx317_2⟩:=at_T37 HR0_0.out x10_2 p317 q317
        cases e317
        replace hx317_0:=(HB.out.cell (wbl hx317_0)).trans hx317_0
        replace hx317_1:=(HB.out.cell (wbl hx317_1)).trans hx317_1
        replace hx317_2:=(HB.out.cell (wbl hx317_2)).trans hx317_2
        replace p317:=eq_true p317
        replace q317:=eq_true q317
        try go_wp2_with (first | ((refine ga_dst (N:=11) rfl ?_);(try (refine ga_guard (by rfl) ?_;dsimp only));refine box_event rfl (N:=11) rfl (cs:=#[.int .i64 0,.int .i64 0,.int .i64 0]) (t:=37) ?hr ?_;(case hr=>go_simp;try rfl);intro gb318 hg w50 hbox hb;have BK318:=am (hbox);have GW318:=am (ge_new (HB.out) hg);have GE318:=am (ge_new (HB.out) hg);have NB312_318:=am (ne_new BK312.out hg);have NB318_312:=am (ne_new2 BK312.out hg);have NB316_318:=am (ne_new BK316.out hg);have NB318_316:=am (ne_new2 BK316.out hg);replace HO_317000:=am (Kd.R_below (Kd.R_elderB HO_317000.out gb318 (Nat.le_of_eq hg.symm)) hb);replace BK312:=(kmv hb BK312);replace BK316:=(kmv hb BK316);replace HB:=am (below_step (HB.out) hb);clear hb hbox hg;have hnb51:=NB318_312.out;have hnc51:=NB312_318.out;have hnb52:=NB318_316.out;have hnc52:=NB316_318.out;obtain ⟨hcz53_0,hcz53_1,hcz53_2⟩:=cO3 BK318.out;have hfz53_0:=blk_frozen BK318.out 0;have hfz53_1:=blk_frozen BK318.out 1;have hfz53_2:=blk_frozen BK318.out 2))
        have n0_ : Aside0 (Kd.R k37 37 (((w50.setCell ⟨gb318,0,none⟩ (.int .i64 ((rd_T37 l0_0 x10_2).f0.f0))).setCell ⟨gb318,1,none⟩ (.int .i64 ((rd_T37 l0_0 x10_2).f0.f1))).setCell ⟨gb318,2,none⟩ (.int .i64 ((rd_T37 l0_0 x10_2).f1))) w.heap.size (fun k_=>k_ ≠ gb318) u317000 x317000_2):=⟨by (with_reducible repeat (first | apply Kd.R_alloc | apply Kd.R_drewN | apply Kd.R_drew));exact Kd.R_mono (Kd.R_far (p:=⟨gb318,2,none⟩) (Kd.R_far (p:=⟨gb318,1,none⟩) (Kd.R_far (p:=⟨gb318,0,none⟩) (Kd.R_mono HO_317000.out (fun k_ hk=>(⟨hk,hk.2⟩ : _∧k_ ≠ gb318))) (fun _ hk=>hk.2) (.int .i64 ((rd_T37 l0_0 x10_2).f0.f0))) (fun _ hk=>hk.2) (.int .i64 ((rd_T37 l0_0 x10_2).f0.f1))) (fun _ hk=>hk.2) (.int .i64 ((rd_T37 l0_0 x10_2).f1))) (fun _ hk=>hk.1.2)⟩
        have n1_ : Aside0 ((((w50.setCell ⟨gb318,0,none⟩ (.int .i64 ((rd_T37 l0_0 x10_2).f0.f0))).setCell ⟨gb318,1,none⟩ (.int .i64 ((rd_T37 l0_0 x10_2).f0.f1))).setCell ⟨gb318,2,none⟩ (.int .i64 ((rd_T37 l0_0 x10_2).f1))).heap[gb312]? = some (.cells #[.slice (some ad317) l0_0.length c0_0,.slice A0_1 l0_1.length c0_1] 25 (0,0))):=⟨(blk_far (blk_far (blk_far BK312.out NB312_318.out _) NB312_318.out _) NB312_318.out _)⟩
        have n2_ : Aside0 ((((w50.setCell ⟨gb318,0,none⟩ (.int .i64 ((rd_T37 l0_0 x10_2).f0.f0))).setCell ⟨gb318,1,none⟩ (.int .i64 ((rd_T37 l0_0 x10_2).f0.f1))).setCell ⟨gb318,2,none⟩ (.int .i64 ((rd_T37 l0_0 x10_2).f1))).heap[gb316]? = some (.cells #[u317000,.slice A0_1 l0_1.length c0_1] 25 (0,0))):=⟨(blk_far (blk_far (blk_far BK316.out NB316_318.out _) NB316_318.out _) NB316_318.out _)⟩
        have n3_ : Aside0 ((((w50.setCell ⟨gb318,0,none⟩ (.int .i64 ((rd_T37 l0_0 x10_2).f0.f0))).setCell ⟨gb318,1,none⟩ (.int .i64 ((rd_T37 l0_0 x10_2).f0.f1))).setCell ⟨gb318,2,none⟩ (.int .i64 ((rd_T37 l0_0 x10_2).f1))).heap[gb318]? = some (.cells #[.int .i64 ((rd_T37 l0_0 x10_2).f0.f0),.int .i64 ((rd_T37 l0_0 x10_2).f0.f1),.int .i64 ((rd_T37 l0_0 x10_2).f1)] 37 (0,0))):=⟨(blk_put (cs:=#[.int .i64 ((rd_T37 l0_0 x10_2).f0.f0),.int .i64 ((rd_T37 l0_0 x10_2).f0.f1),.int .i64 0]) (blk_put (cs:=#[.int .i64 ((rd_T37 l0_0 x10_2).f0.f0),.int .i64 0,.int .i64 0]) (blk_put (cs:=#[.int .i64 0,.int .i64 0,.int .i64 0]) BK318.out 0 _ rfl) 1 _ rfl) 2 _ rfl)⟩
        have n4_ : Aside0 (Below w.heap.size w (((w50.setCell ⟨gb318,0,none⟩ (.int .i64 ((rd_T37 l0_0 x10_2).f0.f0))).setCell ⟨gb318,1,none⟩ (.int .i64 ((rd_T37 l0_0 x10_2).f0.f1))).setCell ⟨gb318,2,none⟩ (.int .i64 ((rd_T37 l0_0 x10_2).f1)))):=⟨by repeat (first | (with_reducible first | exact HB.out | refine below_set ?_ (Aside0.out (by assumption)) | apply below_alloc | apply pw_below_drewN) | exact HB.out)⟩
        (try clear HO_317000)
        (try clear BK312)
        (try clear BK316)
        (try clear BK318)
        (try clear HB)
        generalize (((w50.setCell ⟨gb318,0,none⟩ (.int .i64 ((rd_T37 l0_0 x10_2).f0.f0))).setCell ⟨gb318,1,none⟩ (.int .i64 ((rd_T37 l0_0 x10_2).f0.f1))).setCell ⟨gb318,2,none⟩ (.int .i64 ((rd_T37 l0_0 x10_2).f1))) = w54 at n0_ n1_ n2_ n3_ n4_ ⊢
        have HO_317000:=n0_
        have BK312:=n1_
        have BK316:=n2_
        have BK318:=n3_
        have HB:=n4_
        clear n0_ n1_ n2_ n3_ n4_
        replace HO_317000:=am (Kd.R_drew HO_317000.out)
        replace BK312:=am (blk_drew BK312.out)
        replace BK316:=am (blk_drew BK316.out)
        replace BK318:=am (blk_drew BK318.out)
        replace HB:=am (below_drew1 HB.out)
        have p319 : 0≤(x10_2 : Int):=of_decide_eq_true (by assumption)
        have q319 : x10_2 < (l3.length : Int):=of_decide_eq_true (by assumption)
        obtain ⟨ad319,e319,hx319_0⟩:=Kd.at_int HR3.out x10_2 p319 q319
        have hw319_0:=hx319_0
        cases e319
        replace hx319_0:=(HB.out.cell (wbl hx319_0)).trans hx319_0
        replace p319:=eq_true p319
        replace q319:=eq_true q319
        have p321 : 0≤(x10_2 : Int):=of_decide_eq_true (by assumption)
        have q321 : x10_2 < (l3.length : Int):=of_decide_eq_true (by assumption)
        obtain ⟨ad321,e321,hx321_0⟩:=Kd.at_int HR3.out x10_2 p321 q321
        have hw321_0:=hx321_0
        obtain rfl : ad319 = ad321:=(by injection e321)
        replace hx321_0:=(HB.out.cell (wbl hx321_0)).trans hx321_0
        replace p321:=eq_true p321
        replace q321:=eq_true q321
        refine start_ (n:=18) (S:=fun w'=>w'.cell? ⟨gb318,0,none⟩ = some (.int .i64 ((rd_T37 l0_0 x10_2).f0.f0))∧w'.cell? ⟨gb318,1,none⟩ = some (.int .i64 ((rd_T37 l0_0 x10_2).f0.f1))∧w'.cell? ⟨gb318,2,none⟩ = some (.int .i64 ((rd_T37 l0_0 x10_2).f1))∧w'.cell? (ad319.add (x10_2).toNat) = some (.int .i64 (rd l3 x10_2))∧w'.cell? (ad319.add (x10_2).toNat) = some (.int .i64 (rd l3 x10_2))) (ds:=[]) (ba 18 0) (by kernel_rfl) rfl rfl ⟨(blk_cell BK318.out 0).trans rfl,(blk_cell BK318.out 1).trans rfl,(blk_cell BK318.out 2).trans rfl,((HB.out.cell (wbl hw319_0)).trans hw319_0),((HB.out.cell (wbl hw321_0)).trans hw321_0)⟩ (fun hHeld=>?_);refine with_tabW l8_GateFlow.tab8 l8_GateFlow.bits8 (fun HT_ HW_=>?_)
        generalize w54.drew = w55 at HO_317000 BK312 BK316 BK318 HB hx319_0 hx321_0 hHeld ⊢
        refine pure_ (i:=0) (N:=some 58) (v:=?_) (a':=?_) (ba 18 1) rfl rfl (any_of HT_.out (by kernel_rfl)) (fun _ _ _ h=>h) (Or.inl ⟨by rfl,?_⟩) ?_ ?_
        rotate_left
        ·intro w'
         go_simp
         with_reducible rfl
        rotate_left
        ·simp only [Act.put,NRM]
         rfl
        refine pure_ (i:=1) (N:=some 59) (v:=?_) (a':=?_) (ba 18 3) rfl rfl (any_of HT_.out (by kernel_rfl)) (fun _ _ _ h=>h) (Or.inl ⟨by rfl,?_⟩) ?_ ?_
        rotate_left
        ·intro w'
         go_simp
         with_reducible rfl
        rotate_left
        ·simp only [Act.put,NRM]
         rfl
        refine pure_ (i:=2) (N:=some 60) (v:=?_) (a':=?_) (ba 18 7) rfl rfl (any_of HT_.out (by kernel_rfl)) (fun _ _ _ h=>h) (Or.inl ⟨by rfl,?_⟩) ?_ ?_
        rotate_left
        ·intro w'
         go_simp
         with_reducible rfl
        rotate_left
        ·simp only [Act.put,NRM]
         rfl
        refine pure_ (i:=4) (N:=some 62) (v:=?_) (a':=?_) (ba 18 23) rfl rfl (any_of HT_.out (by kernel_rfl)) (fun _ _ _ h=>h) (Or.inl ⟨by rfl,?_⟩) ?_ ?_
        rotate_left
        ·intro w'
         go_simp
         with_reducible rfl
        rotate_left
        ·simp only [Act.put,NRM]
         rfl
        refine pure_ (i:=5) (N:=some 63) (v:=?_) (a':=?_) (ba 18 55) rfl rfl (any_of HT_.out (by kernel_rfl)) (fun _ _ _ h=>h) (Or.inl ⟨by rfl,?_⟩) ?_ ?_
        rotate_left
        ·intro w'
         go_simp
         with_reducible rfl
        rotate_left
        ·simp only [Act.put,NRM]
         rfl
        refine take_ (i:=3) (N:=some 61) (v:=?_) (a':=?_) (ba 18 63) rfl rfl (take_ofW HT_.out HW_.out (by kernel_rfl)) (fun _ _ _ h=>h) (Or.inl ⟨by rfl,?_⟩) hHeld ?_ ?_
        rotate_left
        ·rintro w' ⟨s0,s1,s2,s3,s4⟩
         go_simp
         with_reducible rfl
        rotate_left
        ·simp only [Act.put,NRM]
         rfl
        refine take_ (i:=6) (N:=some 64) (v:=?_) (a':=?_) (ba 18 127) rfl rfl (take_ofW HT_.out HW_.out (by kernel_rfl)) (fun _ _ _ h=>h) (Or.inl ⟨by rfl,?_⟩) hHeld ?_ ?_
        rotate_left
        ·rintro w' ⟨s0,s1,s2,s3,s4⟩
         go_simp
         with_reducible rfl
        rotate_left
        ·simp only [Act.put,NRM]
         rfl
        refine pure_ (i:=7) (N:=some 65) (v:=?_) (a':=?_) (ba 18 255) rfl rfl (any_of HT_.out (by kernel_rfl)) (fun _ _ _ h=>h) (Or.inl ⟨by rfl,?_⟩) ?_ ?_
        rotate_left
        ·intro w'
         go_simp
         with_reducible rfl
        rotate_left
        ·simp only [Act.put,NRM]
         rfl
        refine pure_ (i:=8) (N:=some 66) (v:=?_) (a':=?_) (ba 18 511) rfl rfl (any_of HT_.out (by kernel_rfl)) (fun _ _ _ h=>h) (Or.inl ⟨by rfl,?_⟩) ?_ ?_
        rotate_left
        ·intro w'
         go_simp
         with_reducible rfl
        rotate_left
        ·simp only [Act.put,NRM]
         rfl
        refine pure_ (i:=9) (N:=some 67) (v:=?_) (a':=?_) (ba 18 1023) rfl rfl (any_of HT_.out (by kernel_rfl)) (fun _ _ _ h=>h) (Or.inl ⟨by rfl,?_⟩) ?_ ?_
        rotate_left
        ·intro w'
         go_simp
         with_reducible rfl
        rotate_left
        ·simp only [Act.put,NRM]
         rfl
        refine pure_ (i:=10) (N:=some 68) (v:=?_) (a':=?_) (ba 18 2047) rfl rfl (any_of HT_.out (by kernel_rfl)) (fun _ _ _ h=>h) (Or.inl ⟨by rfl,?_⟩) ?_ ?_
        rotate_left
        ·intro w'
         go_simp
         with_reducible rfl
        rotate_left
        ·simp only [Act.put,NRM]
         rfl
        refine pure_ (i:=11) (N:=some 69) (v:=?_) (a':=?_) (ba 18 4095) rfl rfl (any_of HT_.out (by kernel_rfl)) (fun _ _ _ h=>h) (Or.inl ⟨by rfl,?_⟩) ?_ ?_
        rotate_left
        ·intro w'
         go_simp
         with_reducible rfl
        rotate_left
        ·simp only [Act.put,NRM]
         rfl
        refine pure_ (i:=13) (N:=some 71) (v:=?_) (a':=?_) (ba 18 12287) rfl rfl (any_of HT_.out (by kernel_rfl)) (fun _ _ _ h=>h) (Or.inl ⟨by rfl,?_⟩) ?_ ?_
        rotate_left
        ·intro w'
         go_simp
         with_reducible rfl
        rotate_left
        ·simp only [Act.put,NRM]
         rfl
        refine pure_ (i:=14) (N:=some 72) (v:=?_) (a':=?_) (ba 18 28671) rfl rfl (any_of HT_.out (by kernel_rfl)) (fun _ _ _ h=>h) (Or.inl ⟨by rfl,?_⟩) ?_ ?_
        rotate_left
        ·intro w'
         go_simp
         with_reducible rfl
        rotate_left
        ·simp only [Act.put,NRM]
         rfl
        refine take_ (i:=12) (N:=some 70) (v:=?_) (a':=?_) (ba 18 32767) rfl rfl (take_ofW HT_.out HW_.out (by kernel_rfl)) (fun _ _ _ h=>h) (Or.inl ⟨by rfl,?_⟩) hHeld ?_ ?_
        rotate_left
        ·rintro w' ⟨s0,s1,s2,s3,s4⟩
         go_simp
         with_reducible rfl
        rotate_left
        ·simp only [Act.put,NRM]
         rfl
        refine take_ (i:=15) (N:=some 73) (v:=?_) (a':=?_) (ba 18 65535) rfl rfl (take_ofW HT_.out HW_.out (by kernel_rfl)) (fun _ _ _ h=>h) (Or.inl ⟨by rfl,?_⟩) hHeld ?_ ?_
        rotate_left
        ·rintro w' ⟨s0,s1,s2,s3,s4⟩
         go_simp
         with_reducible rfl
        rotate_left
        ·simp only [Act.put,NRM]
         rfl
        refine pure_ (i:=16) (N:=some 74) (v:=?_) (a':=?_) (ba 18 131071) rfl rfl (any_of HT_.out (by kernel_rfl)) (fun _ _ _ h=>h) (Or.inl ⟨by rfl,?_⟩) ?_ ?_
        rotate_left
        ·intro w'
         go_simp
         with_reducible rfl
        rotate_left
        ·simp only [Act.put,NRM]
         rfl
        refine pure_ (i:=17) (N:=some 75) (v:=?_) (a':=?_) (ba 18 262143) rfl rfl (any_of HT_.out (by kernel_rfl)) (fun _ _ _ h=>h) (Or.inl ⟨by rfl,?_⟩) ?_ ?_
        rotate_left
        ·intro w'
         go_simp
         with_reducible rfl
        rotate_left
        ·simp only [Act.put,NRM]
         rfl
        refine done_ (done_of HT_.out (by kernel_rfl)) ?_
        try go_wp2_with (first | ((with_reducible refine ga_callee (f:=15) rfl ?_);refine goesL_ (some 76) rfl rfl Tryz.func15 (by kernel_rfl) rfl #[] rfl (by (try simp only [List.map_toArray,List.map_cons,List.map_nil]);first | done | rfl | (simp only [List.length_drop,List.length_take];rfl)) ?_;(refine (l8_known.calls  t322 _ A47.out).mono ?_);rintro e w56 ⟨rfl,hb⟩;refine ⟨_,rfl,?_⟩;replace HO_317000:=am (Kd.R_below HO_317000.out hb);replace BK312:=(kmv hb BK312);replace BK316:=(kmv hb BK316);replace BK318:=(kmv hb BK318);replace HB:=am (below_step (HB.out) hb);(try clear hb);(try clear hb2);(try clear hk);(try clear hi)))
        go_ret
        exact ⟨by first | rfl | (simp [*]<;>rfl),HB.out⟩
       ·rw [if_neg c46] at H
        have c46b0 : decide (((rd_T37 l0_0 x10_2).f0.f1) < (rd l3 x10_2)) = false:=decide_eq_false c46
        clear c46
        by_cases c57 : x317000_2.length < 5864062014805
        case neg =>
         rw [if_neg c57] at H
         exact absurd H (by simp)
        rw [if_pos c57] at H
        have LMc57:=am c57
        clear c57
        obtain ⟨y325,hy325⟩ : ∃ y_ : List (S37),y_ = (x317000_2 ++ [(⟨(⟨rd l3 x10_2,rd l3 x10_2⟩ : S35),(rd_T37 l0_0 x10_2).f1⟩ : S37)]):=⟨_,rfl⟩
        replace H : (l8_GateFlow.l0 k2 l1 l2 l3 (wrap64 (x10_2 + 1)) l0_0 l0_1 y325 l0_1) = some r:=by first | (rw [hy325];with_reducible exact H) | (have H2_:=(Option.bind_some _ _).symm.trans H;rw [hy325];with_reducible exact H2_) | (have H2_:=(Option.bind_some _ _).symm.trans H;with_reducible exact H2_) | with_reducible exact H | (rw [hy325];exact H) | exact H
        have Ny325:=am hy325
        clear hy325
        replace H':=am H
        have hnb58:=NB312_316.out
        have hnc58:=NB316_312.out
        obtain ⟨hcz59_0,hcz59_1⟩:=cO2 BK312.out
        have p317 : 0≤(x10_2 : Int):=of_decide_eq_true (by assumption)
        have q317 : x10_2 < (l0_0.length : Int):=of_decide_eq_true (by assumption)
        obtain ⟨ad317,e317,hx317_0,hx317_1,hx317_2⟩:=at_T37 HR0_0.out x10_2 p317 q317
        cases e317
        replace hx317_0:=(HB.out.cell (wbl hx317_0)).trans hx317_0
        replace hx317_1:=(HB.out.cell (wbl hx317_1)).trans hx317_1
        replace hx317_2:=(HB.out.cell (wbl hx317_2)).trans hx317_2
        replace p317:=eq_true p317
        replace q317:=eq_true q317
        try go_wp2_with (first | ((refine ga_dst (N:=11) rfl ?_);(try (refine ga_guard (by rfl) ?_;dsimp only));refine box_event rfl (N:=11) rfl (cs:=#[.int .i64 0,.int .i64 0,.int .i64 0]) (t:=37) ?hr ?_;(case hr=>go_simp;try rfl);intro gb318 hg w60 hbox hb;have BK318:=am (hbox);have GW318:=am (ge_new (HB.out) hg);have GE318:=am (ge_new (HB.out) hg);have NB312_318:=am (ne_new BK312.out hg);have NB318_312:=am (ne_new2 BK312.out hg);have NB316_318:=am (ne_new BK316.out hg);have NB318_316:=am (ne_new2 BK316.out hg);replace HO_317000:=am (Kd.R_below (Kd.R_elderB HO_317000.out gb318 (Nat.le_of_eq hg.symm)) hb);replace BK312:=(kmv hb BK312);replace BK316:=(kmv hb BK316);replace HB:=am (below_step (HB.out) hb);clear hb hbox hg;have hnb61:=NB318_312.out;have hnc61:=NB312_318.out;have hnb62:=NB318_316.out;have hnc62:=NB316_318.out;obtain ⟨hcz63_0,hcz63_1,hcz63_2⟩:=cO3 BK318.out;have hfz63_0:=blk_frozen BK318.out 0;have hfz63_1:=blk_frozen BK318.out 1;have hfz63_2:=blk_frozen BK318.out 2))
        have n0_ : Aside0 (Kd.R k37 37 (((w60.setCell ⟨gb318,0,none⟩ (.int .i64 ((rd_T37 l0_0 x10_2).f0.f0))).setCell ⟨gb318,1,none⟩ (.int .i64 ((rd_T37 l0_0 x10_2).f0.f1))).setCell ⟨gb318,2,none⟩ (.int .i64 ((rd_T37 l0_0 x10_2).f1))) w.heap.size (fun k_=>k_ ≠ gb318) u317000 x317000_2):=⟨by (with_reducible repeat (first | apply Kd.R_alloc | apply Kd.R_drewN | apply Kd.R_drew));exact Kd.R_mono (Kd.R_far (p:=⟨gb318,2,none⟩) (Kd.R_far (p:=⟨gb318,1,none⟩) (Kd.R_far (p:=⟨gb318,0,none⟩) (Kd.R_mono HO_317000.out (fun k_ hk=>(⟨hk,hk.2⟩ : _∧k_ ≠ gb318))) (fun _ hk=>hk.2) (.int .i64 ((rd_T37 l0_0 x10_2).f0.f0))) (fun _ hk=>hk.2) (.int .i64 ((rd_T37 l0_0 x10_2).f0.f1))) (fun _ hk=>hk.2) (.int .i64 ((rd_T37 l0_0 x10_2).f1))) (fun _ hk=>hk.1.2)⟩
        have n1_ : Aside0 ((((w60.setCell ⟨gb318,0,none⟩ (.int .i64 ((rd_T37 l0_0 x10_2).f0.f0))).setCell ⟨gb318,1,none⟩ (.int .i64 ((rd_T37 l0_0 x10_2).f0.f1))).setCell ⟨gb318,2,none⟩ (.int .i64 ((rd_T37 l0_0 x10_2).f1))).heap[gb312]? = some (.cells #[.slice (some ad317) l0_0.length c0_0,.slice A0_1 l0_1.length c0_1] 25 (0,0))):=⟨(blk_far (blk_far (blk_far BK312.out NB312_318.out _) NB312_318.out _) NB312_318.out _)⟩
        have n2_ : Aside0 ((((w60.setCell ⟨gb318,0,none⟩ (.int .i64 ((rd_T37 l0_0 x10_2).f0.f0))).setCell ⟨gb318,1,none⟩ (.int .i64 ((rd_T37 l0_0 x10_2).f0.f1))).setCell ⟨gb318,2,none⟩ (.int .i64 ((rd_T37 l0_0 x10_2).f1))).heap[gb316]? = some (.cells #[u317000,.slice A0_1 l0_1.length c0_1] 25 (0,0))):=⟨(blk_far (blk_far (blk_far BK316.out NB316_318.out _) NB316_318.out _) NB316_318.out _)⟩
        have n3_ : Aside0 ((((w60.setCell ⟨gb318,0,none⟩ (.int .i64 ((rd_T37 l0_0 x10_2).f0.f0))).setCell ⟨gb318,1,none⟩ (.int .i64 ((rd_T37 l0_0 x10_2).f0.f1))).setCell ⟨gb318,2,none⟩ (.int .i64 ((rd_T37 l0_0 x10_2).f1))).heap[gb318]? = some (.cells #[.int .i64 ((rd_T37 l0_0 x10_2).f0.f0),.int .i64 ((rd_T37 l0_0 x10_2).f0.f1),.int .i64 ((rd_T37 l0_0 x10_2).f1)] 37 (0,0))):=⟨(blk_put (cs:=#[.int .i64 ((rd_T37 l0_0 x10_2).f0.f0),.int .i64 ((rd_T37 l0_0 x10_2).f0.f1),.int .i64 0]) (blk_put (cs:=#[.int .i64 ((rd_T37 l0_0 x10_2).f0.f0),.int .i64 0,.int .i64 0]) (blk_put (cs:=#[.int .i64 0,.int .i64 0,.int .i64 0]) BK318.out 0 _ rfl) 1 _ rfl) 2 _ rfl)⟩
        have n4_ : Aside0 (Below w.heap.size w (((w60.setCell ⟨gb318,0,none⟩ (.int .i64 ((rd_T37 l0_0 x10_2).f0.f0))).setCell ⟨gb318,1,none⟩ (.int .i64 ((rd_T37 l0_0 x10_2).f0.f1))).setCell ⟨gb318,2,none⟩ (.int .i64 ((rd_T37 l0_0 x10_2).f1)))):=⟨by repeat (first | (with_reducible first | exact HB.out | refine below_set ?_ (Aside0.out (by assumption)) | apply below_alloc | apply pw_below_drewN) | exact HB.out)⟩
        (try clear HO_317000)
        (try clear BK312)
        (try clear BK316)
        (try clear BK318)
        (try clear HB)
        generalize (((w60.setCell ⟨gb318,0,none⟩ (.int .i64 ((rd_T37 l0_0 x10_2).f0.f0))).setCell ⟨gb318,1,none⟩ (.int .i64 ((rd_T37 l0_0 x10_2).f0.f1))).setCell ⟨gb318,2,none⟩ (.int .i64 ((rd_T37 l0_0 x10_2).f1))) = w64 at n0_ n1_ n2_ n3_ n4_ ⊢
        have HO_317000:=n0_
        have BK312:=n1_
        have BK316:=n2_
        have BK318:=n3_
        have HB:=n4_
        clear n0_ n1_ n2_ n3_ n4_
        replace HO_317000:=am (Kd.R_drew HO_317000.out)
        replace BK312:=am (blk_drew BK312.out)
        replace BK316:=am (blk_drew BK316.out)
        replace BK318:=am (blk_drew BK318.out)
        replace HB:=am (below_drew1 HB.out)
        have p319 : 0≤(x10_2 : Int):=of_decide_eq_true (by assumption)
        have q319 : x10_2 < (l3.length : Int):=of_decide_eq_true (by assumption)
        obtain ⟨ad319,e319,hx319_0⟩:=Kd.at_int HR3.out x10_2 p319 q319
        have hw319_0:=hx319_0
        cases e319
        replace hx319_0:=(HB.out.cell (wbl hx319_0)).trans hx319_0
        replace p319:=eq_true p319
        replace q319:=eq_true q319
        have p321 : 0≤(x10_2 : Int):=of_decide_eq_true (by assumption)
        have q321 : x10_2 < (l3.length : Int):=of_decide_eq_true (by assumption)
        obtain ⟨ad321,e321,hx321_0⟩:=Kd.at_int HR3.out x10_2 p321 q321
        have hw321_0:=hx321_0
        obtain rfl : ad319 = ad321:=(by injection e321)
        replace hx321_0:=(HB.out.cell (wbl hx321_0)).trans hx321_0
        replace p321:=eq_true p321
        replace q321:=eq_true q321
        refine start_ (n:=18) (S:=fun w'=>w'.cell? ⟨gb318,0,none⟩ = some (.int .i64 ((rd_T37 l0_0 x10_2).f0.f0))∧w'.cell? ⟨gb318,1,none⟩ = some (.int .i64 ((rd_T37 l0_0 x10_2).f0.f1))∧w'.cell? ⟨gb318,2,none⟩ = some (.int .i64 ((rd_T37 l0_0 x10_2).f1))∧w'.cell? (ad319.add (x10_2).toNat) = some (.int .i64 (rd l3 x10_2))∧w'.cell? (ad319.add (x10_2).toNat) = some (.int .i64 (rd l3 x10_2))) (ds:=[]) (ba 18 0) (by kernel_rfl) rfl rfl ⟨(blk_cell BK318.out 0).trans rfl,(blk_cell BK318.out 1).trans rfl,(blk_cell BK318.out 2).trans rfl,((HB.out.cell (wbl hw319_0)).trans hw319_0),((HB.out.cell (wbl hw321_0)).trans hw321_0)⟩ (fun hHeld=>?_);refine with_tabW l8_GateFlow.tab8 l8_GateFlow.bits8 (fun HT_ HW_=>?_)
        generalize w64.drew = w65 at HO_317000 BK312 BK316 BK318 HB hx319_0 hx321_0 hHeld ⊢
        refine pure_ (i:=0) (N:=some 58) (v:=?_) (a':=?_) (ba 18 1) rfl rfl (any_of HT_.out (by kernel_rfl)) (fun _ _ _ h=>h) (Or.inl ⟨by rfl,?_⟩) ?_ ?_
        rotate_left
        ·intro w'
         go_simp
         with_reducible rfl
        rotate_left
        ·simp only [Act.put,NRM]
         rfl
        refine pure_ (i:=1) (N:=some 59) (v:=?_) (a':=?_) (ba 18 3) rfl rfl (any_of HT_.out (by kernel_rfl)) (fun _ _ _ h=>h) (Or.inl ⟨by rfl,?_⟩) ?_ ?_
        rotate_left
        ·intro w'
         go_simp
         with_reducible rfl
        rotate_left
        ·simp only [Act.put,NRM]
         rfl
        refine pure_ (i:=2) (N:=some 60) (v:=?_) (a':=?_) (ba 18 7) rfl rfl (any_of HT_.out (by kernel_rfl)) (fun _ _ _ h=>h) (Or.inl ⟨by rfl,?_⟩) ?_ ?_
        rotate_left
        ·intro w'
         go_simp
         with_reducible rfl
        rotate_left
        ·simp only [Act.put,NRM]
         rfl
        refine pure_ (i:=4) (N:=some 62) (v:=?_) (a':=?_) (ba 18 23) rfl rfl (any_of HT_.out (by kernel_rfl)) (fun _ _ _ h=>h) (Or.inl ⟨by rfl,?_⟩) ?_ ?_
        rotate_left
        ·intro w'
         go_simp
         with_reducible rfl
        rotate_left
        ·simp only [Act.put,NRM]
         rfl
        refine pure_ (i:=5) (N:=some 63) (v:=?_) (a':=?_) (ba 18 55) rfl rfl (any_of HT_.out (by kernel_rfl)) (fun _ _ _ h=>h) (Or.inl ⟨by rfl,?_⟩) ?_ ?_
        rotate_left
        ·intro w'
         go_simp
         with_reducible rfl
        rotate_left
        ·simp only [Act.put,NRM]
         rfl
        refine take_ (i:=3) (N:=some 61) (v:=?_) (a':=?_) (ba 18 63) rfl rfl (take_ofW HT_.out HW_.out (by kernel_rfl)) (fun _ _ _ h=>h) (Or.inl ⟨by rfl,?_⟩) hHeld ?_ ?_
        rotate_left
        ·rintro w' ⟨s0,s1,s2,s3,s4⟩
         go_simp
         with_reducible rfl
        rotate_left
        ·simp only [Act.put,NRM]
         rfl
        refine take_ (i:=6) (N:=some 64) (v:=?_) (a':=?_) (ba 18 127) rfl rfl (take_ofW HT_.out HW_.out (by kernel_rfl)) (fun _ _ _ h=>h) (Or.inl ⟨by rfl,?_⟩) hHeld ?_ ?_
        rotate_left
        ·rintro w' ⟨s0,s1,s2,s3,s4⟩
         go_simp
         with_reducible rfl
        rotate_left
        ·simp only [Act.put,NRM]
         rfl
        refine pure_ (i:=7) (N:=some 65) (v:=?_) (a':=?_) (ba 18 255) rfl rfl (any_of HT_.out (by kernel_rfl)) (fun _ _ _ h=>h) (Or.inl ⟨by rfl,?_⟩) ?_ ?_
        rotate_left
        ·intro w'
         go_simp
         with_reducible rfl
        rotate_left
        ·simp only [Act.put,NRM]
         rfl
        refine pure_ (i:=8) (N:=some 66) (v:=?_) (a':=?_) (ba 18 511) rfl rfl (any_of HT_.out (by kernel_rfl)) (fun _ _ _ h=>h) (Or.inl ⟨by rfl,?_⟩) ?_ ?_
        rotate_left
        ·intro w'
         go_simp
         with_reducible rfl
        rotate_left
        ·simp only [Act.put,NRM]
         rfl
        refine pure_ (i:=9) (N:=some 67) (v:=?_) (a':=?_) (ba 18 1023) rfl rfl (any_of HT_.out (by kernel_rfl)) (fun _ _ _ h=>h) (Or.inl ⟨by rfl,?_⟩) ?_ ?_
        rotate_left
        ·intro w'
         go_simp
         with_reducible rfl
        rotate_left
        ·simp only [Act.put,NRM]
         rfl
        refine pure_ (i:=10) (N:=some 68) (v:=?_) (a':=?_) (ba 18 2047) rfl rfl (any_of HT_.out (by kernel_rfl)) (fun _ _ _ h=>h) (Or.inl ⟨by rfl,?_⟩) ?_ ?_
        rotate_left
        ·intro w'
         go_simp
         with_reducible rfl
        rotate_left
        ·simp only [Act.put,NRM]
         rfl
        refine pure_ (i:=11) (N:=some 69) (v:=?_) (a':=?_) (ba 18 4095) rfl rfl (any_of HT_.out (by kernel_rfl)) (fun _ _ _ h=>h) (Or.inl ⟨by rfl,?_⟩) ?_ ?_
        rotate_left
        ·intro w'
         go_simp
         with_reducible rfl
        rotate_left
        ·simp only [Act.put,NRM]
         rfl
        refine pure_ (i:=13) (N:=some 71) (v:=?_) (a':=?_) (ba 18 12287) rfl rfl (any_of HT_.out (by kernel_rfl)) (fun _ _ _ h=>h) (Or.inl ⟨by rfl,?_⟩) ?_ ?_
        rotate_left
        ·intro w'
         go_simp
         with_reducible rfl
        rotate_left
        ·simp only [Act.put,NRM]
         rfl
        refine pure_ (i:=14) (N:=some 72) (v:=?_) (a':=?_) (ba 18 28671) rfl rfl (any_of HT_.out (by kernel_rfl)) (fun _ _ _ h=>h) (Or.inl ⟨by rfl,?_⟩) ?_ ?_
        rotate_left
        ·intro w'
         go_simp
         with_reducible rfl
        rotate_left
        ·simp only [Act.put,NRM]
         rfl
        refine take_ (i:=12) (N:=some 70) (v:=?_) (a':=?_) (ba 18 32767) rfl rfl (take_ofW HT_.out HW_.out (by kernel_rfl)) (fun _ _ _ h=>h) (Or.inl ⟨by rfl,?_⟩) hHeld ?_ ?_
        rotate_left
        ·rintro w' ⟨s0,s1,s2,s3,s4⟩
         go_simp
         with_reducible rfl
        rotate_left
        ·simp only [Act.put,NRM]
         rfl
        refine take_ (i:=15) (N:=some 73) (v:=?_) (a':=?_) (ba 18 65535) rfl rfl (take_ofW HT_.out HW_.out (by kernel_rfl)) (fun _ _ _ h=>h) (Or.inl ⟨by rfl,?_⟩) hHeld ?_ ?_
        rotate_left
        ·rintro w' ⟨s0,s1,s2,s3,s4⟩
         go_simp
         with_reducible rfl
        rotate_left
        ·simp only [Act.put,NRM]
         rfl
        refine pure_ (i:=16) (N:=some 74) (v:=?_) (a':=?_) (ba 18 131071) rfl rfl (any_of HT_.out (by kernel_rfl)) (fun _ _ _ h=>h) (Or.inl ⟨by rfl,?_⟩) ?_ ?_
        rotate_left
        ·intro w'
         go_simp
         with_reducible rfl
        rotate_left
        ·simp only [Act.put,NRM]
         rfl
        refine pure_ (i:=17) (N:=some 75) (v:=?_) (a':=?_) (ba 18 262143) rfl rfl (any_of HT_.out (by kernel_rfl)) (fun _ _ _ h=>h) (Or.inl ⟨by rfl,?_⟩) ?_ ?_
        rotate_left
        ·intro w'
         go_simp
         with_reducible rfl
        rotate_left
        ·simp only [Act.put,NRM]
         rfl
        refine done_ (done_of HT_.out (by kernel_rfl)) ?_
        try go_wp2
        replace HO_317000:=am (Kd.R_drew HO_317000.out)
        replace BK312:=am (blk_drew BK312.out)
        replace BK316:=am (blk_drew BK316.out)
        replace BK318:=am (blk_drew BK318.out)
        replace HB:=am (below_drew1 HB.out)
        have p323 : 0≤(x10_2 : Int):=of_decide_eq_true (by assumption)
        have q323 : x10_2 < (l3.length : Int):=of_decide_eq_true (by assumption)
        obtain ⟨ad323,e323,hx323_0⟩:=Kd.at_int HR3.out x10_2 p323 q323
        have hw323_0:=hx323_0
        obtain rfl : ad319 = ad323:=(by injection e323)
        replace hx323_0:=(HB.out.cell (wbl hx323_0)).trans hx323_0
        replace p323:=eq_true p323
        replace q323:=eq_true q323
        have p324 : 0≤(x10_2 : Int):=of_decide_eq_true (by assumption)
        have q324 : x10_2 < (l3.length : Int):=of_decide_eq_true (by assumption)
        obtain ⟨ad324,e324,hx324_0⟩:=Kd.at_int HR3.out x10_2 p324 q324
        have hw324_0:=hx324_0
        obtain rfl : ad319 = ad324:=(by injection e324)
        replace hx324_0:=(HB.out.cell (wbl hx324_0)).trans hx324_0
        replace p324:=eq_true p324
        replace q324:=eq_true q324
        refine start_ (n:=18) (S:=fun w'=>w'.cell? ⟨gb316,0,none⟩ = some (u317000)∧w'.cell? ⟨gb316,1,none⟩ = some (.slice A0_1 l0_1.length c0_1)∧w'.cell? ⟨gb318,0,none⟩ = some (.int .i64 ((rd_T37 l0_0 x10_2).f0.f0))∧w'.cell? ⟨gb318,1,none⟩ = some (.int .i64 ((rd_T37 l0_0 x10_2).f0.f1))∧w'.cell? ⟨gb318,2,none⟩ = some (.int .i64 ((rd_T37 l0_0 x10_2).f1))∧w'.cell? (ad319.add (x10_2).toNat) = some (.int .i64 (rd l3 x10_2))∧w'.cell? (ad319.add (x10_2).toNat) = some (.int .i64 (rd l3 x10_2))) (ds:=[17]) (ba 18 0) (by kernel_rfl) rfl rfl ⟨(blk_cell BK316.out 0).trans rfl,(blk_cell BK316.out 1).trans rfl,(blk_cell BK318.out 0).trans rfl,(blk_cell BK318.out 1).trans rfl,(blk_cell BK318.out 2).trans rfl,((HB.out.cell (wbl hw323_0)).trans hw323_0),((HB.out.cell (wbl hw324_0)).trans hw324_0)⟩ (fun hHeld=>?_);refine with_tabW l8_GateFlow.tab10 l8_GateFlow.bits10 (fun HT_ HW_=>?_)
        generalize w65.drew = w66 at HO_317000 BK312 BK316 BK318 HB hx323_0 hx324_0 hHeld ⊢
        refine pure_ (i:=0) (N:=some 77) (v:=?_) (a':=?_) (ba 18 1) rfl rfl (any_of HT_.out (by kernel_rfl)) (fun _ _ _ h=>h) (Or.inl ⟨by rfl,?_⟩) ?_ ?_
        rotate_left
        ·intro w'
         go_simp
         with_reducible rfl
        rotate_left
        ·simp only [Act.put,NRM]
         rfl
        refine pure_ (i:=2) (N:=some 79) (v:=?_) (a':=?_) (ba 18 5) rfl rfl (any_of HT_.out (by kernel_rfl)) (fun _ _ _ h=>h) (Or.inl ⟨by rfl,?_⟩) ?_ ?_
        rotate_left
        ·intro w'
         go_simp
         with_reducible rfl
        rotate_left
        ·simp only [Act.put,NRM]
         rfl
        refine pure_ (i:=3) (N:=some 80) (v:=?_) (a':=?_) (ba 18 13) rfl rfl (any_of HT_.out (by kernel_rfl)) (fun _ _ _ h=>h) (Or.inl ⟨by rfl,?_⟩) ?_ ?_
        rotate_left
        ·intro w'
         go_simp
         with_reducible rfl
        rotate_left
        ·simp only [Act.put,NRM]
         rfl
        refine pure_ (i:=4) (N:=some 81) (v:=?_) (a':=?_) (ba 18 29) rfl rfl (any_of HT_.out (by kernel_rfl)) (fun _ _ _ h=>h) (Or.inl ⟨by rfl,?_⟩) ?_ ?_
        rotate_left
        ·intro w'
         go_simp
         with_reducible rfl
        rotate_left
        ·simp only [Act.put,NRM]
         rfl
        refine pure_ (i:=6) (N:=some 83) (v:=?_) (a':=?_) (ba 18 93) rfl rfl (any_of HT_.out (by kernel_rfl)) (fun _ _ _ h=>h) (Or.inl ⟨by rfl,?_⟩) ?_ ?_
        rotate_left
        ·intro w'
         go_simp
         with_reducible rfl
        rotate_left
        ·simp only [Act.put,NRM]
         rfl
        refine pure_ (i:=7) (N:=some 84) (v:=?_) (a':=?_) (ba 18 221) rfl rfl (any_of HT_.out (by kernel_rfl)) (fun _ _ _ h=>h) (Or.inl ⟨by rfl,?_⟩) ?_ ?_
        rotate_left
        ·intro w'
         go_simp
         with_reducible rfl
        rotate_left
        ·simp only [Act.put,NRM]
         rfl
        refine pure_ (i:=8) (N:=some 85) (v:=?_) (a':=?_) (ba 18 477) rfl rfl (any_of HT_.out (by kernel_rfl)) (fun _ _ _ h=>h) (Or.inl ⟨by rfl,?_⟩) ?_ ?_
        rotate_left
        ·intro w'
         go_simp
         with_reducible rfl
        rotate_left
        ·simp only [Act.put,NRM]
         rfl
        refine pure_ (i:=11) (N:=some 88) (v:=?_) (a':=?_) (ba 18 2525) rfl rfl (any_of HT_.out (by kernel_rfl)) (fun _ _ _ h=>h) (Or.inl ⟨by rfl,?_⟩) ?_ ?_
        rotate_left
        ·intro w'
         go_simp
         with_reducible rfl
        rotate_left
        ·simp only [Act.put,NRM]
         rfl
        refine take_ (i:=1) (N:=some 78) (v:=?_) (a':=?_) (ba 18 2527) rfl rfl (take_ofW HT_.out HW_.out (by kernel_rfl)) (fun _ _ _ h=>h) (Or.inl ⟨by rfl,?_⟩) hHeld ?_ ?_
        rotate_left
        ·rintro w' ⟨s0,s1,s2,s3,s4,s5,s6⟩
         go_simp
         with_reducible rfl
        rotate_left
        ·simp only [Act.put,NRM]
         rfl
        refine take_ (i:=5) (N:=some 82) (v:=?_) (a':=?_) (ba 18 2559) rfl rfl (take_ofW HT_.out HW_.out (by kernel_rfl)) (fun _ _ _ h=>h) (Or.inl ⟨by rfl,?_⟩) hHeld ?_ ?_
        rotate_left
        ·rintro w' ⟨s0,s1,s2,s3,s4,s5,s6⟩
         go_simp
         with_reducible rfl
        rotate_left
        ·simp only [Act.put,NRM]
         rfl
        refine take_ (i:=9) (N:=some 86) (v:=?_) (a':=?_) (ba 18 3071) rfl rfl (take_ofW HT_.out HW_.out (by kernel_rfl)) (fun _ _ _ h=>h) (Or.inl ⟨by rfl,?_⟩) hHeld ?_ ?_
        rotate_left
        ·rintro w' ⟨s0,s1,s2,s3,s4,s5,s6⟩
         go_simp
         with_reducible rfl
        rotate_left
        ·simp only [Act.put,NRM]
         rfl
        refine pure_ (i:=10) (N:=some 87) (v:=?_) (a':=?_) (ba 18 4095) rfl rfl (any_of HT_.out (by kernel_rfl)) (fun _ _ _ h=>h) (Or.inl ⟨by rfl,?_⟩) ?_ ?_
        rotate_left
        ·intro w'
         go_simp
         with_reducible rfl
        rotate_left
        ·simp only [Act.put,NRM]
         rfl
        refine take_ (i:=12) (N:=some 89) (v:=?_) (a':=?_) (ba 18 8191) rfl rfl (take_ofW HT_.out HW_.out (by kernel_rfl)) (fun _ _ _ h=>h) (Or.inl ⟨by rfl,?_⟩) hHeld ?_ ?_
        rotate_left
        ·rintro w' ⟨s0,s1,s2,s3,s4,s5,s6⟩
         go_simp
         with_reducible rfl
        rotate_left
        ·simp only [Act.put,NRM]
         rfl
        refine pure_ (i:=13) (N:=some 90) (v:=?_) (a':=?_) (ba 18 16383) rfl rfl (any_of HT_.out (by kernel_rfl)) (fun _ _ _ h=>h) (Or.inl ⟨by rfl,?_⟩) ?_ ?_
        rotate_left
        ·intro w'
         go_simp
         with_reducible rfl
        rotate_left
        ·simp only [Act.put,NRM]
         rfl
        refine one_ (i:=14) (N:=some 91) (ba 18 32767) rfl rfl (one_of HT_.out (by kernel_rfl)) (by decide) (fun K hK=>?_)
        refine value_ (w1:=?_) (v:=?_) (by rfl) rfl ?_ ?_
        rotate_left 2
        ·go_simp
         constructor
         ·rfl
         ·rfl
        refine hK.out _ _ ⟨(blk_cell (blk_alloc BK316.out _) 0).trans rfl,(blk_cell (blk_alloc BK316.out _) 1).trans rfl,(blk_cell (blk_alloc BK318.out _) 0).trans rfl,(blk_cell (blk_alloc BK318.out _) 1).trans rfl,(blk_cell (blk_alloc BK318.out _) 2).trans rfl,(World.cell?_alloc_lt _ _ _ (World.block_lt_of_cell? _ _ (((HB.out.cell (wbl hw323_0)).trans hw323_0)))).trans (((HB.out.cell (wbl hw323_0)).trans hw323_0)),(World.cell?_alloc_lt _ _ _ (World.block_lt_of_cell? _ _ (((HB.out.cell (wbl hw324_0)).trans hw324_0)))).trans (((HB.out.cell (wbl hw324_0)).trans hw324_0))⟩ (fun hHeld=>?_)
        clear hK K
        refine norm_ (a':=?_) ?_ ?_
        rotate_left
        ·show Act.put _ (some 91) _ = _
         simp only [Act.put,NRM]
         rfl
        refine one_ (i:=15) (N:=some 92) (ba 18 65535) rfl rfl (one_of HT_.out (by kernel_rfl)) (by decide) (fun K hK=>?_)
        refine Kd.R_append_step k37 (w0:=w) w.heap.size (by rfl) (.tmp 78) (.tmp 91) 22 37 (.agg #[(.int .i64 0),(.int .i64 0),(.int .i64 0)]) 24 rfl Tryz.underlying22 info37 rfl (by decide) (by omega) u317000 x317000_2 (⟨(⟨rd l3 x10_2,rd l3 x10_2⟩ : S35),(rd_T37 l0_0 x10_2).f1⟩ : S37) [.int .i64 (rd l3 x10_2),.int .i64 (rd l3 x10_2),.int .i64 ((rd_T37 l0_0 x10_2).f1)] (fun k_=>k_ ≠ gb318) (fun _=>False) rfl rfl ?aP (fun _ hk=>hk.elim) ?aF ?aO ?aB ?aS ?aL ?_
        (case aP=>exact k37_mkM _ _ _ (⟨(⟨rd l3 x10_2,rd l3 x10_2⟩ : S35),(rd_T37 l0_0 x10_2).f1⟩ : S37))
        (case aB=>exact (HB.out))
        (case aF=>exact (fun k_ hk=>Kd.freshB (g:=gb318) (o:=.cells #[.int .i64 ((rd_T37 l0_0 x10_2).f0.f0),.int .i64 ((rd_T37 l0_0 x10_2).f0.f1),.int .i64 ((rd_T37 l0_0 x10_2).f1)] 37 (0,0)) BK318.out k_ hk))
        (case aO=>exact HO_317000.out)
        (case aS=>exact (below_size (HB.out)))
        (case aL=>have:=LMc57.out;omega)
        intro v326 w67 ho hb hg hat
        rw [← Ny325.out] at ho
        have n0_:=am (blk_grown (g:=gb312) (o:=.cells #[.slice (some ad317) l0_0.length c0_0,.slice A0_1 l0_1.length c0_1] 25 (0,0)) BK312.out hg (Kd.R_ne HO_317000.out BK312.out (by decide)))
        have n1_:=am (blk_grown (g:=gb316) (o:=.cells #[u317000,.slice A0_1 l0_1.length c0_1] 25 (0,0)) BK316.out hg (Kd.R_ne HO_317000.out BK316.out (by decide)))
        have n2_:=am (blk_grown (g:=gb318) (o:=.cells #[.int .i64 ((rd_T37 l0_0 x10_2).f0.f0),.int .i64 ((rd_T37 l0_0 x10_2).f0.f1),.int .i64 ((rd_T37 l0_0 x10_2).f1)] 37 (0,0)) BK318.out hg (Kd.R_away HO_317000.out (fun _ hk=>hk)))
        have n3_:=am (hb)
        have n4_:=am (ho)
        clear BK312
        clear BK316
        clear BK318
        clear HB
        clear HO_317000
        have BK312:=n0_
        have BK316:=n1_
        have BK318:=n2_
        have HB:=n3_
        have HO327:=n4_
        clear n0_ n1_ n2_ n3_ n4_
        clear ho hb hg hat
        obtain ⟨Ao68,co68,eo68⟩:=Kd.R_slice HO327.out
        (first | subst eo68 | (injection eo68 with f1_ f2_ f3_;have f4_:=f1_.symm;have f5_:=f3_.symm;clear f1_ f2_ f3_;subst f4_;subst f5_))
        refine hK.out _ _ ⟨(blk_cell BK316.out 0).trans rfl,(blk_cell BK316.out 1).trans rfl,(blk_cell BK318.out 0).trans rfl,(blk_cell BK318.out 1).trans rfl,(blk_cell BK318.out 2).trans rfl,((HB.out.cell (wbl hw323_0)).trans hw323_0),((HB.out.cell (wbl hw324_0)).trans hw324_0)⟩ (fun hHeld=>?_)
        clear hK K
        refine norm_ (a':=?_) ?_ ?_
        rotate_left
        ·show Act.put _ (some 92) _ = _
         simp only [Act.put,NRM]
         rfl
        refine pure_ (i:=16) (N:=some 93) (v:=?_) (a':=?_) (ba 18 131071) rfl rfl (any_of HT_.out (by kernel_rfl)) (fun _ _ _ h=>h) (Or.inl ⟨by rfl,?_⟩) ?_ ?_
        rotate_left
        ·intro w'
         go_simp
         with_reducible rfl
        rotate_left
        ·simp only [Act.put,NRM]
         rfl
        refine last_ (i:=17) (N:=none) (ba 18 262143) rfl rfl (one_of HT_.out (by kernel_rfl)) (by decide) (fun K hK=>?_)
        have hs69:=cO1 BK316.out
        have hfs69:=blk_frozen BK316.out 0
        have hns69_0:=NB312_316.out
        have hns69_2:=NB318_316.out
        have hms69_0:=NB316_312.out
        have hms69_2:=NB316_318.out
        refine skip_ (w1:=?_) (by rfl) rfl ?_ ?_
        rotate_left
        ·go_simp
         rfl
        refine hK.out _ _ ?_
        clear hK K
        refine done_ (done_of HT_.out (by kernel_rfl)) ?_
        try go_wp2
        go_roundg k2
        case measure=>have:=HJ4.out;have:=HK2.out;omega
        case rel=>exact ⟨(wrap64 (x10_2 + 1)),(y325),(.slice Ao68 y325.length co68),(by first | rfl | (simp;done) | (simp [*];done)),H',⟨by have:=HJ4.out;have:=HK2.out;omega⟩,⟨by (with_reducible repeat (first | apply Kd.R_alloc | apply Kd.R_drewN | apply Kd.R_drew));exact Kd.R_mono (Kd.R_far (p:=⟨gb316,0,none⟩) (Kd.R_types HO327.out BK316.out (by decide)) (fun _ hk=>hk.2) (.slice Ao68 y325.length co68)) (fun _ hk=>trivial)⟩,⟨(blk_far BK312.out NB312_316.out _)⟩,⟨(blk_put (cs:=#[u317000,.slice A0_1 l0_1.length c0_1]) BK316.out 0 _ rfl)⟩,⟨by repeat (first | (with_reducible first | exact HB.out | refine below_set ?_ (Aside0.out (by assumption)) | apply below_alloc | apply pw_below_drewN) | exact HB.out)⟩⟩
end Go.Proofs.YtclkbedbocnpkaaGreatDoor.C
namespace Go.Proofs.YtclkbedbocnpkaaGreatDoor.C
open Go Go.RowKit Go.Proofs.YtclkbedbocnpkaaGreatDoorW.PrintWords Go.Proofs.YtclkbedbocnpkaaGreatDoorW.PrintLast Go.Proofs.YtclkbedbocnpkaaGreatDoorW.PrintMore
set_option linter.unusedVariables false
set_option linter.unusedSimpArgs false
set_option maxHeartbeats 16000000
set_option maxRecDepth 100000
section
variable {pts : List Pt} {ch : List Ch}
def within (p q : Pt) : Prop:=q.f1 = p.f1∧q.f0.f0 = q.f0.f1∧p.f0.f0≤q.f0.f0∧q.f0.f0≤p.f0.f1
def Within (pts qs : List Pt) : Prop:=qs.length = pts.length∧∀ (j : Nat) p q,pts[j]? = some p→qs[j]? = some q→within p q
theorem within_rd {qs : List Pt} (h : Within pts qs) {p : Int} (h0 : 0≤p) (h1 : p < (pts.length : Int)) : within (rd_T37 pts p) (rd_T37 qs p):=by
 obtain ⟨n,rfl⟩ : ∃ n : Nat,p = (n : Int):=⟨p.toNat,by omega⟩
 have a : n < pts.length:=by omega
 have b : n < qs.length:=by rw [h.1];exact a
 rw [rdP_nat pts n pts[n] _ (List.drop_eq_getElem_cons a),rdP_nat qs n qs[n] _ (List.drop_eq_getElem_cons b)]
 exact h.2 n _ _ (List.getElem?_eq_getElem a) (List.getElem?_eq_getElem b)
theorem within_net {qs : List Pt} (h : Within pts qs) (hn : netS pts ch = true) : netS qs ch = true:=by
 obtain ⟨h1,h2,h3,h4,h5⟩:=netS_iff.1 hn
 refine netS_iff.2 ⟨by rw [h.1];exact h1,h2,?_,by rw [h.1];exact h4,h5⟩
 rw [List.all_eq_true]
 intro q hq
 obtain ⟨j,hj,rfl⟩:=List.mem_iff_getElem.1 hq
 have a : j < pts.length:=by rw [← h.1];exact hj
 obtain ⟨w1,w2,w3,w4⟩:=h.2 j _ _ (List.getElem?_eq_getElem a) (List.getElem?_eq_getElem hj)
 have hp:=ptS_iff.1 (List.all_eq_true.1 h3 _ (List.getElem_mem a))
 exact ptS_iff.2 ⟨by omega,by omega,by omega,by omega,by omega⟩
theorem within_short {qs : List Pt} (h : Within pts qs) {op S : List Int} (hS : ∀ p ∈ S,0≤p∧p < (pts.length : Int)) (hi : Bool) : shortS pts ch op S true≤shortS qs ch op S hi∧shortS qs ch op S hi≤shortS pts ch op S false:=by
 have a:=sum_le (fun p=>lackP true (rd_T37 pts p)) (fun p=>lackP hi (rd_T37 qs p)) S fun p hp=>by
  obtain ⟨w1,w2,w3,w4⟩:=within_rd h (hS p hp).1 (hS p hp).2
  unfold lackP
  cases hi<;>simp<;>omega
 have b:=sum_le (fun p=>lackP hi (rd_T37 qs p)) (fun p=>lackP false (rd_T37 pts p)) S fun p hp=>by
  obtain ⟨w1,w2,w3,w4⟩:=within_rd h (hS p hp).1 (hS p hp).2
  unfold lackP
  cases hi<;>simp<;>omega
 unfold shortS
 omega
theorem within_fed {qs : List Pt} (h : Within pts qs) (op : List Int) : fedS qs ch op ≠ 2∧(fedS pts ch op = 3→fedS qs ch op = 3)∧(fedS pts ch op = 1→fedS qs ch op = 1):=by
 have same : cutS qs ch op true = none↔cutS qs ch op false = none:=by
  rw [cut_none_iff,cut_none_iff]
  have e : ∀ S ∈ shortestOf (numsL qs.length),shortS qs ch op S true = shortS qs ch op S false:=by
   intro S hS
   have em : (S.map fun p=>lackP true (rd_T37 qs p)) = S.map fun p=>lackP false (rd_T37 qs p):=List.map_congr_left fun p hp=>by
    have hm:=nums_in hS p hp
    obtain ⟨w1,w2,w3,w4⟩:=within_rd h hm.1 (by have:=h.1;omega)
    unfold lackP
    simp;omega
   unfold shortS
   rw [em]
  constructor
  ·intro k S hS;rw [← e S hS];exact k S hS
  ·intro k S hS;rw [e S hS];exact k S hS
 have lo : cutS pts ch op false = none→cutS qs ch op false = none:=by
  rw [cut_none_iff,cut_none_iff,h.1]
  intro k S hS
  have:=k S hS
  have:=(within_short (ch:=ch) (op:=op) h (nums_in hS) false).2
  omega
 have hi : cutS qs ch op true = none→cutS pts ch op true = none:=by
  rw [cut_none_iff,cut_none_iff,h.1]
  intro k S hS
  have:=k S hS
  have:=(within_short (ch:=ch) (op:=op) h (nums_in hS) true).1
  omega
 unfold fedS
 cases c1 : cutS qs ch op false with
 | none =>
  refine ⟨by simp,by simp,fun e=>?_⟩
  have c2:=hi (same.2 c1)
  rw [c2] at e
  simp at e
  split at e<;>simp at e
 | some S =>
  have c2 : ∃ T,cutS qs ch op true = some T:=by
   cases c3 : cutS qs ch op true with
   | none=>rw [same.1 c3] at c1;cases c1
   | some T=>exact ⟨T,rfl⟩
  obtain ⟨T,c2⟩:=c2
  refine ⟨by simp [c2],fun e=>?_,by simp [c2]⟩
  cases c4 : cutS pts ch op false with
  | none=>rw [lo c4] at c1;cases c1
  | some R=>rw [c4] at e;simp at e;split at e<;>simp at e
theorem fed_range {op : List Int} : fedS pts ch op = 3∨fedS pts ch op = 1∨fedS pts ch op = 2:=by
 unfold fedS
 split
 ·exact .inl rfl
 ·split
  ·exact .inr (.inl rfl)
  ·exact .inr (.inr rfl)
theorem flow_go (hn : netS pts ch = true) {op fl ws : List Int} (ho : op.length≤10) (hm : someS ch op = true) (hf : flowsS ch fl = true) (hw : ws.length = pts.length) (hp : pts.length≤9) (hc : ch.length≤13) : ∀ (d k i : Nat) (acc : List Pt),i + d = pts.length→acc.length = i→(∀ (j : Nat) p q,pts[j]? = some p→acc[j]? = some q→within p q)→d + 5000≤k→
 l8_GateFlow.l0 k op fl ws (i : Int) pts ch acc ch = some true
 | _,0,_,_,_,_,_,hk=>by omega
 | 0,k + 1,i,acc,hd,ha,hq,hk=>by
  have hW : Within pts acc:=⟨by omega,hq⟩
  have hn2:=within_net hW hn
  have hl2:=hW.1
  obtain ⟨k,rfl⟩ : ∃ m,k = m + 1:=⟨k - 1,by omega⟩
  have o1 : openS pts ch op = true:=by unfold openS;simp [hn,hm]
  have o2 : openS acc ch op = true:=by unfold openS;simp [hn2,hm]
  unfold l8_GateFlow.l0
  rw [if_neg (by omega),gFeeds_eq (by omega) (by omega) (by omega) (by omega),gFed_eq (by omega) (by omega) (by omega) (by omega),gCut_eq (by omega) (by omega) (by omega) (by omega),gFed_eq (by omega) (by omega) (by omega) (by omega),if_pos (by simp [o1,hf])]
  simp only [Option.bind_some,o1,o2,if_true]
  obtain ⟨w2,w3,w1⟩:=within_fed (ch:=ch) hW op
  have hfc : feedsS pts ch op fl = true→cutS pts ch op false = none:=fun h=>fed_no_cut hf h
  have b2 : (fedS acc ch op == 2) = false:=by simpa using w2
  cases hS : cutS pts ch op false with
  | none =>
   have e3 : fedS pts ch op = 3:=by unfold fedS;rw [hS];rfl
   have e4:=w3 e3
   simp only [e3,e4,l8_GateFlow.j2]
   cases feedsS pts ch op fl<;>simp [known_true]
  | some S =>
   have e0 : feedsS pts ch op fl = false:=by
    rw [Bool.eq_false_iff];intro h;rw [hfc h] at hS;cases hS
   have e3 : fedS pts ch op ≠ 3:=by
    unfold fedS;rw [hS];simp;split<;>simp
   rw [e0,b2]
   rcases fed_range (pts:=pts) (ch:=ch) (op:=op) with e | e | e
   ·exact absurd e e3
   ·have e4:=w1 e
    simp [e,e4,l8_GateFlow.j2,known_true]
   ·simp [e,l8_GateFlow.j2,known_true]
 | d + 1,k + 1,i,acc,hd,ha,hq,hk=>by
  have hi : i < pts.length:=by omega
  have hx : pts[i]? = some pts[i]:=List.getElem?_eq_getElem hi
  unfold l8_GateFlow.l0
  rw [if_pos (by omega),if_pos (by omega),if_pos (by omega),rdP_nat pts i pts[i] _ (List.drop_eq_getElem_cons hi)]
  by_cases c1 : rd ws (i : Int) < (pts[i]).f0.f0
  ·rw [if_pos c1,known_true];rfl
  rw [if_neg c1]
  by_cases c2 : rd ws (i : Int) > (pts[i]).f0.f1
  ·rw [if_pos c2,known_true];rfl
  rw [if_neg c2,if_pos (by omega),wr (by omega) (by omega),show (i : Int) + 1 = ((i + 1 : Nat) : Int) from rfl]
  refine flow_go hn ho hm hf hw hp hc d k (i + 1) _ (by omega) (by simp [ha]) (fun j p q h1 h2=>?_) (by omega)
  by_cases hj : j < i
  ·rw [List.getElem?_append_left (by omega)] at h2;exact hq j p q h1 h2
  ·have : j = i:=by
    have:=(List.getElem?_eq_some_iff.1 h2).1
    simp [ha] at this;omega
   subst this
   rw [List.getElem?_append_right (by omega),ha] at h2
   simp at h2
   rw [hx] at h1;cases h1
   subst h2
   exact ⟨rfl,rfl,by simp;omega,by simp;omega⟩
theorem flow_pure (pts : List Pt) (ch : List Ch) (op fl ws : List Int) {k : Nat} (hk : 130000≤k) : l8_GateFlow.f k pts ch op fl ws = some true:=by
 obtain ⟨k,rfl⟩ : ∃ m,k = m + 2:=⟨k - 2,by omega⟩
 unfold l8_GateFlow.f
 rw [right_eq (by omega)]
 simp only [Option.bind_some]
 have j0t : l8_GateFlow.j0 (k + 2) op fl ws true pts ch = some true:=by simp only [l8_GateFlow.j0,known_true];rfl
 by_cases hr : rightS pts ch op = true
 case neg=>rw [if_neg hr];exact j0t
 rw [if_pos hr]
 unfold rightS at hr
 simp only [Bool.and_eq_true,decide_eq_true_eq] at hr
 obtain ⟨hs,hl,hn,hm⟩:=hr
 obtain ⟨hp,hc⟩:=shortB_iff.1 hs
 by_cases hl3 : (fl.length : Int) > 13
 ·rw [if_pos hl3];exact j0t
 rw [if_neg hl3,rFlows_eq (by omega) (by omega)]
 simp only [Option.bind_some]
 by_cases hf : flowsS ch fl = true
 case neg=>rw [if_neg hf];exact j0t
 rw [if_pos hf]
 by_cases hw : (ws.length : Int) = (pts.length : Int)
 case neg=>rw [show ((ws.length : Int) != (pts.length : Int)) = true from bne_iff_ne.2 hw];exact j0t
 rw [show ((ws.length : Int) != (pts.length : Int)) = false by simpa using hw]
 simp only [l8_GateFlow.j0]
 rw [if_neg (by simp)]
 exact flow_go hn hl hm hf (by omega) hp hc pts.length (k + 1) 0 [] (by omega) rfl (fun j p q _ h=>by simp at h) (by omega)
end
end Go.Proofs.YtclkbedbocnpkaaGreatDoor.C

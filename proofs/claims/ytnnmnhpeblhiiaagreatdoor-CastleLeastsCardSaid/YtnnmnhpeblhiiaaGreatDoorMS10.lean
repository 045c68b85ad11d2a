/- A part of the proof: the walks of the functions that it reaches. TIGHT. -/
import Derived.Test.YtnnmnhpeblhiiaaGreatDoorMS9
import Derived.Test.YtnnmnhpeblhiiaaGreatDoorMS5
set_option linter.unusedSimpArgs false
set_option linter.unusedVariables false
noncomputable section
namespace Go.Proofs.YtnnmnhpeblhiiaaGreatDoor.C
open Go.RowKit Go.Proofs.YtnnmnhpeblhiiaaGreatDoorW.PrintWords Go.Proofs.YtnnmnhpeblhiiaaGreatDoorW.PrintLast Go.Proofs.YtnnmnhpeblhiiaaGreatDoorW.PrintMore
set_option maxHeartbeats 16000000
set_option maxRecDepth 100000
section
attribute [local go_sem] zwg zwf zwm zwl
def q4_Gets.f (k : Nat) (lA : List (S27)) (lC : List (S66)) (a1 : Int) (a2 : Int) (a3 : Int) : Option (Int):=(q4_Flows.f k lA lC a3).bind fun bt754=>(if 0≤a1 then (if a1 < (bt754.1.length : Int) then (if 0≤a2 then (if a2 < ((rd_L3 bt754.1 a1).length : Int) then (some (rd (rd_L3 bt754.1 a1) a2)) else (none)) else (none)) else (none)) else (none))
theorem q4_Gets.calls (k : Nat) (AX : Option Addr) (c0_0 : Nat) (lA : List (S27)) (AZ : Option Addr) (cC : Nat) (lC : List (S66)) (a1 : Int) (a2 : Int) (a3 : Int) (r : Int) (w : World) (hra : Kd.C k27 w AX lA.length lA) (hc0_0 : lA.length≤c0_0) (hr0_1 : Kd.C k66 w AZ lC.length lC) (hc0_1 : lC.length≤cC) (h : q4_Gets.f k lA lC a1 a2 a3 = some r) :
 Calls Tryz.prog 84 #[.agg #[.slice AX lA.length c0_0,.slice AZ lC.length cC],.int .i64 a1,.int .i64 a2,.int .i64 a3] w fun e w'=>e = .returned (.int .i64 r)∧Below w.heap.size w w':=by
 have hu59:=Tryz.underlying59
 have HRA:=am hra
 have HCA:=am hc0_0
 clear hra hc0_0
 have HRC:=am hr0_1
 have HCC:=am hc0_1
 clear hr0_1 hc0_1
 have HB:=am (Below.refl w.heap.size w)
 have H : ((q4_Flows.f k lA lC a3).bind fun bt754=>(if 0≤a1 then (if a1 < (bt754.1.length : Int) then (if 0≤a2 then (if a2 < ((rd_L3 bt754.1 a1).length : Int) then (some (rd (rd_L3 bt754.1 a1) a2)) else (none)) else (none)) else (none)) else (none))) = some r:=h
 clear h
 replace H:=obm H
 obtain ⟨⟨t754,t757⟩,A50,H⟩:=H
 replace H : (if 0≤a1 then (if a1 < (t754.length : Int) then (if 0≤a2 then (if a2 < ((rd_L3 t754 a1).length : Int) then (some (rd (rd_L3 t754 a1) a2)) else (none)) else (none)) else (none)) else (none)) = some r:=H
 have A5:=am A50
 clear A50
 by_cases c6 : 0≤a1
 case neg =>
  rw [if_neg c6] at H
  exact absurd H (by simp)
 rw [if_pos c6] at H
 have c6b0 : decide (0≤a1) = true:=decide_eq_true c6
 clear c6
 by_cases c7 : a1 < (t754.length : Int)
 case neg =>
  rw [if_neg c7] at H
  exact absurd H (by simp)
 rw [if_pos c7] at H
 have c7b0 : decide (a1 < (t754.length : Int)) = true:=decide_eq_true c7
 clear c7
 by_cases c8 : 0≤a2
 case neg =>
  rw [if_neg c8] at H
  exact absurd H (by simp)
 rw [if_pos c8] at H
 have c8b0 : decide (0≤a2) = true:=decide_eq_true c8
 clear c8
 by_cases c9 : a2 < ((rd_L3 t754 a1).length : Int)
 case neg =>
  rw [if_neg c9] at H
  exact absurd H (by simp)
 rw [if_pos c9] at H
 have c9b0 : decide (a2 < ((rd_L3 t754 a1).length : Int)) = true:=decide_eq_true c9
 clear c9
 obtain rfl:=Option.some.inj H
 go_enter Tryz.func84,Tryz.ntmps84
 go_wp2_with (first | ((refine zqm (N:=4) rfl ?_);refine zqk rfl (N:=4) rfl (cs:=#[.slice AX lA.length c0_0,.slice AZ lC.length cC]) (t:=59) ?hr ?_;(case hr=>go_simp;try rfl);intro gb753 hg w10 hbox hb;have BK753:=am (hbox);have GW753:=am (zqr (HB.out) hg);have GE753:=am (zqr (HB.out) hg);replace HB:=am (zqh (HB.out) hb);clear hb hbox hg;obtain ⟨hcz11_0,hcz11_1⟩:=cO2 BK753.out) | ((with_reducible refine zqq (f:=47) rfl ?_);refine zq8 (some 14) rfl rfl Tryz.func47 (by kernel_rfl) rfl #[.agg #[.slice AX lA.length c0_0,.slice AZ lC.length cC],.int .i64 a3] rfl (by (try simp only [List.map_toArray,List.map_cons,List.map_nil]);first | done | rfl | (simp only [List.length_drop,List.length_take];rfl)) ?_;(with_reducible refine (q4_Flows.calls k _ _ lA _ _ lC a3 t754 t757 _ ?side1 ?side2 ?side3 ?side4 A5.out).mono ?_);(case side1=>exact kC HRA.out HB.out);(case side2=>exact HCA.out);(case side3=>exact kC HRC.out HB.out);(case side4=>exact HCC.out);rintro e w12 ⟨v755,v758,rfl,ho0,ho1,hb⟩;refine ⟨_,rfl,?_⟩;have HO756:=am (Kd.S_lower ho0 (zqv (HB.out)));have HO759:=am (Kd.R_lower ho1 (zqv (HB.out)));replace BK753:=(kmv hb BK753);replace HB:=am (zqh (HB.out) hb);(try clear hb);(try clear hb2);(try clear hk);(try clear hi);(try clear ho0);(try clear ho1);obtain ⟨Ao13,co13,eo13⟩:=Kd.S_slice HO756.out;subst eo13;have p760 : 0≤(a1 : Int):=of_decide_eq_true (by assumption);have q760 : a1 < (t754.length : Int):=of_decide_eq_true (by assumption);obtain ⟨ad760,A760_0,c760_0,e760,hx760_0,hl760_0,hi760_0⟩:=at_L3 (Kd.S_reads' HO756.out).2.2 a1 p760 q760;cases e760;obtain ⟨ce760,hce760,hMe760,hcc760⟩:=Kd.S_get HO756.out [] a1 p760 (by first | exact q760 | exact of_decide_eq_true (by assumption) | (have e_:=(Kd.S_reads' HO756.out).1;omega));obtain ⟨ve760_0,rfl,ge760_0⟩:=hMe760;have hv760_0:=hcc760 0 _ rfl;rw [Nat.add_zero,show ((Kd.slice 3 (Kd.int .i64))).sz = 1 from rfl,Nat.mul_one] at hv760_0;replace hv760_0:=Option.some.inj (hv760_0.symm.trans hx760_0);rw [hv760_0] at ge760_0;have HL760_0:=am (show Kd.R (Kd.int .i64) 3 _ _ _ _ (rd_L3 t754 a1) from ge760_0);clear hv760_0 ge760_0;clear hcc760 hce760;have HR760_0:=am hi760_0;have HC760_0:=am hl760_0;clear hi760_0 hl760_0;replace p760:=eq_true p760;replace q760:=eq_true q760;have p761 : 0≤(a2 : Int):=of_decide_eq_true (by assumption);have q761 : a2 < ((rd_L3 t754 a1).length : Int):=of_decide_eq_true (by assumption);obtain ⟨ad761,e761,hx761_0⟩:=Kd.at_int (by repeat (first | (with_reducible exact HR760_0.out) | (with_reducible refine Kd.C_alloc ?_ _) | (with_reducible refine Kd.C_drewN ?_ _) | (with_reducible refine Kd.C_drew ?_) | exact HR760_0.out)) a2 p761 q761;cases e761;replace p761:=eq_true p761;replace q761:=eq_true q761))
 go_ret
 exact ⟨by first | rfl | (simp [*]<;>rfl),HB.out⟩
def q4_Least.l0 : Nat→Int→Int→Int→Int→Int→List (S27)→List (S66)→Option (Int)
 | 0,_,_,_,_,_,_,_=>none
 | k + 1,x1,x2,x3,x9,x10,x763000,x763001=>if x9 < x10 then ((q4_Gets.f k x763000 x763001 x1 x2 (wrap64 (Int.tdiv (wrap64 (x9 + x10)) 2))).bind fun t764=>(if t764 ≥ x3 then (q4_Least.l0 k x1 x2 x3 x9 (wrap64 (Int.tdiv (wrap64 (x9 + x10)) 2)) x763000 x763001) else (q4_Least.l0 k x1 x2 x3 (wrap64 ((wrap64 (Int.tdiv (wrap64 (x9 + x10)) 2)) + 1)) x10 x763000 x763001))) else (some x9)
def q4_Least.f (k : Nat) (lA : List (S27)) (lC : List (S66)) (a1 : Int) (a2 : Int) (a3 : Int) : Option (Int):=(q4_Gets.f k lA lC a1 a2 10000).bind fun t763=>(if t763 < a3 then (some (-1)) else (q4_Least.l0 k a1 a2 a3 0 10000 lA lC))
theorem q4_Least.calls (k : Nat) (AX : Option Addr) (c0_0 : Nat) (lA : List (S27)) (AZ : Option Addr) (cC : Nat) (lC : List (S66)) (a1 : Int) (a2 : Int) (a3 : Int) (r : Int) (w : World) (hra : Kd.C k27 w AX lA.length lA) (hc0_0 : lA.length≤c0_0) (hr0_1 : Kd.C k66 w AZ lC.length lC) (hc0_1 : lC.length≤cC) (h : q4_Least.f k lA lC a1 a2 a3 = some r) :
 Calls Tryz.prog 37 #[.agg #[.slice AX lA.length c0_0,.slice AZ lC.length cC],.int .i64 a1,.int .i64 a2,.int .i64 a3] w fun e w'=>e = .returned (.int .i64 r)∧Below w.heap.size w w':=by
 have hu59:=Tryz.underlying59
 have HRA:=am hra
 have HCA:=am hc0_0
 clear hra hc0_0
 have HRC:=am hr0_1
 have HCC:=am hc0_1
 clear hr0_1 hc0_1
 have HB:=am (Below.refl w.heap.size w)
 have H : ((q4_Gets.f k lA lC a1 a2 10000).bind fun t763=>(if t763 < a3 then (some (-1)) else (q4_Least.l0 k a1 a2 a3 0 10000 lA lC))) = some r:=h
 clear h
 replace H:=obm H
 obtain ⟨t763,A50,H⟩:=H
 replace H : (if t763 < a3 then (some (-1)) else (q4_Least.l0 k a1 a2 a3 0 10000 lA lC)) = some r:=H
 have A5:=am A50
 clear A50
 by_cases c6 : t763 < a3
 ·rw [if_pos c6] at H
  have c6b0 : decide (t763 < a3) = true:=decide_eq_true c6
  clear c6
  obtain rfl:=Option.some.inj H
  go_enter Tryz.func37,Tryz.ntmps37
  go_wp2_with (first | ((refine zqm (N:=4) rfl ?_);refine zqk rfl (N:=4) rfl (cs:=#[.slice AX lA.length c0_0,.slice AZ lC.length cC]) (t:=59) ?hr ?_;(case hr=>go_simp;try rfl);intro gb762 hg w7 hbox hb;have BK762:=am (hbox);have GW762:=am (zqr (HB.out) hg);have GE762:=am (zqr (HB.out) hg);replace HB:=am (zqh (HB.out) hb);clear hb hbox hg;obtain ⟨hcz8_0,hcz8_1⟩:=cO2 BK762.out) | ((with_reducible refine zqq (f:=84) rfl ?_);refine zq8 (some 15) rfl rfl Tryz.func84 (by kernel_rfl) rfl #[.agg #[.slice AX lA.length c0_0,.slice AZ lC.length cC],.int .i64 a1,.int .i64 a2,.int .i64 10000] rfl (by (try simp only [List.map_toArray,List.map_cons,List.map_nil]);first | done | rfl | (simp only [List.length_drop,List.length_take];rfl)) ?_;(with_reducible refine (q4_Gets.calls k _ _ lA _ _ lC a1 a2 10000 t763 _ ?side1 ?side2 ?side3 ?side4 A5.out).mono ?_);(case side1=>exact kC HRA.out HB.out);(case side2=>exact HCA.out);(case side3=>exact kC HRC.out HB.out);(case side4=>exact HCC.out);rintro e w9 ⟨rfl,hb⟩;refine ⟨_,rfl,?_⟩;replace BK762:=(kmv hb BK762);replace HB:=am (zqh (HB.out) hb);(try clear hb);(try clear hb2);(try clear hk);(try clear hi)))
  go_ret
  exact ⟨by first | rfl | (simp [*]<;>rfl),HB.out⟩
 ·rw [if_neg c6] at H
  have c6b0 : decide (t763 < a3) = false:=decide_eq_false c6
  clear c6
  replace H':=am H
  go_enter Tryz.func37,Tryz.ntmps37
  go_wp2_with (first | ((refine zqm (N:=4) rfl ?_);refine zqk rfl (N:=4) rfl (cs:=#[.slice AX lA.length c0_0,.slice AZ lC.length cC]) (t:=59) ?hr ?_;(case hr=>go_simp;try rfl);intro gb762 hg w10 hbox hb;have BK762:=am (hbox);have GW762:=am (zqr (HB.out) hg);have GE762:=am (zqr (HB.out) hg);replace HB:=am (zqh (HB.out) hb);clear hb hbox hg;obtain ⟨hcz11_0,hcz11_1⟩:=cO2 BK762.out) | ((with_reducible refine zqq (f:=84) rfl ?_);refine zq8 (some 15) rfl rfl Tryz.func84 (by kernel_rfl) rfl #[.agg #[.slice AX lA.length c0_0,.slice AZ lC.length cC],.int .i64 a1,.int .i64 a2,.int .i64 10000] rfl (by (try simp only [List.map_toArray,List.map_cons,List.map_nil]);first | done | rfl | (simp only [List.length_drop,List.length_take];rfl)) ?_;(with_reducible refine (q4_Gets.calls k _ _ lA _ _ lC a1 a2 10000 t763 _ ?side1 ?side2 ?side3 ?side4 A5.out).mono ?_);(case side1=>exact kC HRA.out HB.out);(case side2=>exact HCA.out);(case side3=>exact kC HRC.out HB.out);(case side4=>exact HCC.out);rintro e w12 ⟨rfl,hb⟩;refine ⟨_,rfl,?_⟩;replace BK762:=(kmv hb BK762);replace HB:=am (zqh (HB.out) hb);(try clear hb);(try clear hb2);(try clear hk);(try clear hi)))
  go_loopg [9,10] k (fun kq v9 v10 w'=>∃ (x9_1 : Int) (x10_1 : Int),v9 = .int .i64 x9_1∧v10 = .int .i64 x10_1∧zqg (q4_Least.l0 kq a1 a2 a3 x9_1 x10_1 lA lC = some r)∧zqg (kq≤k)∧zqg (w'.heap[gb762]? = some (.cells #[(.slice AX lA.length c0_0),(.slice AZ lC.length cC)] 59 (0,0)))∧zqg (Below w.heap.size w w'))
  case atStart=>exact ⟨(0),(10000),(by first | rfl | (simp;done) | (simp [*];done)),(by first | rfl | (simp;done) | (simp [*];done)),H',⟨Nat.le_refl _⟩,⟨BK762.out⟩,⟨HB.out⟩⟩
  case round =>
   clear H'
   obtain ⟨x9_1,x10_1,rfl,rfl,HA,HK1,BK762,HB⟩:=hrel
   cases gk with
   | zero=>exact absurd HA.out (by simp [q4_Least.l0])
   | succ k1 =>
    have H:=HA.out
    clear HA
    simp only [q4_Least.l0] at H
    by_cases c13 : x9_1 < x10_1
    case neg =>
     rw [if_neg c13] at H
     have c13b0 : decide (x9_1 < x10_1) = false:=decide_eq_false c13
     clear c13
     obtain rfl:=Option.some.inj H
     go_wp2
     go_ret
     exact ⟨by first | rfl | (simp [*]<;>rfl),HB.out⟩
    rw [if_pos c13] at H
    have c13b0 : decide (x9_1 < x10_1) = true:=decide_eq_true c13
    clear c13
    replace H:=obm H
    obtain ⟨t764,A140,H⟩:=H
    replace H : (if t764 ≥ a3 then (q4_Least.l0 k1 a1 a2 a3 x9_1 (wrap64 (Int.tdiv (wrap64 (x9_1 + x10_1)) 2)) lA lC) else (q4_Least.l0 k1 a1 a2 a3 (wrap64 ((wrap64 (Int.tdiv (wrap64 (x9_1 + x10_1)) 2)) + 1)) x10_1 lA lC)) = some r:=H
    have A14:=am A140
    clear A140
    by_cases c15 : t764 ≥ a3
    ·rw [if_pos c15] at H
     have c15b0 : decide (a3≤t764) = true:=decide_eq_true c15
     clear c15
     replace H':=am H
     obtain ⟨hcz16_0,hcz16_1⟩:=cO2 BK762.out
     go_wp2_with (first | ((with_reducible refine zqq (f:=84) rfl ?_);refine zq8 (some 29) rfl rfl Tryz.func84 (by kernel_rfl) rfl #[.agg #[.slice AX lA.length c0_0,.slice AZ lC.length cC],.int .i64 a1,.int .i64 a2,.int .i64 (wrap64 (Int.tdiv (wrap64 (x9_1 + x10_1)) 2))] rfl (by (try simp only [List.map_toArray,List.map_cons,List.map_nil]);first | done | rfl | (simp only [List.length_drop,List.length_take];rfl)) ?_;(with_reducible refine (q4_Gets.calls k1 _ _ lA _ _ lC a1 a2 (wrap64 (Int.tdiv (wrap64 (x9_1 + x10_1)) 2)) t764 _ ?side1 ?side2 ?side3 ?side4 A14.out).mono ?_);(case side1=>exact kC HRA.out HB.out);(case side2=>exact HCA.out);(case side3=>exact kC HRC.out HB.out);(case side4=>exact HCC.out);rintro e w17 ⟨rfl,hb⟩;refine ⟨_,rfl,?_⟩;replace BK762:=(kmv hb BK762);replace HB:=am (zqh (HB.out) hb);(try clear hb);(try clear hb2);(try clear hk);(try clear hi)))
     go_roundg k1
     case measure=>have:=HK1.out;omega
     case rel=>exact ⟨(x9_1),(wrap64 (Int.tdiv (wrap64 (x9_1 + x10_1)) 2)),(by first | rfl | (simp;done) | (simp [*];done)),(by first | rfl | (simp;done) | (simp [*];done)),H',⟨by have:=HK1.out;omega⟩,⟨BK762.out⟩,⟨HB.out⟩⟩
    ·rw [if_neg c15] at H
     have c15b0 : decide (a3≤t764) = false:=decide_eq_false c15
     clear c15
     replace H':=am H
     obtain ⟨hcz18_0,hcz18_1⟩:=cO2 BK762.out
     go_wp2_with (first | ((with_reducible refine zqq (f:=84) rfl ?_);refine zq8 (some 29) rfl rfl Tryz.func84 (by kernel_rfl) rfl #[.agg #[.slice AX lA.length c0_0,.slice AZ lC.length cC],.int .i64 a1,.int .i64 a2,.int .i64 (wrap64 (Int.tdiv (wrap64 (x9_1 + x10_1)) 2))] rfl (by (try simp only [List.map_toArray,List.map_cons,List.map_nil]);first | done | rfl | (simp only [List.length_drop,List.length_take];rfl)) ?_;(with_reducible refine (q4_Gets.calls k1 _ _ lA _ _ lC a1 a2 (wrap64 (Int.tdiv (wrap64 (x9_1 + x10_1)) 2)) t764 _ ?side1 ?side2 ?side3 ?side4 A14.out).mono ?_);(case side1=>exact kC HRA.out HB.out);(case side2=>exact HCA.out);(case side3=>exact kC HRC.out HB.out);(case side4=>exact HCC.out);rintro e w19 ⟨rfl,hb⟩;refine ⟨_,rfl,?_⟩;replace BK762:=(kmv hb BK762);replace HB:=am (zqh (HB.out) hb);(try clear hb);(try clear hb2);(try clear hk);(try clear hi)))
     go_roundg k1
     case measure=>have:=HK1.out;omega
     case rel=>exact ⟨(wrap64 ((wrap64 (Int.tdiv (wrap64 (x9_1 + x10_1)) 2)) + 1)),(x10_1),(by first | rfl | (simp;done) | (simp [*];done)),(by first | rfl | (simp;done) | (simp [*];done)),H',⟨by have:=HK1.out;omega⟩,⟨BK762.out⟩,⟨HB.out⟩⟩
end
end Go.Proofs.YtnnmnhpeblhiiaaGreatDoor.C
namespace Go.Abs
open Go.RowKit Go.Proofs.YtnnmnhpeblhiiaaGreatDoorW.PrintWords Go.Proofs.YtnnmnhpeblhiiaaGreatDoorW.PrintMore
set_option maxHeartbeats 16000000
set_option maxRecDepth 100000
def capOk (k : Nat) (s : St) (v : AV) : Bool:=
 match v with
 | .nilSlice=>true
 | .slice _ _ n c=>Nat.ble n c
 | .opn b n=>match s.heap.get b with
  | some (.cells _ (some k') cs)=>Nat.beq k' k && Nat.ble 1 k && Nat.ble (n * k) cs.length
  | some (.ro _ (some k') cs)=>Nat.beq k' k && Nat.ble 1 k && Nat.ble (n * k) cs.length
  | _=>false
 | _=>false
theorem capOk_le {e : Env} {s : St} {w : World} (hs : Sim e s w) {k n m c : Nat} {v : AV} {A : Option Addr} (h : capOk k s v = true) (hx : conc e v = some (.slice A m c)) : m≤c:=by
 unfold capOk at h
 split at h
 ·simp only [conc,Option.some.injEq,Value.slice.injEq] at hx;omega
 ·simp only [conc,Option.map_eq_some_iff,Value.slice.injEq] at hx
  obtain ⟨p,_,_,rfl,rfl⟩:=hx
  exact Nat.le_of_ble_eq_true h
 ·simp only [conc,Option.map_eq_some_iff,Value.slice.injEq] at hx
  obtain ⟨p,hp,_,rfl,rfl⟩:=hx
  have key : ∀ {n' k' : Nat} {cs : List AV} {vs rest : List Value},(Nat.beq k' k && Nat.ble 1 k && Nat.ble (n' * k) cs.length) = true→concL e cs = some vs→(vs ++ rest).length = p.2 * k'→n'≤p.2:=by
   intro n' k' cs vs rest h h1 h2
   simp only [Bool.and_eq_true,Nat.beq_eq,Nat.ble_eq] at h
   obtain ⟨⟨rfl,h3⟩,h4⟩:=h
   rw [List.length_append,zq1 h1] at h2
   exact Nat.le_of_mul_le_mul_right (by omega : n' * k'≤p.2 * k') (by omega)
  split at h
  ·rename_i hb
   obtain ⟨b,q,ob,he,_,vs,rest,h1,rfl,h2⟩:=hs.at_ _ _ hb
   rw [hp] at he;cases he
   exact key h h1 h2
  ·rename_i hb
   obtain ⟨b,q,ob,he,_,vs,rest,h1,rfl,h2⟩:=hs.at_ _ _ hb
   rw [hp] at he;cases he
   exact key h h1 (h2 _ rfl)
  ·cases h
 ·cases h
theorem first_cells {e : Env} {s : St} {w : World} (hs : Sim e s w) {m n c : Nat} {v : AV} {cs : List AV} {A : Option Addr} (h : zvr m v s = some cs) (hx : conc e v = some (.slice A n c)) (hm : 0 < m) :
 ∃ ad vs,A = some ad∧concL e cs = some vs∧∀ i u,vs[i]? = some u→w.cell? (ad.add i) = some u:=by
 have cell : ∀ {g o : Nat} {t : TypeId} {vs rest us : List Value},w.heap[g]? = some (.cells (vs ++ rest).toArray t (0,0))→(∀ i u,us[i]? = some u→vs[o + i]? = some u)→∀ i u,us[i]? = some u→w.cell? ((⟨g,o,none⟩ : Addr).add i) = some u:=by
  intro g o t vs rest us hg hus i u hu
  have h1:=hus i u hu
  have h2 : o + i < vs.length:=(List.getElem?_eq_some_iff.1 h1).1
  rw [zw9]
  simp only [World.cell?,hg]
  simp only [Option.isSome_none,Bool.false_eq_true,if_false,List.getElem?_toArray]
  rw [List.getElem?_append_left h2];exact h1
 unfold zvr at h
 split at h
 ·split at h
  ·omega
  ·cases h
 ·simp only [Option.bind_eq_some_iff] at h
  obtain ⟨ds,hg,h⟩:=h
  split at h
  ·simp only [Option.some.injEq] at h;subst h
   obtain ⟨g,q,t,vs,rest,he,hb,hvs⟩:=rd_at hs hg
   simp only [conc,he,Option.map_some,Option.some.injEq,Value.slice.injEq] at hx
   obtain ⟨rfl,_,_⟩:=hx
   refine ⟨_,_,rfl,zw7 (zvx hvs _) _,cell hb fun i u hu=>?_⟩
   rw [List.getElem?_take] at hu
   split at hu
   ·rw [List.getElem?_drop] at hu;exact hu
   ·cases hu
  ·cases h
 ·simp only [Option.bind_eq_some_iff] at h
  obtain ⟨ds,hg,h⟩:=h
  split at h
  ·simp only [Option.some.injEq] at h;subst h
   obtain ⟨g,q,t,vs,rest,he,hb,hvs⟩:=rd_at hs hg
   simp only [conc,he,Option.map_some,Option.some.injEq,Value.slice.injEq] at hx
   obtain ⟨rfl,_,_⟩:=hx
   refine ⟨_,_,rfl,zw7 hvs _,cell hb fun i u hu=>?_⟩
   rw [List.getElem?_take] at hu
   split at hu
   ·rw [Nat.zero_add];exact hu
   ·cases hu
  ·cases h
 ·cases h
def rdG {α : Type} (sz : Nat) (dec : List AV→Option (List α)) (s : St) (v : AV) : Option (List α):=
 if capOk sz s v then (lenSl v).bind fun n=>if Nat.ble n 1000000 then (zvr (n * sz) v s).bind fun cs=>(dec cs).bind fun xs=>if Nat.beq xs.length n then some xs else none else none else none
theorem rdG_ok {α : Type} {d : Kd α} {e : Env} {s : St} {w : World} (hs : Sim e s w) {dec : List AV→Option (List α)} (hsz : 0 < d.sz)
 (hdec : ∀ cs xs vs,dec cs = some xs→concL e cs = some vs→∀ j p,xs[j]? = some p→d.K w p ((vs.drop (j * d.sz)).take d.sz))
 {v : AV} {xs : List α} {x : Value} (h : rdG d.sz dec s v = some xs) (hx : conc e v = some x) : ∃ A c,x = .slice A xs.length c∧xs.length≤c∧d.C w A xs.length xs:=by
 unfold rdG at h
 split at h
 case isFalse=>cases h
 rename_i hcap
 simp only [Option.bind_eq_some_iff] at h
 obtain ⟨n,hn,h⟩:=h
 split at h
 case isFalse=>cases h
 rename_i hle
 simp only [Option.bind_eq_some_iff] at h
 obtain ⟨cs,hcs,xs',hxs,h⟩:=h
 split at h
 case isFalse=>cases h
 rename_i hlen
 cases h
 have hlen : xs.length = n:=Nat.eq_of_beq_eq_true hlen
 subst hlen
 obtain ⟨_,A,c,rfl⟩:=zgk hn hx
 refine ⟨A,c,rfl,capOk_le hs (n:=0) hcap hx,rfl,by have:=Nat.le_of_ble_eq_true hle;omega,fun h0=>?_⟩
 obtain ⟨ad,vs,rfl,hvs,hcell⟩:=first_cells hs hcs hx (Nat.mul_pos h0 hsz)
 refine ⟨ad,rfl,fun j p hj=>⟨_,d.K_len (hdec cs xs vs hxs hvs j p hj),hdec cs xs vs hxs hvs j p hj,fun i u hu=>?_⟩⟩
 rw [List.getElem?_take] at hu
 split at hu
 ·rw [List.getElem?_drop] at hu
  exact hcell _ u hu
 ·cases hu
def intsA : List AV→Option (List Int)
 | []=>some []
 | .int .i64 a :: l=>(intsA l).map (a :: ·)
 | _=>none
theorem intsA_eq : ∀ {cs : List AV} {xs : List Int},intsA cs = some xs→cs = xs.map (.int .i64)
 | [],_,h=>by cases h;rfl
 | a :: l,xs,h=>by
  unfold intsA at h
  split at h
  ·cases ‹_ :: _ = []›
  ·rename_i heq;cases heq
   simp only [Option.map_eq_some_iff] at h
   obtain ⟨ys,h1,rfl⟩:=h
   rw [intsA_eq h1];rfl
  ·cases h
theorem zki (e : Env) : ∀ xs : List Int,concL e (xs.map (.int .i64)) = some (xs.map (Value.int .i64))
 | []=>rfl
 | x :: xs=>by simp [concL,conc,zki e xs]
def rdInts : St→AV→Option (List Int):=rdG 1 intsA
theorem rdInts_ok {e : Env} {s : St} {w : World} (hs : Sim e s w) {v : AV} {xs : List Int} {x : Value} (h : rdInts s v = some xs) (hx : conc e v = some x) : ∃ A c,x = .slice A xs.length c∧xs.length≤c∧(Kd.int .i64).C w A xs.length xs:=by
 refine rdG_ok (d:=Kd.int .i64) hs (by show 0 < 1;omega) (fun cs xs vs h1 h2 j p hj=>?_) h hx
 rw [intsA_eq h1,zki] at h2;cases h2
 show ((xs.map (Value.int .i64)).drop (j * 1)).take 1 = [.int .i64 p]
 have : (xs.map (Value.int .i64))[j * 1]? = some (.int .i64 p):=by simp [hj]
 rw [List.drop_eq_getElem?_toList_append]
 rw [this];rfl
def eachA {α : Type} (f : AV→Option α) : List AV→Option (List α)
 | []=>some []
 | v :: l=>(f v).bind fun x=>(eachA f l).map (x :: ·)
theorem eachA_at {α : Type} {f : AV→Option α} : ∀ {cs : List AV} {xs : List α},eachA f cs = some xs→∀ {e : Env} {vs : List Value},concL e cs = some vs→∀ j p,xs[j]? = some p→∃ v y,f v = some p∧conc e v = some y∧(vs.drop (j * 1)).take 1 = [y]
 | [],_,h,e,vs,hv,j,p,hj=>by cases h;simp at hj
 | c :: cs,xs,h,e,vs,hv,j,p,hj=>by
  simp only [eachA,Option.bind_eq_some_iff,Option.map_eq_some_iff] at h
  obtain ⟨x,hx,ys,hys,rfl⟩:=h
  obtain ⟨y,zs,hy,hzs,rfl⟩:=zvy hv
  cases j with
  | zero=>cases hj;exact ⟨c,y,hx,hy,by simp⟩
  | succ j =>
   obtain ⟨v,y',h1,h2,h3⟩:=eachA_at hys hzs j p (by simpa using hj)
   exact ⟨v,y',h1,h2,by rw [show (j + 1) * 1 = j * 1 + 1 by omega];exact h3⟩
def rdLists (s : St) : AV→Option (List (List Int)):=rdG 1 (eachA (rdInts s)) s
theorem zmr {e : Env} {s : St} {w : World} (hs : Sim e s w) {v : AV} {xs : List (List Int)} {x : Value} (h : rdLists s v = some xs) (hx : conc e v = some x) : ∃ A c,x = .slice A xs.length c∧xs.length≤c∧(Kd.slice 3 (Kd.int .i64)).C w A xs.length xs:=by
 refine rdG_ok (d:=Kd.slice 3 (Kd.int .i64)) hs (by show 0 < 1;omega) (fun cs xs vs h1 h2 j p hj=>?_) h hx
 obtain ⟨v,y,h3,h4,h5⟩:=eachA_at h1 h2 j p hj
 obtain ⟨A,c,rfl,h6,h7⟩:=rdInts_ok hs h3 h4
 exact ⟨A,c,h5,h6,h7⟩
theorem grow {e : Env} {s : St} {w w' : World} (h : Sim e s w) (hb : Below w.heap.size w w') : Sim e s w'∧Goes e s w e s w':=by
 refine ⟨⟨fun n x hx=>?_,h.inj,fun n b q hn=>Nat.lt_of_lt_of_le (h.bound n b q hn) hb.size⟩,⟨Env.le.refl e,fun _ h=>.inl h,fun _ _ h=>h,fun _ _ h=>h,fun b hb' _=>hb.block b hb',hb.size,hb.os,hb.tape,hb.output,fun _ _=>rfl,fun _ h=>h,Nat.le_refl _⟩⟩
 obtain ⟨b,q,ob,he,hw,hr⟩:=h.at_ n x hx
 exact ⟨b,q,ob,he,(hb.block b (h.bound n b q he)).trans hw,hr⟩
def zg9 (e : Env) (s : St) (B : Nat) : Prop:=∀ n x b q,s.heap.get n = some x→x.rw→e n = some (b,q)→b < B
theorem addAt {e0 e : Env} {s0 s : St} {w0 w : World} (hg : Goes e0 s0 w0 e s w) (h : Sim e s w) (hr : zg9 e s w0.heap.size) {g q : Nat} {blk : Blk} {ob : Obj} (hfree : e s.next = none) (h0 : w0.heap.size≤g) (hlt : g < w.heap.size)
 (hro : ¬ blk.rw∨∀ n x q,s.heap.get n = some x→e n ≠ some (g,q)) (hob : w.heap[g]? = some ob) (hb : zkr (e.upd s.next (g,q)) q blk ob) :
 Sim (e.upd s.next (g,q)) (s.add blk) w∧Goes e0 s0 w0 (e.upd s.next (g,q)) (s.add blk) w∧(¬ blk.rw→zg9 (e.upd s.next (g,q)) (s.add blk) w0.heap.size):=by
 have hle:=Env.le_upd (g,q) hfree
 refine ⟨⟨?_,?_,?_⟩,⟨hg.le.trans hle,?_,?_,?_,hg.frame,hg.size,hg.os,hg.tape,hg.output,?_,?_,Nat.le_trans hg.next (Nat.le_succ _)⟩,?_⟩
 ·intro m x hx
  simp only [St.add,Tr.get_set] at hx
  split at hx
  ·subst m;cases hx;exact ⟨g,q,ob,Env.upd_self ..,hob,hb⟩
  ·obtain ⟨b',q',ob',he',hb',hr'⟩:=h.at_ m x hx
   exact ⟨b',q',ob',hle _ _ he',hb',hr'.le hle⟩
 ·intro m k b' q1 q2 x y hm hmr hk em ek
  simp only [St.add,Tr.get_set] at hm hk
  by_cases e1 : m = s.next<;>by_cases e2 : k = s.next
  ·rw [e1,e2]
  ·subst e1;rw [Env.upd_self] at em;cases em;rw [Env.upd_ne _ _ e2] at ek;rw [if_neg e2] at hk;rw [if_pos rfl] at hm;cases hm
   rcases hro with hro | hro
   ·exact absurd hmr hro
   ·exact absurd ek (hro _ _ _ hk)
  ·subst e2;rw [Env.upd_self] at ek;cases ek;rw [Env.upd_ne _ _ e1] at em;rw [if_neg e1] at hm
   exact absurd (hr m _ _ _ hm hmr em) (by omega)
  ·rw [if_neg e1] at hm;rw [if_neg e2] at hk;rw [Env.upd_ne _ _ e1] at em;rw [Env.upd_ne _ _ e2] at ek
   exact h.inj m k b' q1 q2 _ _ hm hmr hk em ek
 ·intro m b' q' hm
  by_cases e1 : m = s.next
  ·subst e1;rw [Env.upd_self] at hm;cases hm;exact hlt
  ·rw [Env.upd_ne _ _ e1] at hm;exact h.bound m b' q' hm
 ·intro m hm
  by_cases e1 : m = s.next
  ·exact .inr ⟨by rw [e1];exact hg.next,by simp only [St.add];omega⟩
  ·rw [Env.upd_ne _ _ e1] at hm
   rcases hg.rng m hm with h1 | ⟨h1,h2⟩
   ·exact .inl h1
   ·exact .inr ⟨h1,Nat.lt_succ_of_lt h2⟩
 ·rintro b' hb' ⟨m,x,q',hx,hxr,hm⟩
  simp only [St.add,Tr.get_set] at hx
  by_cases e1 : m = s.next
  ·subst e1;rw [Env.upd_self] at hm;cases hm;omega
  ·rw [if_neg e1] at hx;rw [Env.upd_ne _ _ e1] at hm;exact hg.own b' hb' ⟨m,x,q',hx,hxr,hm⟩
 ·rintro b' hb' ⟨m,x,q',hx,hm⟩
  simp only [St.add,Tr.get_set] at hx
  by_cases e1 : m = s.next
  ·subst e1;rw [Env.upd_self] at hm;cases hm;omega
  ·rw [if_neg e1] at hx;rw [Env.upd_ne _ _ e1] at hm;exact hg.met b' hb' ⟨m,x,q',hx,hm⟩
 ·intro m hm
  simp only [St.add,List.mem_cons,not_or] at hm ⊢
  rw [Tr.get_set,if_neg hm.1];exact hg.log m hm.2
 ·intro m hm;exact List.mem_cons_of_mem _ (hg.logs m hm)
 ·intro hro m x b' q' hx hxr hm
  simp only [St.add,Tr.get_set] at hx
  by_cases e1 : m = s.next
  ·subst e1;rw [if_pos rfl] at hx;cases hx;exact absurd hxr hro
  ·rw [if_neg e1] at hx;rw [Env.upd_ne _ _ e1] at hm;exact hr m x b' q' hx hxr hm
theorem rwBelow {e : Env} {s : St} {w : World} (h : Sim e s w) : zg9 e s w.heap.size:=fun n x b q _ _ he=>h.bound n b q he
theorem endsC {P : Program} {f : FuncId} {xs : Array Value} {w : World} {R : Ending→World→Prop} (h : Calls P f xs w R) (c : Frame) (cs : List Frame) :
 ∃ e w',R e w'∧∀ v,e = .returned v→Steps P (lone (Frame.enter P f xs .normal) (c :: cs) w) (lone (c.finish v) cs w'):=by
 obtain ⟨e,w',fr,hR,hc,_,hl⟩:=h (c :: cs)
 refine ⟨e,w',hR,fun v hv=>?_⟩
 subst hv
 exact Steps.trans hc (.one (step_leave_returned hl))
theorem row_of {d : Kd Int} {e base n : Nat} {w : World} {ok : Nat→Prop} {v : Value} {xs : List Int} (h : (Kd.int .i64).R e w base ok v xs) (hx : xs ≠ []) :
 ∃ g cap rest,v = .slice (some ⟨g,0,none⟩) xs.length cap∧base≤g∧g < w.heap.size∧w.heap[g]? = some (.cells (xs.map (Value.int .i64) ++ rest).toArray e (0,0))∧(xs.map (Value.int .i64) ++ rest).length = cap * 1:=by
 obtain ⟨_,inner,ho,hr⟩:=h
 obtain ⟨h1,h2⟩:=ho
 rcases h2 with ⟨_,h2⟩ | ⟨g,cap,cur,rfl,h3,h4,h5,h6,h7,h8⟩
 ·exact absurd (List.length_eq_zero_iff.1 h2) hx
 have hin : inner = xs.map (Value.int .i64):=by
  apply List.ext_getElem?
  intro j
  have hl : inner.length = xs.length * 1:=h1
  cases hj : xs[j]? with
  | none =>
   rw [List.getElem?_map,hj,List.getElem?_eq_none];· rfl
   have:=List.getElem?_eq_none_iff.1 hj;omega
  | some p =>
   have h9 : (inner.drop (j * 1)).take 1 = [.int .i64 p]:=hr.2 j p hj
   rw [List.getElem?_map,hj]
   have : ((inner.drop (j * 1)).take 1)[0]? = some (Value.int .i64 p):=by rw [h9];rfl
   rw [List.getElem?_take,if_pos (by omega),List.getElem?_drop] at this
   simpa using this
 have hsz : (Kd.int .i64).sz = 1:=rfl
 rw [hsz] at h7 h8
 refine ⟨g,cap,cur.toList.drop (xs.length * 1),rfl,h3,(Array.getElem?_eq_some_iff.1 h4).1,?_,?_⟩
 ·rw [h4,← hin,← h8,List.take_append_drop]
 ·rw [← hin,← h8,List.take_append_drop,Array.length_toList];exact h7
def zvh (t : TypeId) : List (List Int)→St→List AV × St
 | [],s=>([],s)
 | l :: r,s=>let q:=zvh t r (s.add (.ro t (some 1) (l.map (.int .i64))));(.opn s.next l.length :: q.1,q.2)
theorem zkb (t : TypeId) : ∀ (l : List (List Int)) (s : St),(zvh t l s).2.next = s.next + l.length
 | [],s=>rfl
 | x :: r,s=>by
  show (zvh t r _).2.next = _
  rw [zkb t r];simp only [St.add,List.length_cons];omega
theorem zng {e0 : Env} {s0 : St} {w0 w : World} {t : TypeId} {ok : Nat→Prop} : ∀ {l : List (List Int)} {vs : List Value} {e : Env} {s : St},Goes e0 s0 w0 e s w→Sim e s w→zg9 e s w0.heap.size→Free e s.next (s.next + l.length)→
 vs.length = l.length→(∀ (j : Nat) (xs : List Int),l[j]? = some xs→xs ≠ []∧∃ v,vs[j]? = some v∧(Kd.int .i64).R t w w0.heap.size ok v xs)→
 ∃ e',Goes e0 s0 w0 e' (zvh t l s).2 w∧Sim e' (zvh t l s).2 w∧zg9 e' (zvh t l s).2 w0.heap.size∧e.le e'∧concL e' (zvh t l s).1 = some vs∧∀ n,s.next + l.length≤n→e n = none→e' n = none
 | [],vs,e,s,hg,hs,hr,hf,hl,h=>by
  obtain rfl : vs = []:=List.length_eq_zero_iff.1 hl
  exact ⟨e,hg,hs,hr,Env.le.refl e,rfl,fun _ _ h=>h⟩
 | x :: r,vs,e,s,hg,hs,hr,hf,hl,h=>by
  obtain ⟨v,vs,rfl⟩ : ∃ v vs',vs = v :: vs':=by cases vs with | nil=>simp at hl | cons a b=>exact ⟨a,b,rfl⟩
  obtain ⟨hx,v',hv',hR⟩:=h 0 x rfl
  cases hv'
  obtain ⟨g,cap,rest,rfl,h1,h2,h3,h4⟩:=row_of (d:=Kd.int .i64) (n:=0) hR hx
  have hfree : e s.next = none:=hf _ (Nat.le_refl _) (by simp only [List.length_cons];omega)
  have hle:=Env.le_upd (g,cap) hfree
  obtain ⟨q1,q2,q3⟩:=addAt (q:=cap) (blk:=.ro t (some 1) (x.map (.int .i64))) hg hs hr hfree h1 h2 (.inl fun z=>z) h3 ⟨_,rest,zki _ x,rfl,fun m hm=>by cases hm;exact h4⟩
  obtain ⟨e',p1,p2,p3,p4,p5,p6⟩:=zng (l:=r) (vs:=vs) (s:=s.add (.ro t (some 1) (x.map (.int .i64)))) q2 q1 (q3 fun z=>z) (fun n a b=>by
   rw [Env.upd_ne _ _ (by simp only [St.add] at a;omega)]
   exact hf n (by simp only [St.add] at a;omega) (by simp only [St.add] at b;simp only [List.length_cons];omega)) (by simpa using hl) (fun j xs hj=>h (j + 1) xs (by simpa using hj))
  refine ⟨e',p1,p2,p3,hle.trans p4,?_,fun n a b=>p6 n (by simp only [St.add,List.length_cons] at a ⊢;omega) ?_⟩
  ·simp only [zvh,concL,conc,p4 _ _ (Env.upd_self e s.next (g,cap)),Option.map_some,Option.bind_some,p5]
  ·rw [Env.upd_ne _ _ (by simp only [List.length_cons] at a;omega)];exact b
end Go.Abs
namespace Go.Proofs.YtnnmnhpeblhiiaaGreatDoor.C
open Go.RowKit Go.Proofs.YtnnmnhpeblhiiaaGreatDoorW.PrintWords Go.Proofs.YtnnmnhpeblhiiaaGreatDoorW.PrintLast Go.Proofs.YtnnmnhpeblhiiaaGreatDoorW.PrintMore
set_option maxHeartbeats 16000000
set_option maxRecDepth 100000
section
attribute [local go_sem] zwg zwf zwm zwl
def nz_in.f (a0 : Int) (a1 : Int) (a2 : Int) : Option (Bool):=if a0 ≥ a1 then (some (decide (a0≤a2))) else (some false)
theorem nz_in.calls (a0 : Int) (a1 : Int) (a2 : Int) (r : Bool) (w : World) (h : nz_in.f a0 a1 a2 = some r) :
 Calls Tryz.prog 135 #[.int .i64 a0,.int .i64 a1,.int .i64 a2] w fun e w'=>e = .returned (.bool r)∧zq0 w w':=by
 have H : (if a0 ≥ a1 then (some (decide (a0≤a2))) else (some false)) = some r:=h
 clear h
 by_cases c4 : a0 ≥ a1
 ·rw [if_pos c4] at H
  have c4b0 : decide (a1≤a0) = true:=decide_eq_true c4
  clear c4
  obtain rfl:=Option.some.inj H
  go_enter Tryz.func135,Tryz.ntmps135
  go_wp2
  go_ret
  exact ⟨by first | rfl | (simp;done) | (simp [*];done),by repeat (first | exact zq0.refl _ | apply zq0.step)⟩
 ·rw [if_neg c4] at H
  have c4b0 : decide (a1≤a0) = false:=decide_eq_false c4
  clear c4
  obtain rfl:=Option.some.inj H
  go_enter Tryz.func135,Tryz.ntmps135
  go_wp2
  go_ret
  exact ⟨by first | rfl | (simp;done) | (simp [*];done),by repeat (first | exact zq0.refl _ | apply zq0.step)⟩
def nz_isTable_1.f (a0_0 : Int) (aA : Int) (a0_2 : Int) : Option (Bool):=(nz_in.f a0_0 1 60).bind fun t1072=>(if t1072 = true then ((nz_in.f aA 1 60).bind fun t1073=>(if t1073 = true then ((nz_in.f a0_2 1 1000).bind fun t1074=>(some (!t1074))) else (some true))) else (some true))
theorem nz_isTable_1.calls (a0_0 : Int) (aA : Int) (a0_2 : Int) (r : Bool) (w : World) (h : nz_isTable_1.f a0_0 aA a0_2 = some r) :
 Calls Tryz.prog 137 #[.agg #[.int .i64 a0_0,.int .i64 aA,.int .i64 a0_2]] w fun e w'=>e = .returned (.bool r)∧Below w.heap.size w w':=by
 have hu126:=Tryz.underlying126
 have HB:=am (Below.refl w.heap.size w)
 have H : ((nz_in.f a0_0 1 60).bind fun t1072=>(if t1072 = true then ((nz_in.f aA 1 60).bind fun t1073=>(if t1073 = true then ((nz_in.f a0_2 1 1000).bind fun t1074=>(some (!t1074))) else (some true))) else (some true))) = some r:=h
 clear h
 replace H:=obm H
 obtain ⟨t1072,A20,H⟩:=H
 replace H : (if t1072 = true then ((nz_in.f aA 1 60).bind fun t1073=>(if t1073 = true then ((nz_in.f a0_2 1 1000).bind fun t1074=>(some (!t1074))) else (some true))) else (some true)) = some r:=H
 have A2:=am A20
 clear A20
 by_cases c3 : t1072 = true
 case neg =>
  replace c3:=Bool.eq_false_iff.mpr c3
  subst c3
  replace H : (some true) = some r:=by rw [if_neg (show ¬ (false = true) by decide)] at H;exact H
  obtain rfl:=Option.some.inj H
  go_enter Tryz.func137,Tryz.ntmps137
  go_wp2_with (first | ((refine zqm (N:=1) rfl ?_);refine zqk rfl (N:=1) rfl (cs:=#[.int .i64 a0_0,.int .i64 aA,.int .i64 a0_2]) (t:=126) ?hr ?_;(case hr=>go_simp;try rfl);intro gb1071 hg w11 hbox hb;have BK1071:=am (hbox);have GW1071:=am (zqr (HB.out) hg);have GE1071:=am (zqr (HB.out) hg);replace HB:=am (zqh (HB.out) hb);clear hb hbox hg;obtain ⟨hcz12_0,hcz12_1,hcz12_2⟩:=cO3 BK1071.out) | ((with_reducible refine zqq (f:=135) rfl ?_);refine zq8 (some 5) rfl rfl Tryz.func135 (by kernel_rfl) rfl #[.int .i64 a0_0,.int .i64 1,.int .i64 60] rfl (by (try simp only [List.map_toArray,List.map_cons,List.map_nil]);first | done | rfl | (simp only [List.length_drop,List.length_take];rfl)) ?_;(with_reducible refine (nz_in.calls a0_0 1 60 false _ A2.out).mono ?_);rintro e w' ⟨rfl,⟨nd,rfl⟩⟩;refine ⟨_,rfl,?_⟩))
  go_ret
  exact ⟨by first | rfl | (simp [*]<;>rfl),zqa HB.out _⟩
 subst c3
 replace H : ((nz_in.f aA 1 60).bind fun t1073=>(if t1073 = true then ((nz_in.f a0_2 1 1000).bind fun t1074=>(some (!t1074))) else (some true))) = some r:=by rw [if_pos rfl] at H;exact H
 replace H:=obm H
 obtain ⟨t1073,A40,H⟩:=H
 replace H : (if t1073 = true then ((nz_in.f a0_2 1 1000).bind fun t1074=>(some (!t1074))) else (some true)) = some r:=H
 have A4:=am A40
 clear A40
 by_cases c5 : t1073 = true
 case neg =>
  replace c5:=Bool.eq_false_iff.mpr c5
  subst c5
  replace H : (some true) = some r:=by rw [if_neg (show ¬ (false = true) by decide)] at H;exact H
  obtain rfl:=Option.some.inj H
  go_enter Tryz.func137,Tryz.ntmps137
  go_wp2_with (first | ((refine zqm (N:=1) rfl ?_);refine zqk rfl (N:=1) rfl (cs:=#[.int .i64 a0_0,.int .i64 aA,.int .i64 a0_2]) (t:=126) ?hr ?_;(case hr=>go_simp;try rfl);intro gb1071 hg w9 hbox hb;have BK1071:=am (hbox);have GW1071:=am (zqr (HB.out) hg);have GE1071:=am (zqr (HB.out) hg);replace HB:=am (zqh (HB.out) hb);clear hb hbox hg;obtain ⟨hcz10_0,hcz10_1,hcz10_2⟩:=cO3 BK1071.out) | ((with_reducible refine zqq (f:=135) rfl ?_);refine zq8 (some 5) rfl rfl Tryz.func135 (by kernel_rfl) rfl #[.int .i64 a0_0,.int .i64 1,.int .i64 60] rfl (by (try simp only [List.map_toArray,List.map_cons,List.map_nil]);first | done | rfl | (simp only [List.length_drop,List.length_take];rfl)) ?_;(with_reducible refine (nz_in.calls a0_0 1 60 true _ A2.out).mono ?_);rintro e w' ⟨rfl,⟨nd,rfl⟩⟩;refine ⟨_,rfl,?_⟩) | (go_at_call 135;(with_reducible refine (nz_in.calls aA 1 60 false _ A4.out).mono ?_);rintro e w' ⟨rfl,⟨nd,rfl⟩⟩))
  go_ret
  exact ⟨by first | rfl | (simp [*]<;>rfl),zqa HB.out _⟩
 subst c5
 replace H : ((nz_in.f a0_2 1 1000).bind fun t1074=>(some (!t1074))) = some r:=by rw [if_pos rfl] at H;exact H
 replace H:=obm H
 obtain ⟨t1074,A60,H⟩:=H
 replace H : (some (!t1074)) = some r:=H
 have A6:=am A60
 clear A60
 obtain rfl:=Option.some.inj H
 go_enter Tryz.func137,Tryz.ntmps137
 go_wp2_with (first | ((refine zqm (N:=1) rfl ?_);refine zqk rfl (N:=1) rfl (cs:=#[.int .i64 a0_0,.int .i64 aA,.int .i64 a0_2]) (t:=126) ?hr ?_;(case hr=>go_simp;try rfl);intro gb1071 hg w7 hbox hb;have BK1071:=am (hbox);have GW1071:=am (zqr (HB.out) hg);have GE1071:=am (zqr (HB.out) hg);replace HB:=am (zqh (HB.out) hb);clear hb hbox hg;obtain ⟨hcz8_0,hcz8_1,hcz8_2⟩:=cO3 BK1071.out) | ((with_reducible refine zqq (f:=135) rfl ?_);refine zq8 (some 5) rfl rfl Tryz.func135 (by kernel_rfl) rfl #[.int .i64 a0_0,.int .i64 1,.int .i64 60] rfl (by (try simp only [List.map_toArray,List.map_cons,List.map_nil]);first | done | rfl | (simp only [List.length_drop,List.length_take];rfl)) ?_;(with_reducible refine (nz_in.calls a0_0 1 60 true _ A2.out).mono ?_);rintro e w' ⟨rfl,⟨nd,rfl⟩⟩;refine ⟨_,rfl,?_⟩) | (go_at_call 135;(with_reducible refine (nz_in.calls aA 1 60 true _ A4.out).mono ?_);rintro e w' ⟨rfl,⟨nd,rfl⟩⟩) | (go_at_call 135;(with_reducible refine (nz_in.calls a0_2 1 1000 t1074 _ A6.out).mono ?_);rintro e w' ⟨rfl,⟨nd,rfl⟩⟩))
 go_ret
 exact ⟨by first | rfl | (simp [*]<;>rfl),zqa HB.out _⟩
end
def zbq (q : S126→Option Bool) (w : World) (xs : List S126) : Prop:=∀ (x : S126) (b : Bool) (W : World) ,x ∈ xs→q x = some b→Below w.heap.size w W→
 Calls Tryz.prog 137 #[.agg #[.int .i64 x.f0,.int .i64 x.f1,.int .i64 x.f2]] W fun e W'=>e = .returned (.bool b)∧Below W.heap.size W W'
theorem idx_isTable (q : S126→Option Bool) (A : Option Addr) (c : Nat) (xs : List S126) (r : Int) (w : World) (hr : Kd.C k126 w A xs.length xs) (hp : zbq q w xs) (h : idxM q xs 0 = some r) :
 Calls Tryz.prog 146 #[.slice A xs.length c,.func (.func 137) #[] #[]] w fun e w'=>e = .returned (.int .i64 r)∧Below w.heap.size w w':=by
 have huE:=Tryz.underlying126
 have HR:=am hr
 have HP:=am hp
 have HQ:=am (show idxM q (xs.drop (0 : Int).toNat) 0 = some r from h)
 have hm : xs.length≤9223372036854775807:=Kd.C_max hr
 clear hr hp h
 go_enter Tryz.func146,Tryz.ntmps146
 go_wp2
 go_loopw [5,8] (fun v5 v8 w'=>∃ i : Int,0≤i∧i≤xs.length∧v8 = .int .i64 i∧zqg (idxM q (xs.drop i.toNat) i = some r)∧zqg (Below w.heap.size w w')) (fun _ v8 _=>xs.length - (intOf v8).toNat)
 case atStart=>exact ⟨0,by omega,by omega,rfl,HQ,⟨Below.refl _ _⟩⟩
 case round =>
  clear HQ
  obtain ⟨i,p1,hi,rfl,HQ,HB⟩:=hrel
  by_cases hlt : i < (xs.length : Int)
  case neg =>
   go_wp2
   go_ret
   exact ⟨zwo (zbt (by omega) HQ.out),HB.out⟩
  obtain ⟨ad,e1,hx0,hx1,hx2⟩:=zk5 HR.out i p1 hlt
  cases e1
  replace hx0:=(HB.out.cell (wbl hx0)).trans hx0
  replace hx1:=(HB.out.cell (wbl hx1)).trans hx1
  replace hx2:=(HB.out.cell (wbl hx2)).trans hx2
  rcases zjm z126 p1 hlt HQ.out with ⟨hq,he⟩ | ⟨hq,hn⟩
  ·have H1:=am hq
   have X1:=am (zw6 z126 p1 hlt)
   have H2:=am he
   clear hq he
   go_wp2_with (go_at_call 137;refine (HP.out (xs.getD i.toNat z126) _ _ X1.out H1.out HB.out).mono ?_;rintro e W' ⟨rfl,hb⟩)
   go_ret
   exact ⟨zwo H2.out,zqu HB.out HB.out.size hb⟩
  ·have H1:=am hq
   have X1:=am (zw6 z126 p1 hlt)
   have H2:=am hn
   clear hq hn
   go_wp2_with (go_at_call 137;refine (HP.out (xs.getD i.toNat z126) _ _ X1.out H1.out HB.out).mono ?_;rintro e W' ⟨rfl,hb⟩)
   go_roundw
   case rel=>exact ⟨i + 1,by omega,by omega,by go_num,H2,⟨zqu HB.out HB.out.size hb⟩⟩
   case measure=>simp [intOf];omega
theorem any_isTable (q : S126→Option Bool) (A : Option Addr) (c : Nat) (xs : List S126) (r : Bool) (w : World) (hr : Kd.C k126 w A xs.length xs) (hp : zbq q w xs) (h : anyM q xs = some r) :
 Calls Tryz.prog 136 #[.slice A xs.length c,.func (.func 137) #[] #[]] w fun e w'=>e = .returned (.bool r)∧Below w.heap.size w w':=by
 obtain ⟨j,hj,hd⟩:=zvq q xs 0 r (by omega) h
 have H1:=am hj
 have H2:=am hd
 have HR:=am hr
 have HP:=am hp
 clear hr hp h hj hd
 go_enter Tryz.func136,Tryz.ntmps136
 go_wp2_with (go_at_call 146;refine (idx_isTable q _ _ xs j _ HR.out HP.out H1.out).mono ?_;rintro e W' ⟨rfl,hb⟩)
 go_ret
 exact ⟨zv0 H2.out,hb⟩
def cf_isTable.f (l0 : List S126) : Option Bool:=anyM (fun x=>nz_isTable_1.f x.f0 x.f1 x.f2) l0
theorem cf_isTable.calls (A0 : Option Addr) (c0 : Nat) (l0 : List S126) (r : Bool) (w : World) (hr0 : Kd.C k126 w A0 l0.length l0) (hc0 : l0.length≤c0) (h : cf_isTable.f l0 = some r) :
 Calls Tryz.prog 136 #[.slice A0 l0.length c0,.func (.func 137) #[] #[]] w fun e w'=>e = .returned (.bool r)∧Below w.heap.size w w':=
 any_isTable (fun x=>nz_isTable_1.f x.f0 x.f1 x.f2) A0 c0 l0 r w hr0 (fun x b W hx hq hb=>(nz_isTable_1.calls _ _ _ b W hq).mono fun e W' ⟨he,hd⟩=>⟨he,hd⟩) h
section
attribute [local go_sem] zwg zwf zwm zwl
def nz_isTable.f (lA : List (S126)) (aA : Int) : Option (Bool):=(nz_in.f (lA.length : Int) 1 12).bind fun t132=>(if t132 = true then ((nz_in.f aA 0 100).bind fun t133=>(if t133 = true then ((cf_isTable.f lA).bind fun t134=>(some (!t134))) else (some false))) else (some false))
theorem nz_isTable.calls (AX : Option Addr) (c0_0 : Nat) (lA : List (S126)) (aA : Int) (r : Bool) (w : World) (hra : Kd.C k126 w AX lA.length lA) (hc0_0 : lA.length≤c0_0) (h : nz_isTable.f lA aA = some r) :
 Calls Tryz.prog 127 #[.agg #[.slice AX lA.length c0_0,.int .i64 aA]] w fun e w'=>e = .returned (.bool r)∧Below w.heap.size w w':=by
 have hu24:=Tryz.underlying24
 have HRA:=am hra
 have HCA:=am hc0_0
 clear hra hc0_0
 have HB:=am (Below.refl w.heap.size w)
 have H : ((nz_in.f (lA.length : Int) 1 12).bind fun t132=>(if t132 = true then ((nz_in.f aA 0 100).bind fun t133=>(if t133 = true then ((cf_isTable.f lA).bind fun t134=>(some (!t134))) else (some false))) else (some false))) = some r:=h
 clear h
 replace H:=obm H
 obtain ⟨t132,A20,H⟩:=H
 replace H : (if t132 = true then ((nz_in.f aA 0 100).bind fun t133=>(if t133 = true then ((cf_isTable.f lA).bind fun t134=>(some (!t134))) else (some false))) else (some false)) = some r:=H
 have A2:=am A20
 clear A20
 by_cases c3 : t132 = true
 case neg =>
  replace c3:=Bool.eq_false_iff.mpr c3
  subst c3
  replace H : (some false) = some r:=by rw [if_neg (show ¬ (false = true) by decide)] at H;exact H
  obtain rfl:=Option.some.inj H
  go_enter Tryz.func127,Tryz.ntmps127
  go_wp2_with (first | ((refine zqm (N:=1) rfl ?_);refine zqk rfl (N:=1) rfl (cs:=#[.slice AX lA.length c0_0,.int .i64 aA]) (t:=24) ?hr ?_;(case hr=>go_simp;try rfl);intro gb131 hg w12 hbox hb;have BK131:=am (hbox);have GW131:=am (zqr (HB.out) hg);have GE131:=am (zqr (HB.out) hg);replace HB:=am (zqh (HB.out) hb);clear hb hbox hg;obtain ⟨hcz13_0,hcz13_1⟩:=cO2 BK131.out) | ((with_reducible refine zqq (f:=135) rfl ?_);refine zq8 (some 6) rfl rfl Tryz.func135 (by kernel_rfl) rfl #[.int .i64 (lA.length : Int),.int .i64 1,.int .i64 12] rfl (by (try simp only [List.map_toArray,List.map_cons,List.map_nil]);first | done | rfl | (simp only [List.length_drop,List.length_take];rfl)) ?_;(refine (nz_in.calls (lA.length : Int) 1 12 false _ A2.out).mono ?_);rintro e w' ⟨rfl,⟨nd,rfl⟩⟩;refine ⟨_,rfl,?_⟩))
  go_ret
  exact ⟨by first | rfl | (simp [*]<;>rfl),zqa HB.out _⟩
 subst c3
 replace H : ((nz_in.f aA 0 100).bind fun t133=>(if t133 = true then ((cf_isTable.f lA).bind fun t134=>(some (!t134))) else (some false))) = some r:=by rw [if_pos rfl] at H;exact H
 replace H:=obm H
 obtain ⟨t133,A40,H⟩:=H
 replace H : (if t133 = true then ((cf_isTable.f lA).bind fun t134=>(some (!t134))) else (some false)) = some r:=H
 have A4:=am A40
 clear A40
 by_cases c5 : t133 = true
 case neg =>
  replace c5:=Bool.eq_false_iff.mpr c5
  subst c5
  replace H : (some false) = some r:=by rw [if_neg (show ¬ (false = true) by decide)] at H;exact H
  obtain rfl:=Option.some.inj H
  go_enter Tryz.func127,Tryz.ntmps127
  go_wp2_with (first | ((refine zqm (N:=1) rfl ?_);refine zqk rfl (N:=1) rfl (cs:=#[.slice AX lA.length c0_0,.int .i64 aA]) (t:=24) ?hr ?_;(case hr=>go_simp;try rfl);intro gb131 hg w10 hbox hb;have BK131:=am (hbox);have GW131:=am (zqr (HB.out) hg);have GE131:=am (zqr (HB.out) hg);replace HB:=am (zqh (HB.out) hb);clear hb hbox hg;obtain ⟨hcz11_0,hcz11_1⟩:=cO2 BK131.out) | ((with_reducible refine zqq (f:=135) rfl ?_);refine zq8 (some 6) rfl rfl Tryz.func135 (by kernel_rfl) rfl #[.int .i64 (lA.length : Int),.int .i64 1,.int .i64 12] rfl (by (try simp only [List.map_toArray,List.map_cons,List.map_nil]);first | done | rfl | (simp only [List.length_drop,List.length_take];rfl)) ?_;(refine (nz_in.calls (lA.length : Int) 1 12 true _ A2.out).mono ?_);rintro e w' ⟨rfl,⟨nd,rfl⟩⟩;refine ⟨_,rfl,?_⟩) | (go_at_call 135;(refine (nz_in.calls aA 0 100 false _ A4.out).mono ?_);rintro e w' ⟨rfl,⟨nd,rfl⟩⟩))
  go_ret
  exact ⟨by first | rfl | (simp [*]<;>rfl),zqa HB.out _⟩
 subst c5
 replace H : ((cf_isTable.f lA).bind fun t134=>(some (!t134))) = some r:=by rw [if_pos rfl] at H;exact H
 replace H:=obm H
 obtain ⟨t134,A60,H⟩:=H
 replace H : (some (!t134)) = some r:=H
 have A6:=am A60
 clear A60
 obtain rfl:=Option.some.inj H
 go_enter Tryz.func127,Tryz.ntmps127
 go_wp2_with (first | ((refine zqm (N:=1) rfl ?_);refine zqk rfl (N:=1) rfl (cs:=#[.slice AX lA.length c0_0,.int .i64 aA]) (t:=24) ?hr ?_;(case hr=>go_simp;try rfl);intro gb131 hg w7 hbox hb;have BK131:=am (hbox);have GW131:=am (zqr (HB.out) hg);have GE131:=am (zqr (HB.out) hg);replace HB:=am (zqh (HB.out) hb);clear hb hbox hg;obtain ⟨hcz8_0,hcz8_1⟩:=cO2 BK131.out) | ((with_reducible refine zqq (f:=135) rfl ?_);refine zq8 (some 6) rfl rfl Tryz.func135 (by kernel_rfl) rfl #[.int .i64 (lA.length : Int),.int .i64 1,.int .i64 12] rfl (by (try simp only [List.map_toArray,List.map_cons,List.map_nil]);first | done | rfl | (simp only [List.length_drop,List.length_take];rfl)) ?_;(refine (nz_in.calls (lA.length : Int) 1 12 true _ A2.out).mono ?_);rintro e w' ⟨rfl,⟨nd,rfl⟩⟩;refine ⟨_,rfl,?_⟩) | (go_at_call 135;(refine (nz_in.calls aA 0 100 true _ A4.out).mono ?_);rintro e w' ⟨rfl,⟨nd,rfl⟩⟩) | (go_at_call 136;(refine (cf_isTable.calls _ _ lA  t134 _ ?side1 ?side2 A6.out).mono ?_);(case side1=>repeat (first | exact (kC HRA.out (zqa HB.out _)) | (with_reducible refine Kd.C_alloc ?_ _) | (with_reducible refine Kd.C_drewN ?_ _) | (with_reducible refine Kd.C_drew ?_)));(case side2=>exact HCA.out);rintro e w9 ⟨rfl,hb⟩;replace BK131:=(kmv hb BK131);replace HB:=am (zqh (zqa HB.out _) hb);(try clear hb);(try clear hb2);(try clear hk);(try clear hi)))
 go_ret
 exact ⟨by first | rfl | (simp [*]<;>rfl),HB.out⟩
def nz_sum.l0 : Nat→Int→List Int→Int→Int→Option (Int)
 | 0,_,_,_,_=>none
 | k + 1,x3,x6,x7,x8=>if x8 < x7 then (if 0≤x8 then (if x8 < (x6.length : Int) then (nz_sum.l0 k (wrap64 (x3 + (rd x6 x8))) x6 x7 (wrap64 (x8 + 1))) else (none)) else (none)) else (some x3)
def nz_sum.f (k : Nat) (l0 : List Int) : Option (Int):=nz_sum.l0 k 0 l0 (l0.length : Int) 0
theorem nz_sum.calls (k : Nat) (A0 : Option Addr) (c0 : Nat) (l0 : List Int) (r : Int) (w : World) (hr0 : Kd.C (Kd.int .i64) w A0 l0.length l0) (hc0 : l0.length≤c0) (h : nz_sum.f k l0 = some r) :
 Calls Tryz.prog 141 #[.slice A0 l0.length c0] w fun e w'=>e = .returned (.int .i64 r)∧zq0 w w':=by
 have HR0:=am hr0
 have HC0:=am hc0
 clear hr0 hc0
 have H : (nz_sum.l0 k 0 l0 (l0.length : Int) 0) = some r:=h
 clear h
 replace H':=am H
 go_enter Tryz.func141,Tryz.ntmps141
 go_wp2
 go_loopg [3,8] k (fun kq v3 v8 w'=>∃ (x3_1 : Int) (x8_1 : Int),v3 = .int .i64 x3_1∧v8 = .int .i64 x8_1∧zqg (nz_sum.l0 kq x3_1 l0 (l0.length : Int) x8_1 = some r)∧zqg (kq≤k)∧zq0 w w')
 case atStart=>exact ⟨(0),(0),(by first | rfl | (simp;done) | (simp [*];done)),(by first | rfl | (simp;done) | (simp [*];done)),H',⟨Nat.le_refl _⟩,by repeat (first | exact zq0.refl _ | apply zq0.step)⟩
 case round =>
  clear H'
  obtain ⟨x3_1,x8_1,rfl,rfl,HA,HK1,⟨m1,rfl⟩⟩:=hrel
  cases gk with
  | zero=>exact absurd HA.out (by simp [nz_sum.l0])
  | succ k1 =>
   have H:=HA.out
   clear HA
   simp only [nz_sum.l0] at H
   by_cases c2 : x8_1 < (l0.length : Int)
   case neg =>
    rw [if_neg c2] at H
    have c2b0 : decide (x8_1 < (l0.length : Int)) = false:=decide_eq_false c2
    clear c2
    obtain rfl:=Option.some.inj H
    go_wp2
    go_ret
    exact ⟨by first | rfl | (simp;done) | (simp [*];done),by repeat (first | exact zq0.refl _ | apply zq0.step)⟩
   rw [if_pos c2] at H
   have c2b0 : decide (x8_1 < (l0.length : Int)) = true:=decide_eq_true c2
   clear c2
   by_cases c3 : 0≤x8_1
   case neg =>
    rw [if_neg c3] at H
    exact absurd H (by simp)
   rw [if_pos c3] at H
   have c3b0 : decide (0≤x8_1) = true:=decide_eq_true c3
   clear c3
   by_cases c4 : x8_1 < (l0.length : Int)
   case neg =>
    rw [if_neg c4] at H
    exact absurd H (by simp)
   rw [if_pos c4] at H
   have c4b0 : decide (x8_1 < (l0.length : Int)) = true:=decide_eq_true c4
   clear c4
   replace H':=am H
   have p143 : 0≤(x8_1 : Int):=of_decide_eq_true (by assumption)
   have q143 : x8_1 < (l0.length : Int):=of_decide_eq_true (by assumption)
   obtain ⟨ad143,e143,hx143_0⟩:=Kd.at_int HR0.out x8_1 p143 q143
   cases e143
   replace p143:=eq_true p143
   replace q143:=eq_true q143
   go_wp2
   go_roundg k1
   case measure=>have:=HK1.out;omega
   case rel=>exact ⟨(wrap64 (x3_1 + (rd l0 x8_1))),(wrap64 (x8_1 + 1)),(by first | rfl | (simp;done) | (simp [*];done)),(by first | rfl | (simp;done) | (simp [*];done)),H',⟨by have:=HK1.out;omega⟩,by repeat (first | exact zq0.refl _ | apply zq0.step)⟩
def nz_gives.l0 : Nat→List Int→List Int→Int→Int→List (S126)→Int→Option (Int)
 | 0,_,_,_,_,_,_=>none
 | k + 1,x5,x8,x9,x10,x145000,x145001=>if x10 < x9 then (if 0≤x10 then (if x10 < (x8.length : Int) then (if 0≤(rd x8 x10) then (if (rd x8 x10) < (x145000.length : Int) then (if x5.length < 17592186044416 then (nz_gives.l0 k (x5 ++ [(zq2 x145000 (rd x8 x10)).f2]) x8 x9 (wrap64 (x10 + 1)) x145000 x145001) else (none)) else (none)) else (none)) else (none)) else (none)) else ((nz_sum.f k x5).bind fun t150=>(some t150))
def nz_gives.f (k : Nat) (lA : List (S126)) (aA : Int) (l1 : List Int) : Option (Int):=nz_gives.l0 k ([] : List Int) l1 (l1.length : Int) 0 lA aA
theorem nz_gives.calls (k : Nat) (AX : Option Addr) (c0_0 : Nat) (lA : List (S126)) (aA : Int) (A1 : Option Addr) (c1 : Nat) (l1 : List Int) (r : Int) (w : World) (hra : Kd.C k126 w AX lA.length lA) (hc0_0 : lA.length≤c0_0) (hr1 : Kd.C (Kd.int .i64) w A1 l1.length l1) (hc1 : l1.length≤c1) (h : nz_gives.f k lA aA l1 = some r) :
 Calls Tryz.prog 130 #[.agg #[.slice AX lA.length c0_0,.int .i64 aA],.slice A1 l1.length c1] w fun e w'=>e = .returned (.int .i64 r)∧Below w.heap.size w w':=by
 have hu24:=Tryz.underlying24
 have HRA:=am hra
 have HCA:=am hc0_0
 clear hra hc0_0
 have HR1:=am hr1
 have HC1:=am hc1
 clear hr1 hc1
 have HB:=am (Below.refl w.heap.size w)
 have H : (nz_gives.l0 k ([] : List Int) l1 (l1.length : Int) 0 lA aA) = some r:=h
 clear h
 replace H':=am H
 go_enter Tryz.func130,Tryz.ntmps130
 go_wp2_with (first | ((refine zqm (N:=2) rfl ?_);refine zqk rfl (N:=2) rfl (cs:=#[.slice AX lA.length c0_0,.int .i64 aA]) (t:=24) ?hr ?_;(case hr=>go_simp;try rfl);intro gb144 hg w3 hbox hb;have BK144:=am (hbox);have GW144:=am (zqr (HB.out) hg);have GE144:=am (zqr (HB.out) hg);replace HB:=am (zqh (HB.out) hb);clear hb hbox hg))
 go_loopg [5,10] k (fun kq v5 v10 w'=>∃ (x5_1 : List Int) (x10_1 : Int),v10 = .int .i64 x10_1∧zqg (nz_gives.l0 kq x5_1 l1 (l1.length : Int) x10_1 lA aA = some r)∧zqg (kq≤k)∧zqg (Kd.R (Kd.int .i64) 3 w' w.heap.size (fun _=>True) v5 x5_1)∧zqg (w'.heap[gb144]? = some (.cells #[(.slice AX lA.length c0_0),.int .i64 aA] 24 (0,0)))∧zqg (Below w.heap.size w w'))
 case atStart=>exact ⟨(([] : List Int)),(0),(by first | rfl | (simp;done) | (simp [*];done)),H',⟨Nat.le_refl _⟩,⟨by first | exact Kd.R_nil _ _ _ _ _ | exact Kd.N_nil _ _ _ _ _ | exact Kd.V_nil _ _ _ _ _ | exact Kd.Q_nil _ _ _ _ _ | exact Kd.S_nil _ _ _ _ _⟩,⟨BK144.out⟩,⟨HB.out⟩⟩
 case round =>
  clear H'
  obtain ⟨x5_1,x10_1,rfl,HA,HK1,HO_5,BK144,HB⟩:=hrel
  cases gk with
  | zero=>exact absurd HA.out (by simp [nz_gives.l0])
  | succ k1 =>
   have H:=HA.out
   clear HA
   simp only [nz_gives.l0] at H
   by_cases c4 : x10_1 < (l1.length : Int)
   case neg =>
    rw [if_neg c4] at H
    have c4b0 : decide (x10_1 < (l1.length : Int)) = false:=decide_eq_false c4
    clear c4
    replace H:=obm H
    obtain ⟨t150,A120,H⟩:=H
    replace H : (some t150) = some r:=H
    have A12:=am A120
    clear A120
    obtain rfl:=Option.some.inj H
    obtain ⟨Ao13,co13,eo13⟩:=Kd.R_slice HO_5.out
    subst eo13
    go_wp2_with (first | ((with_reducible refine zqq (f:=141) rfl ?_);refine zq8 (some 25) rfl rfl Tryz.func141 (by kernel_rfl) rfl #[.slice Ao13 x5_1.length co13] rfl (by (try simp only [List.map_toArray,List.map_cons,List.map_nil]);first | done | rfl | (simp only [List.length_drop,List.length_take];rfl)) ?_;(refine (nz_sum.calls k1 _ _ x5_1 t150 _ ?side1 ?side2 A12.out).mono ?_);(case side1=>repeat (first | exact (Kd.R_reads' HO_5.out).2.2 | (with_reducible refine Kd.C_alloc ?_ _) | (with_reducible refine Kd.C_drewN ?_ _) | (with_reducible refine Kd.C_drew ?_)));(case side2=>exact (Kd.R_reads' HO_5.out).2.1);rintro e w' ⟨rfl,⟨nd,rfl⟩⟩;refine ⟨_,rfl,?_⟩))
    go_ret
    exact ⟨by first | rfl | (simp [*]<;>rfl),zqa HB.out _⟩
   rw [if_pos c4] at H
   have c4b0 : decide (x10_1 < (l1.length : Int)) = true:=decide_eq_true c4
   clear c4
   by_cases c5 : 0≤x10_1
   case neg =>
    rw [if_neg c5] at H
    exact absurd H (by simp)
   rw [if_pos c5] at H
   have c5b0 : decide (0≤x10_1) = true:=decide_eq_true c5
   clear c5
   by_cases c6 : x10_1 < (l1.length : Int)
   case neg =>
    rw [if_neg c6] at H
    exact absurd H (by simp)
   rw [if_pos c6] at H
   have c6b0 : decide (x10_1 < (l1.length : Int)) = true:=decide_eq_true c6
   clear c6
   by_cases c7 : 0≤(rd l1 x10_1)
   case neg =>
    rw [if_neg c7] at H
    exact absurd H (by simp)
   rw [if_pos c7] at H
   have c7b0 : decide (0≤(rd l1 x10_1)) = true:=decide_eq_true c7
   clear c7
   by_cases c8 : (rd l1 x10_1) < (lA.length : Int)
   case neg =>
    rw [if_neg c8] at H
    exact absurd H (by simp)
   rw [if_pos c8] at H
   have c8b0 : decide ((rd l1 x10_1) < (lA.length : Int)) = true:=decide_eq_true c8
   clear c8
   by_cases c9 : x5_1.length < 17592186044416
   case neg =>
    rw [if_neg c9] at H
    exact absurd H (by simp)
   rw [if_pos c9] at H
   have LMc9:=am c9
   clear c9
   obtain ⟨y147,hy147⟩ : ∃ y_ : List Int,y_ = (x5_1 ++ [(zq2 lA (rd l1 x10_1)).f2]):=⟨_,rfl⟩
   replace H : (nz_gives.l0 k1 y147 l1 (l1.length : Int) (wrap64 (x10_1 + 1)) lA aA) = some r:=by first | (rw [hy147];with_reducible exact H) | (have H2_:=(Option.bind_some _ _).symm.trans H;rw [hy147];with_reducible exact H2_) | (have H2_:=(Option.bind_some _ _).symm.trans H;with_reducible exact H2_) | with_reducible exact H | (rw [hy147];exact H) | exact H
   have Ny147:=am hy147
   clear hy147
   replace H':=am H
   have p145 : 0≤(x10_1 : Int):=of_decide_eq_true (by assumption)
   have q145 : x10_1 < (l1.length : Int):=of_decide_eq_true (by assumption)
   obtain ⟨ad145,e145,hx145_0⟩:=Kd.at_int HR1.out x10_1 p145 q145
   cases e145
   replace hx145_0:=(HB.out.cell (wbl hx145_0)).trans hx145_0
   replace p145:=eq_true p145
   replace q145:=eq_true q145
   obtain ⟨hcz10_0,hcz10_1⟩:=cO2 BK144.out
   have p146 : 0≤((rd l1 x10_1) : Int):=of_decide_eq_true (by assumption)
   have q146 : (rd l1 x10_1) < (lA.length : Int):=of_decide_eq_true (by assumption)
   obtain ⟨ad146,e146,hx146_0,hx146_1,hx146_2⟩:=zk5 HRA.out (rd l1 x10_1) p146 q146
   cases e146
   replace hx146_0:=(HB.out.cell (wbl hx146_0)).trans hx146_0
   replace hx146_1:=(HB.out.cell (wbl hx146_1)).trans hx146_1
   replace hx146_2:=(HB.out.cell (wbl hx146_2)).trans hx146_2
   replace p146:=eq_true p146
   replace q146:=eq_true q146
   go_wp2_with (first | ((with_reducible refine zqy (b:=.append) (xs:=#[.tmp 14,.tmp 21]) rfl ?_);at_builtin;refine Kd.R_append (Kd.int .i64) (w0:=w) w.heap.size rfl (.tmp 14) (.tmp 21) 28 3 (.int .i64 0) 8 rfl Tryz.underlying28 info3 rfl (by decide) (by omega) u5 x5_1 ((zq2 lA (rd l1 x10_1)).f2) [.int .i64 ((zq2 lA (rd l1 x10_1)).f2)] (fun _=>True) (fun _=>False) rfl rfl ?aP (fun _ hk=>hk.elim) ?aF ?aO ?aB ?aS ?aL ?_;(case aP=>exact rfl);(case aB=>exact (HB.out));(case aF=>exact (fun _ _=>trivial));(case aO=>exact HO_5.out);(case aS=>exact (zqv (HB.out)));(case aL=>have:=LMc9.out;omega);intro v148 w11 ho hb hg hat;rw [← Ny147.out] at ho;have n0_:=am (zqx (g:=gb144) (o:=.cells #[.slice (some ad146) lA.length c0_0,.int .i64 aA] 24 (0,0)) BK144.out hg (Kd.R_ne HO_5.out BK144.out (by decide)));have n1_:=am (hb);have n2_:=am (ho);clear BK144;clear HB;clear HO_5;have BK144:=n0_;have HB:=n1_;have HO149:=n2_;clear n0_ n1_ n2_;clear ho hb hg hat))
   go_roundg k1
   case measure=>have:=HK1.out;omega
   case rel=>exact ⟨(y147),(wrap64 (x10_1 + 1)),(by first | rfl | (simp;done) | (simp [*];done)),H',⟨by have:=HK1.out;omega⟩,⟨by (with_reducible repeat (first | apply Kd.R_alloc | apply Kd.R_drewN | apply Kd.R_drew));exact HO149.out⟩,⟨BK144.out⟩,⟨HB.out⟩⟩
end
def zbg (g : Nat) (q : Int→Option Bool) (w : World) (xs : List Int) : Prop:=∀ (x : Int) (b : Bool) (W : World) ,x ∈ xs→q x = some b→Below w.heap.size w W→
 Calls Tryz.prog 139 #[.int .i64 x,.pointer (some ⟨g,0,none⟩)] W fun e W'=>e = .returned (.bool b)∧Below W.heap.size W W'
theorem idx_isSet (g : Nat) (q : Int→Option Bool) (A : Option Addr) (c : Nat) (xs : List Int) (r : Int) (w : World) (hr : Kd.C (Kd.int .i64) w A xs.length xs) (hp : zbg g q w xs) (h : idxM q xs 0 = some r) :
 Calls Tryz.prog 105 #[.slice A xs.length c,.func (.func 139) #[] #[.pointer (some ⟨g,0,none⟩)]] w fun e w'=>e = .returned (.int .i64 r)∧Below w.heap.size w w':=by
 have HR:=am hr
 have HP:=am hp
 have HQ:=am (show idxM q (xs.drop (0 : Int).toNat) 0 = some r from h)
 have hm : xs.length≤9223372036854775807:=Kd.C_max hr
 clear hr hp h
 go_enter Tryz.func105,Tryz.ntmps105
 go_wp2
 go_loopw [5,8] (fun v5 v8 w'=>∃ i : Int,0≤i∧i≤xs.length∧v8 = .int .i64 i∧zqg (idxM q (xs.drop i.toNat) i = some r)∧zqg (Below w.heap.size w w')) (fun _ v8 _=>xs.length - (intOf v8).toNat)
 case atStart=>exact ⟨0,by omega,by omega,rfl,HQ,⟨Below.refl _ _⟩⟩
 case round =>
  clear HQ
  obtain ⟨i,p1,hi,rfl,HQ,HB⟩:=hrel
  by_cases hlt : i < (xs.length : Int)
  case neg =>
   go_wp2
   go_ret
   exact ⟨zwo (zbt (by omega) HQ.out),HB.out⟩
  obtain ⟨ad,e1,hx0⟩:=Kd.at_int HR.out i p1 hlt
  cases e1
  replace hx0:=(HB.out.cell (wbl hx0)).trans hx0
  rcases zjm (0 : Int) p1 hlt HQ.out with ⟨hq,he⟩ | ⟨hq,hn⟩
  ·have H1:=am hq
   have X1:=am (zw6 (0 : Int) p1 hlt)
   have H2:=am he
   clear hq he
   go_wp2_with (go_at_call 139;refine (HP.out (xs.getD i.toNat (0 : Int)) _ _ X1.out H1.out HB.out).mono ?_;rintro e W' ⟨rfl,hb⟩)
   go_ret
   exact ⟨zwo H2.out,zqu HB.out HB.out.size hb⟩
  ·have H1:=am hq
   have X1:=am (zw6 (0 : Int) p1 hlt)
   have H2:=am hn
   clear hq hn
   go_wp2_with (go_at_call 139;refine (HP.out (xs.getD i.toNat (0 : Int)) _ _ X1.out H1.out HB.out).mono ?_;rintro e W' ⟨rfl,hb⟩)
   go_roundw
   case rel=>exact ⟨i + 1,by omega,by omega,by go_num,H2,⟨zqu HB.out HB.out.size hb⟩⟩
   case measure=>simp [intOf];omega
theorem any_isSet (g : Nat) (q : Int→Option Bool) (A : Option Addr) (c : Nat) (xs : List Int) (r : Bool) (w : World) (hr : Kd.C (Kd.int .i64) w A xs.length xs) (hp : zbg g q w xs) (h : anyM q xs = some r) :
 Calls Tryz.prog 65 #[.slice A xs.length c,.func (.func 139) #[] #[.pointer (some ⟨g,0,none⟩)]] w fun e w'=>e = .returned (.bool r)∧Below w.heap.size w w':=by
 obtain ⟨j,hj,hd⟩:=zvq q xs 0 r (by omega) h
 have H1:=am hj
 have H2:=am hd
 have HR:=am hr
 have HP:=am hp
 clear hr hp h hj hd
 go_enter Tryz.func65,Tryz.ntmps65
 go_wp2_with (go_at_call 105;refine (idx_isSet g q _ _ xs j _ HR.out HP.out H1.out).mono ?_;rintro e W' ⟨rfl,hb⟩)
 go_ret
 exact ⟨zv0 H2.out,hb⟩
section
attribute [local go_sem] zwg zwf zwm zwl
def cmp_isNaN_int.f (a0 : Int) : Option (Bool):=some (a0 != a0)
theorem cmp_isNaN_int.calls (a0 : Int) (r : Bool) (w : World) (h : cmp_isNaN_int.f a0 = some r) :
 Calls Tryz.prog 156 #[.int .i64 a0] w fun e w'=>e = .returned (.bool r)∧zq0 w w':=by
 have H : (some (a0 != a0)) = some r:=h
 clear h
 obtain rfl:=Option.some.inj H
 go_enter Tryz.func156,Tryz.ntmps156
 go_wp2
 go_ret
 exact ⟨by first | rfl | (simp;done) | (simp [*];done),by repeat (first | exact zq0.refl _ | apply zq0.step)⟩
def cmp_Less_int.f (a0 : Int) (a1 : Int) : Option (Bool):=(cmp_isNaN_int.f a0).bind fun t138=>(if t138 = true then ((cmp_isNaN_int.f a1).bind fun t139=>(if t139 = true then (some (decide (a0 < a1))) else (some true))) else (some (decide (a0 < a1))))
theorem cmp_Less_int.calls (a0 : Int) (a1 : Int) (r : Bool) (w : World) (h : cmp_Less_int.f a0 a1 = some r) :
 Calls Tryz.prog 147 #[.int .i64 a0,.int .i64 a1] w fun e w'=>e = .returned (.bool r)∧zq0 w w':=by
 have H : ((cmp_isNaN_int.f a0).bind fun t138=>(if t138 = true then ((cmp_isNaN_int.f a1).bind fun t139=>(if t139 = true then (some (decide (a0 < a1))) else (some true))) else (some (decide (a0 < a1))))) = some r:=h
 clear h
 replace H:=obm H
 obtain ⟨t138,A30,H⟩:=H
 replace H : (if t138 = true then ((cmp_isNaN_int.f a1).bind fun t139=>(if t139 = true then (some (decide (a0 < a1))) else (some true))) else (some (decide (a0 < a1)))) = some r:=H
 have A3:=am A30
 clear A30
 by_cases c4 : t138 = true
 case neg =>
  replace c4:=Bool.eq_false_iff.mpr c4
  subst c4
  replace H : (some (decide (a0 < a1))) = some r:=by rw [if_neg (show ¬ (false = true) by decide)] at H;exact H
  obtain rfl:=Option.some.inj H
  go_enter Tryz.func147,Tryz.ntmps147
  go_wp2_with (first | ((with_reducible refine zqq (f:=156) rfl ?_);refine zq8 (some 6) rfl rfl Tryz.func156 (by kernel_rfl) rfl #[.int .i64 a0] rfl (by (try simp only [List.map_toArray,List.map_cons,List.map_nil]);first | done | rfl | (simp only [List.length_drop,List.length_take];rfl)) ?_;(refine (cmp_isNaN_int.calls a0 false _ A3.out).mono ?_);rintro e w' ⟨rfl,⟨nd,rfl⟩⟩;refine ⟨_,rfl,?_⟩))
  go_ret
  exact ⟨by first | rfl | (simp;done) | (simp [*];done),by repeat (first | exact zq0.refl _ | apply zq0.step)⟩
 subst c4
 replace H : ((cmp_isNaN_int.f a1).bind fun t139=>(if t139 = true then (some (decide (a0 < a1))) else (some true))) = some r:=by rw [if_pos rfl] at H;exact H
 replace H:=obm H
 obtain ⟨t139,A50,H⟩:=H
 replace H : (if t139 = true then (some (decide (a0 < a1))) else (some true)) = some r:=H
 have A5:=am A50
 clear A50
 by_cases c6 : t139 = true
 ·subst c6
  replace H : (some (decide (a0 < a1))) = some r:=by rw [if_pos rfl] at H;exact H
  obtain rfl:=Option.some.inj H
  go_enter Tryz.func147,Tryz.ntmps147
  go_wp2_with (first | ((with_reducible refine zqq (f:=156) rfl ?_);refine zq8 (some 6) rfl rfl Tryz.func156 (by kernel_rfl) rfl #[.int .i64 a0] rfl (by (try simp only [List.map_toArray,List.map_cons,List.map_nil]);first | done | rfl | (simp only [List.length_drop,List.length_take];rfl)) ?_;(refine (cmp_isNaN_int.calls a0 true _ A3.out).mono ?_);rintro e w' ⟨rfl,⟨nd,rfl⟩⟩;refine ⟨_,rfl,?_⟩) | (go_at_call 156;(refine (cmp_isNaN_int.calls a1 true _ A5.out).mono ?_);rintro e w' ⟨rfl,⟨nd,rfl⟩⟩))
  go_ret
  exact ⟨by first | rfl | (simp;done) | (simp [*];done),by repeat (first | exact zq0.refl _ | apply zq0.step)⟩
 ·replace c6:=Bool.eq_false_iff.mpr c6
  subst c6
  replace H : (some true) = some r:=by rw [if_neg (show ¬ (false = true) by decide)] at H;exact H
  obtain rfl:=Option.some.inj H
  go_enter Tryz.func147,Tryz.ntmps147
  go_wp2_with (first | ((with_reducible refine zqq (f:=156) rfl ?_);refine zq8 (some 6) rfl rfl Tryz.func156 (by kernel_rfl) rfl #[.int .i64 a0] rfl (by (try simp only [List.map_toArray,List.map_cons,List.map_nil]);first | done | rfl | (simp only [List.length_drop,List.length_take];rfl)) ?_;(refine (cmp_isNaN_int.calls a0 true _ A3.out).mono ?_);rintro e w' ⟨rfl,⟨nd,rfl⟩⟩;refine ⟨_,rfl,?_⟩) | (go_at_call 156;(refine (cmp_isNaN_int.calls a1 false _ A5.out).mono ?_);rintro e w' ⟨rfl,⟨nd,rfl⟩⟩))
  go_ret
  exact ⟨by first | rfl | (simp;done) | (simp [*];done),by repeat (first | exact zq0.refl _ | apply zq0.step)⟩
def sl_IsSorted_int_int.l0 : Nat→List Int→Int→Option (Bool)
 | 0,_,_=>none
 | k + 1,x0,x3=>if x3 > 0 then (if 0≤x3 then (if x3 < (x0.length : Int) then (if 0≤(wrap64 (x3 - 1)) then (if (wrap64 (x3 - 1)) < (x0.length : Int) then ((cmp_Less_int.f (rd x0 x3) (rd x0 (wrap64 (x3 - 1)))).bind fun t142=>(if t142 = true then (some false) else (sl_IsSorted_int_int.l0 k x0 (wrap64 (x3 - 1))))) else (none)) else (none)) else (none)) else (none)) else (some true)
def sl_IsSorted_int_int.f (k : Nat) (l0 : List Int) : Option (Bool):=sl_IsSorted_int_int.l0 k l0 (wrap64 ((l0.length : Int) - 1))
theorem sl_IsSorted_int_int.calls (k : Nat) (A0 : Option Addr) (c0 : Nat) (l0 : List Int) (r : Bool) (w : World) (hr0 : Kd.C (Kd.int .i64) w A0 l0.length l0) (hc0 : l0.length≤c0) (h : sl_IsSorted_int_int.f k l0 = some r) :
 Calls Tryz.prog 138 #[.slice A0 l0.length c0] w fun e w'=>e = .returned (.bool r)∧zq0 w w':=by
 have HR0:=am hr0
 have HC0:=am hc0
 clear hr0 hc0
 have H : (sl_IsSorted_int_int.l0 k l0 (wrap64 ((l0.length : Int) - 1))) = some r:=h
 clear h
 replace H':=am H
 go_enter Tryz.func138,Tryz.ntmps138
 go_wp2
 repeat (go_quiet (fail);try go_wp2)
 go_loopg [3] k (fun kq v3 w'=>∃ (x3_1 : Int),v3 = .int .i64 x3_1∧zqg (sl_IsSorted_int_int.l0 kq l0 x3_1 = some r)∧zqg (kq≤k)∧zq0 w w')
 case atStart=>exact ⟨(wrap64 ((l0.length : Int) - 1)),(by first | rfl | (simp;done) | (simp [*];done)),H',⟨Nat.le_refl _⟩,by repeat (first | exact zq0.refl _ | apply zq0.step)⟩
 case round =>
  clear H'
  obtain ⟨x3_1,rfl,HA,HK1,⟨m1,rfl⟩⟩:=hrel
  cases gk with
  | zero=>exact absurd HA.out (by simp [sl_IsSorted_int_int.l0])
  | succ k1 =>
   have H:=HA.out
   clear HA
   simp only [sl_IsSorted_int_int.l0] at H
   by_cases c2 : x3_1 > 0
   case neg =>
    rw [if_neg c2] at H
    have c2b0 : decide (0 < x3_1) = false:=decide_eq_false c2
    clear c2
    obtain rfl:=Option.some.inj H
    go_wp2
    repeat (go_quiet (fail);try go_wp2)
    go_ret
    exact ⟨by first | rfl | (simp;done) | (simp [*];done),by repeat (first | exact zq0.refl _ | apply zq0.step)⟩
   rw [if_pos c2] at H
   have c2b0 : decide (0 < x3_1) = true:=decide_eq_true c2
   clear c2
   by_cases c3 : 0≤x3_1
   case neg =>
    rw [if_neg c3] at H
    exact absurd H (by simp)
   rw [if_pos c3] at H
   have c3b0 : decide (0≤x3_1) = true:=decide_eq_true c3
   clear c3
   by_cases c4 : x3_1 < (l0.length : Int)
   case neg =>
    rw [if_neg c4] at H
    exact absurd H (by simp)
   rw [if_pos c4] at H
   have c4b0 : decide (x3_1 < (l0.length : Int)) = true:=decide_eq_true c4
   clear c4
   obtain ⟨ji5,hji5⟩ : ∃ j_ : Int,(wrap64 (x3_1 - 1)) = j_:=⟨_,rfl⟩
   replace H : (if 0≤(ji5) then (if (ji5) < (l0.length : Int) then ((cmp_Less_int.f (rd l0 x3_1) (rd l0 (ji5))).bind fun t142=>(if t142 = true then (some false) else (sl_IsSorted_int_int.l0 k1 l0 ji5))) else (none)) else (none)) = some r:=by first | (rw [hji5] at H;exact H) | (simp only [hji5] at H ⊢;exact H)
   have hji5w : (IntKind.i64.wrap (x3_1 - 1)) = ji5:=(i64_w _).trans hji5
   by_cases c6 : 0≤(ji5)
   case neg =>
    rw [if_neg c6] at H
    exact absurd H (by simp)
   rw [if_pos c6] at H
   have c6b0 : decide (0≤(ji5)) = true:=decide_eq_true c6
   clear c6
   by_cases c7 : (ji5) < (l0.length : Int)
   case neg =>
    rw [if_neg c7] at H
    exact absurd H (by simp)
   rw [if_pos c7] at H
   have c7b0 : decide ((ji5) < (l0.length : Int)) = true:=decide_eq_true c7
   clear c7
   replace H:=obm H
   obtain ⟨t142,A80,H⟩:=H
   replace H : (if t142 = true then (some false) else (sl_IsSorted_int_int.l0 k1 l0 ji5)) = some r:=H
   have A8:=am A80
   clear A80
   by_cases c9 : t142 = true
   ·subst c9
    replace H : (some false) = some r:=by rw [if_pos rfl] at H;exact H
    obtain rfl:=Option.some.inj H
    have p140 : 0≤(x3_1 : Int):=of_decide_eq_true (by assumption)
    have q140 : x3_1 < (l0.length : Int):=of_decide_eq_true (by assumption)
    obtain ⟨ad140,e140,hx140_0⟩:=Kd.at_int HR0.out x3_1 p140 q140
    cases e140
    replace p140:=eq_true p140
    replace q140:=eq_true q140
    have p141 : 0≤((ji5) : Int):=of_decide_eq_true (by assumption)
    have q141 : (ji5) < (l0.length : Int):=of_decide_eq_true (by assumption)
    obtain ⟨ad141,e141,hx141_0⟩:=Kd.at_int HR0.out (ji5) p141 q141
    obtain rfl : ad140 = ad141:=(by injection e141)
    replace p141:=eq_true p141
    replace q141:=eq_true q141
    go_wp2_with (first | (go_at_call 147;(with_reducible refine (cmp_Less_int.calls (rd l0 x3_1) (rd l0 (ji5)) true _ A8.out).mono ?_);rintro e w' ⟨rfl,⟨nd,rfl⟩⟩;(try first | exact ⟨rfl,_,World.drewN_drewN _ _ _⟩ | exact ⟨rfl,_,Eq.trans (World.drewN_drewN _ _ _) (congrArg (World.drewN _) (Nat.add_assoc _ _ _))⟩)))
    repeat (go_quiet (first | (go_at_call 147;(with_reducible refine (cmp_Less_int.calls (rd l0 x3_1) (rd l0 (ji5)) true _ A8.out).mono ?_);rintro e w' ⟨rfl,⟨nd,rfl⟩⟩;(try first | exact ⟨rfl,_,World.drewN_drewN _ _ _⟩ | exact ⟨rfl,_,Eq.trans (World.drewN_drewN _ _ _) (congrArg (World.drewN _) (Nat.add_assoc _ _ _))⟩)));try go_wp2_with (first | (go_at_call 147;(with_reducible refine (cmp_Less_int.calls (rd l0 x3_1) (rd l0 (ji5)) true _ A8.out).mono ?_);rintro e w' ⟨rfl,⟨nd,rfl⟩⟩;(try first | exact ⟨rfl,_,World.drewN_drewN _ _ _⟩ | exact ⟨rfl,_,Eq.trans (World.drewN_drewN _ _ _) (congrArg (World.drewN _) (Nat.add_assoc _ _ _))⟩))))
    go_ret
    exact ⟨by first | rfl | (simp;done) | (simp only [← hji5]<;>(first | rfl | simp)) | (simp [*];done),by repeat (first | exact zq0.refl _ | apply zq0.step)⟩
   ·replace c9:=Bool.eq_false_iff.mpr c9
    subst c9
    replace H : (sl_IsSorted_int_int.l0 k1 l0 ji5) = some r:=by rw [if_neg (show ¬ (false = true) by decide)] at H;exact H
    replace H':=am H
    have p140 : 0≤(x3_1 : Int):=of_decide_eq_true (by assumption)
    have q140 : x3_1 < (l0.length : Int):=of_decide_eq_true (by assumption)
    obtain ⟨ad140,e140,hx140_0⟩:=Kd.at_int HR0.out x3_1 p140 q140
    cases e140
    replace p140:=eq_true p140
    replace q140:=eq_true q140
    have p141 : 0≤((ji5) : Int):=of_decide_eq_true (by assumption)
    have q141 : (ji5) < (l0.length : Int):=of_decide_eq_true (by assumption)
    obtain ⟨ad141,e141,hx141_0⟩:=Kd.at_int HR0.out (ji5) p141 q141
    obtain rfl : ad140 = ad141:=(by injection e141)
    replace p141:=eq_true p141
    replace q141:=eq_true q141
    go_wp2_with (first | (go_at_call 147;(with_reducible refine (cmp_Less_int.calls (rd l0 x3_1) (rd l0 (ji5)) false _ A8.out).mono ?_);rintro e w' ⟨rfl,⟨nd,rfl⟩⟩;(try first | exact ⟨rfl,_,World.drewN_drewN _ _ _⟩ | exact ⟨rfl,_,Eq.trans (World.drewN_drewN _ _ _) (congrArg (World.drewN _) (Nat.add_assoc _ _ _))⟩)))
    repeat (go_quiet (first | (go_at_call 147;(with_reducible refine (cmp_Less_int.calls (rd l0 x3_1) (rd l0 (ji5)) false _ A8.out).mono ?_);rintro e w' ⟨rfl,⟨nd,rfl⟩⟩;(try first | exact ⟨rfl,_,World.drewN_drewN _ _ _⟩ | exact ⟨rfl,_,Eq.trans (World.drewN_drewN _ _ _) (congrArg (World.drewN _) (Nat.add_assoc _ _ _))⟩)));try go_wp2_with (first | (go_at_call 147;(with_reducible refine (cmp_Less_int.calls (rd l0 x3_1) (rd l0 (ji5)) false _ A8.out).mono ?_);rintro e w' ⟨rfl,⟨nd,rfl⟩⟩;(try first | exact ⟨rfl,_,World.drewN_drewN _ _ _⟩ | exact ⟨rfl,_,Eq.trans (World.drewN_drewN _ _ _) (congrArg (World.drewN _) (Nat.add_assoc _ _ _))⟩))))
    go_roundg k1
    case measure=>have:=HK1.out;omega
    case rel=>exact ⟨(ji5),(by first | rfl | (simp;done) | (simp only [← hji5]<;>(first | rfl | simp)) | (simp [*];done)),H',⟨by have:=HK1.out;omega⟩,by repeat (first | exact zq0.refl _ | apply zq0.step)⟩
def nz_isRow.f (lA : List (S126)) (aA : Int) (a1 : Int) : Option (Bool):=(nz_in.f a1 0 (wrap64 ((lA.length : Int) - 1))).bind fun t1081=>(some t1081)
theorem nz_isRow.calls (AX : Option Addr) (c0_0 : Nat) (lA : List (S126)) (aA : Int) (a1 : Int) (r : Bool) (w : World) (hra : Kd.C k126 w AX lA.length lA) (hc0_0 : lA.length≤c0_0) (h : nz_isRow.f lA aA a1 = some r) :
 Calls Tryz.prog 140 #[.agg #[.slice AX lA.length c0_0,.int .i64 aA],.int .i64 a1] w fun e w'=>e = .returned (.bool r)∧Below w.heap.size w w':=by
 have hu24:=Tryz.underlying24
 have HRA:=am hra
 have HCA:=am hc0_0
 clear hra hc0_0
 have HB:=am (Below.refl w.heap.size w)
 have H : ((nz_in.f a1 0 (wrap64 ((lA.length : Int) - 1))).bind fun t1081=>(some t1081)) = some r:=h
 clear h
 replace H:=obm H
 obtain ⟨t1081,A30,H⟩:=H
 replace H : (some t1081) = some r:=H
 have A3:=am A30
 clear A30
 obtain rfl:=Option.some.inj H
 go_enter Tryz.func140,Tryz.ntmps140
 go_wp2_with (first | ((refine zqm (N:=2) rfl ?_);refine zqk rfl (N:=2) rfl (cs:=#[.slice AX lA.length c0_0,.int .i64 aA]) (t:=24) ?hr ?_;(case hr=>go_simp;try rfl);intro gb1080 hg w4 hbox hb;have BK1080:=am (hbox);have GW1080:=am (zqr (HB.out) hg);have GE1080:=am (zqr (HB.out) hg);replace HB:=am (zqh (HB.out) hb);clear hb hbox hg;obtain ⟨hcz5_0,hcz5_1⟩:=cO2 BK1080.out) | ((with_reducible refine zqq (f:=135) rfl ?_);refine zq8 (some 10) rfl rfl Tryz.func135 (by kernel_rfl) rfl #[.int .i64 a1,.int .i64 0,.int .i64 (wrap64 ((lA.length : Int) - 1))] rfl (by (try simp only [List.map_toArray,List.map_cons,List.map_nil]);first | done | rfl | (simp only [List.length_drop,List.length_take];rfl)) ?_;(with_reducible refine (nz_in.calls a1 0 (wrap64 ((lA.length : Int) - 1)) t1081 _ A3.out).mono ?_);rintro e w' ⟨rfl,⟨nd,rfl⟩⟩;refine ⟨_,rfl,?_⟩))
 go_ret
 exact ⟨by first | rfl | (simp [*]<;>rfl),zqa HB.out _⟩
end
theorem zpy (g : Nat) (A0 : Option Addr) (c0 : Nat) (l0 : List S126) (a1 : Int) (n : Int) (r : Bool) (W : World) (hb : W.heap[g]? = some (.cells #[.slice A0 l0.length c0,.int .i64 a1] 24 (0,0)))
 (hr0 : Kd.C k126 W A0 l0.length l0) (hc0 : l0.length≤c0) (h : nz_isRow.f l0 a1 n = some r) :
 Calls Tryz.prog 139 #[.int .i64 n,.pointer (some ⟨g,0,none⟩)] W fun e W'=>e = .returned (.bool (!r))∧Below W.heap.size W W':=by
 have hu:=Tryz.underlying24
 have HR:=am hr0
 have HC:=am hc0
 have H:=am h
 obtain ⟨hcz0,hcz1⟩:=cO2 hb
 clear hr0 hc0 h hb
 go_enter Tryz.func139,Tryz.ntmps139
 go_wp2_with (go_at_call 140;refine (nz_isRow.calls _ _ l0 a1 n r _ HR.out HC.out H.out).mono ?_;rintro e W' ⟨rfl,hb⟩)
 go_ret
 exact ⟨rfl,hb⟩
def nz_isSet.f (l0 : List S126) (a1 : Int) (l1 : List Int) : Option Bool:=
 if (l1.length : Int)≤6 then (sl_IsSorted_int_int.f (l1.length + 1) l1).bind fun t=>(if t = true then (anyM (fun n=>(nz_isRow.f l0 a1 n).bind fun b=>some (!b)) l1).bind fun u=>some (!u) else some false) else some false
theorem nz_isSet.calls (AX : Option Addr) (c0_0 : Nat) (lA : List S126) (aA : Int) (A1 : Option Addr) (c1 : Nat) (l1 : List Int) (r : Bool) (w : World) (hra : Kd.C k126 w AX lA.length lA) (hc0_0 : lA.length≤c0_0) (hr1 : Kd.C (Kd.int .i64) w A1 l1.length l1) (hc1 : l1.length≤c1) (h : nz_isSet.f lA aA l1 = some r) :
 Calls Tryz.prog 129 #[.agg #[.slice AX lA.length c0_0,.int .i64 aA],.slice A1 l1.length c1] w fun e w'=>e = .returned (.bool r)∧Below w.heap.size w w':=by
 have hu:=Tryz.underlying24
 have HR:=am hra
 have HC:=am hc0_0
 have HR1:=am (kC hr1 (zqf (Below.refl _ w) (.cells #[.slice AX lA.length c0_0,.int .i64 aA] 24)))
 have HC1:=am hc1
 have HBX:=am (blk_new w (.cells #[.slice AX lA.length c0_0,.int .i64 aA] 24))
 have HB:=am (zqf (Below.refl w.heap.size w) (.cells #[.slice AX lA.length c0_0,.int .i64 aA] 24))
 have hm : l1.length≤9223372036854775807:=Kd.C_max hr1
 clear hra hc0_0 hr1 hc1
 unfold nz_isSet.f at h
 by_cases h1 : (l1.length : Int)≤6
 case neg =>
  rw [if_neg h1] at h
  have b1 : decide ((l1.length : Int)≤6) = false:=decide_eq_false h1
  clear h1
  obtain rfl:=Option.some.inj h
  clear h
  go_enter Tryz.func129,Tryz.ntmps129
  go_wp2
  go_ret
  exact ⟨rfl,HB.out⟩
 rw [if_pos h1] at h
 have b1 : decide ((l1.length : Int)≤6) = true:=decide_eq_true h1
 clear h1
 obtain ⟨t,ht,h⟩:=obm h
 have H1:=am ht
 clear ht
 cases t with
 | true =>
  rw [if_pos rfl] at h
  obtain ⟨u,hu',h⟩:=obm h
  obtain rfl:=Option.some.inj h
  have H2:=am hu'
  clear hu' h
  have HP:=am (show ∀ W0,Below (w.alloc (.cells #[.slice AX lA.length c0_0,.int .i64 aA] 24)).heap.size (w.alloc (.cells #[.slice AX lA.length c0_0,.int .i64 aA] 24)) W0→zbg w.heap.size (fun n=>(nz_isRow.f lA aA n).bind fun b=>some (!b)) W0 l1 from by
   intro W0 h0 x b W hx hq hb
   obtain ⟨b',hb',he⟩:=obm hq
   obtain rfl:=Option.some.inj he
   exact zpy w.heap.size AX c0_0 lA aA x b' W (zqp (zqp HBX.out h0) hb) (kC (kC (kC HR.out HB.out) h0) hb) HC.out hb')
  go_enter Tryz.func129,Tryz.ntmps129
  go_wp2_with (first | (go_at_call 138;refine (sl_IsSorted_int_int.calls _ _ _ l1 true _ HR1.out HC1.out H1.out).mono ?_;rintro e w1 ⟨rfl,hd⟩;have HB1:=am hd.below;clear hd) | (go_at_call 65;refine (any_isSet w.heap.size _ _ _ l1 u _ (kC HR1.out HB1.out) (HP.out _ HB1.out) H2.out).mono ?_;rintro e w' ⟨rfl,hb⟩))
  go_ret
  exact ⟨rfl,zqu (zqu HB.out HB.out.size HB1.out) (zqu HB.out HB.out.size HB1.out).size hb⟩
 | false =>
  rw [if_neg (by decide)] at h
  obtain rfl:=Option.some.inj h
  clear h
  go_enter Tryz.func129,Tryz.ntmps129
  go_wp2_with (go_at_call 138;refine (sl_IsSorted_int_int.calls _ _ _ l1 false _ HR1.out HC1.out H1.out).mono ?_;rintro e w' ⟨rfl,hd⟩)
  go_ret
  exact ⟨rfl,zqu HB.out HB.out.size hd.below⟩
section
attribute [local go_sem] zwg zwf zwm zwl
def nz_Gives.f (k : Nat) (lA : List (S126)) (aA : Int) (l1 : List Int) : Option (Int × Int):=(nz_isTable.f lA aA).bind fun t152=>(if t152 = true then ((nz_isSet.f lA aA l1).bind fun t153=>(if t153 = true then ((nz_gives.f k lA aA l1).bind fun t154=>(some (t154,0))) else (some (0,2)))) else (some (0,2)))
theorem nz_Gives.calls (k : Nat) (AX : Option Addr) (c0_0 : Nat) (lA : List (S126)) (aA : Int) (A1 : Option Addr) (c1 : Nat) (l1 : List Int) (r1 : Int) (r2 : Int) (w : World) (hra : Kd.C k126 w AX lA.length lA) (hc0_0 : lA.length≤c0_0) (hr1 : Kd.C (Kd.int .i64) w A1 l1.length l1) (hc1 : l1.length≤c1) (h : nz_Gives.f k lA aA l1 = some (r1,r2)) :
 Calls Tryz.prog 106 #[.agg #[.slice AX lA.length c0_0,.int .i64 aA],.slice A1 l1.length c1] w fun e w'=>e = .returned (.tuple #[.int .i64 r1,.int .i64 r2])∧Below w.heap.size w w':=by
 have hu24:=Tryz.underlying24
 have HRA:=am hra
 have HCA:=am hc0_0
 clear hra hc0_0
 have HR1:=am hr1
 have HC1:=am hc1
 clear hr1 hc1
 have HB:=am (Below.refl w.heap.size w)
 have H : ((nz_isTable.f lA aA).bind fun t152=>(if t152 = true then ((nz_isSet.f lA aA l1).bind fun t153=>(if t153 = true then ((nz_gives.f k lA aA l1).bind fun t154=>(some (t154,0))) else (some (0,2)))) else (some (0,2)))) = some (r1,r2):=h
 clear h
 replace H:=obm H
 obtain ⟨t152,A30,H⟩:=H
 replace H : (if t152 = true then ((nz_isSet.f lA aA l1).bind fun t153=>(if t153 = true then ((nz_gives.f k lA aA l1).bind fun t154=>(some (t154,0))) else (some (0,2)))) else (some (0,2))) = some (r1,r2):=H
 have A3:=am A30
 clear A30
 by_cases c4 : t152 = true
 case neg =>
  replace c4:=Bool.eq_false_iff.mpr c4
  subst c4
  replace H : (some (0,2)) = some (r1,r2):=by rw [if_neg (show ¬ (false = true) by decide)] at H;exact H
  simp only [Option.some.injEq,Prod.mk.injEq] at H
  obtain ⟨rfl,rfl⟩:=H
  go_enter Tryz.func106,Tryz.ntmps106
  go_wp2_with (first | ((refine zqm (N:=2) rfl ?_);refine zqk rfl (N:=2) rfl (cs:=#[.slice AX lA.length c0_0,.int .i64 aA]) (t:=24) ?hr ?_;(case hr=>go_simp;try rfl);intro gb151 hg w20 hbox hb;have BK151:=am (hbox);have GW151:=am (zqr (HB.out) hg);have GE151:=am (zqr (HB.out) hg);replace HB:=am (zqh (HB.out) hb);clear hb hbox hg;obtain ⟨hcz21_0,hcz21_1⟩:=cO2 BK151.out) | ((with_reducible refine zqq (f:=127) rfl ?_);refine zq8 (some 7) rfl rfl Tryz.func127 (by kernel_rfl) rfl #[.agg #[.slice AX lA.length c0_0,.int .i64 aA]] rfl (by (try simp only [List.map_toArray,List.map_cons,List.map_nil]);first | done | rfl | (simp only [List.length_drop,List.length_take];rfl)) ?_;(refine (nz_isTable.calls _ _ lA aA false _ ?side1 ?side2 A3.out).mono ?_);(case side1=>exact kC HRA.out HB.out);(case side2=>exact HCA.out);rintro e w22 ⟨rfl,hb⟩;refine ⟨_,rfl,?_⟩;replace BK151:=(kmv hb BK151);replace HB:=am (zqh (HB.out) hb);(try clear hb);(try clear hb2);(try clear hk);(try clear hi)))
  go_ret2
  exact ⟨by first | rfl | (simp [*]<;>rfl),HB.out⟩
 subst c4
 replace H : ((nz_isSet.f lA aA l1).bind fun t153=>(if t153 = true then ((nz_gives.f k lA aA l1).bind fun t154=>(some (t154,0))) else (some (0,2)))) = some (r1,r2):=by rw [if_pos rfl] at H;exact H
 replace H:=obm H
 obtain ⟨t153,A50,H⟩:=H
 replace H : (if t153 = true then ((nz_gives.f k lA aA l1).bind fun t154=>(some (t154,0))) else (some (0,2))) = some (r1,r2):=H
 have A5:=am A50
 clear A50
 by_cases c6 : t153 = true
 case neg =>
  replace c6:=Bool.eq_false_iff.mpr c6
  subst c6
  replace H : (some (0,2)) = some (r1,r2):=by rw [if_neg (show ¬ (false = true) by decide)] at H;exact H
  simp only [Option.some.injEq,Prod.mk.injEq] at H
  obtain ⟨rfl,rfl⟩:=H
  go_enter Tryz.func106,Tryz.ntmps106
  go_wp2_with (first | ((refine zqm (N:=2) rfl ?_);refine zqk rfl (N:=2) rfl (cs:=#[.slice AX lA.length c0_0,.int .i64 aA]) (t:=24) ?hr ?_;(case hr=>go_simp;try rfl);intro gb151 hg w15 hbox hb;have BK151:=am (hbox);have GW151:=am (zqr (HB.out) hg);have GE151:=am (zqr (HB.out) hg);replace HB:=am (zqh (HB.out) hb);clear hb hbox hg;obtain ⟨hcz16_0,hcz16_1⟩:=cO2 BK151.out) | ((with_reducible refine zqq (f:=127) rfl ?_);refine zq8 (some 7) rfl rfl Tryz.func127 (by kernel_rfl) rfl #[.agg #[.slice AX lA.length c0_0,.int .i64 aA]] rfl (by (try simp only [List.map_toArray,List.map_cons,List.map_nil]);first | done | rfl | (simp only [List.length_drop,List.length_take];rfl)) ?_;(refine (nz_isTable.calls _ _ lA aA true _ ?side1 ?side2 A3.out).mono ?_);(case side1=>exact kC HRA.out HB.out);(case side2=>exact HCA.out);rintro e w17 ⟨rfl,hb⟩;refine ⟨_,rfl,?_⟩;replace BK151:=(kmv hb BK151);replace HB:=am (zqh (HB.out) hb);(try clear hb);(try clear hb2);(try clear hk);(try clear hi);obtain ⟨hcz18_0,hcz18_1⟩:=cO2 BK151.out) | (go_at_call 129;(refine (nz_isSet.calls _ _ lA aA _ _ l1 false _ ?side1 ?side2 ?side3 ?side4 A5.out).mono ?_);(case side1=>exact kC HRA.out HB.out);(case side2=>exact HCA.out);(case side3=>exact kC HR1.out HB.out);(case side4=>exact HC1.out);rintro e w19 ⟨rfl,hb⟩;replace BK151:=(kmv hb BK151);replace HB:=am (zqh (HB.out) hb);(try clear hb);(try clear hb2);(try clear hk);(try clear hi)))
  go_ret2
  exact ⟨by first | rfl | (simp [*]<;>rfl),HB.out⟩
 subst c6
 replace H : ((nz_gives.f k lA aA l1).bind fun t154=>(some (t154,0))) = some (r1,r2):=by rw [if_pos rfl] at H;exact H
 replace H:=obm H
 obtain ⟨t154,A70,H⟩:=H
 replace H : (some (t154,0)) = some (r1,r2):=H
 have A7:=am A70
 clear A70
 simp only [Option.some.injEq,Prod.mk.injEq] at H
 obtain ⟨rfl,rfl⟩:=H
 go_enter Tryz.func106,Tryz.ntmps106
 go_wp2_with (first | ((refine zqm (N:=2) rfl ?_);refine zqk rfl (N:=2) rfl (cs:=#[.slice AX lA.length c0_0,.int .i64 aA]) (t:=24) ?hr ?_;(case hr=>go_simp;try rfl);intro gb151 hg w8 hbox hb;have BK151:=am (hbox);have GW151:=am (zqr (HB.out) hg);have GE151:=am (zqr (HB.out) hg);replace HB:=am (zqh (HB.out) hb);clear hb hbox hg;obtain ⟨hcz9_0,hcz9_1⟩:=cO2 BK151.out) | ((with_reducible refine zqq (f:=127) rfl ?_);refine zq8 (some 7) rfl rfl Tryz.func127 (by kernel_rfl) rfl #[.agg #[.slice AX lA.length c0_0,.int .i64 aA]] rfl (by (try simp only [List.map_toArray,List.map_cons,List.map_nil]);first | done | rfl | (simp only [List.length_drop,List.length_take];rfl)) ?_;(refine (nz_isTable.calls _ _ lA aA true _ ?side1 ?side2 A3.out).mono ?_);(case side1=>exact kC HRA.out HB.out);(case side2=>exact HCA.out);rintro e w10 ⟨rfl,hb⟩;refine ⟨_,rfl,?_⟩;replace BK151:=(kmv hb BK151);replace HB:=am (zqh (HB.out) hb);(try clear hb);(try clear hb2);(try clear hk);(try clear hi);obtain ⟨hcz11_0,hcz11_1⟩:=cO2 BK151.out) | (go_at_call 129;(refine (nz_isSet.calls _ _ lA aA _ _ l1 true _ ?side1 ?side2 ?side3 ?side4 A5.out).mono ?_);(case side1=>exact kC HRA.out HB.out);(case side2=>exact HCA.out);(case side3=>exact kC HR1.out HB.out);(case side4=>exact HC1.out);rintro e w12 ⟨rfl,hb⟩;replace BK151:=(kmv hb BK151);replace HB:=am (zqh (HB.out) hb);(try clear hb);(try clear hb2);(try clear hk);(try clear hi);obtain ⟨hcz13_0,hcz13_1⟩:=cO2 BK151.out) | ((with_reducible refine zqq (f:=130) rfl ?_);refine zq8 (some 17) rfl rfl Tryz.func130 (by kernel_rfl) rfl #[.agg #[.slice AX lA.length c0_0,.int .i64 aA],.slice A1 l1.length c1] rfl (by (try simp only [List.map_toArray,List.map_cons,List.map_nil]);first | done | rfl | (simp only [List.length_drop,List.length_take];rfl)) ?_;(refine (nz_gives.calls k _ _ lA aA _ _ l1 t154 _ ?side1 ?side2 ?side3 ?side4 A7.out).mono ?_);(case side1=>exact kC HRA.out HB.out);(case side2=>exact HCA.out);(case side3=>exact kC HR1.out HB.out);(case side4=>exact HC1.out);rintro e w14 ⟨rfl,hb⟩;refine ⟨_,rfl,?_⟩;replace BK151:=(kmv hb BK151);replace HB:=am (zqh (HB.out) hb);(try clear hb);(try clear hb2);(try clear hk);(try clear hi)))
 go_ret2
 exact ⟨by first | rfl | (simp [*]<;>rfl),HB.out⟩
end
end Go.Proofs.YtnnmnhpeblhiiaaGreatDoor.C

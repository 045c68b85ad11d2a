/- A part of the proof: the walks of the functions that it reaches. TIGHT. -/
import Derived.Test.YtnnmnhpeblhiiaaGreatDoorMS11
import Derived.BigQuiet
import Derived.Laws.EntriesVeiled
import Derived.Tactics2
import Derived.Defers
import Derived.Recover
import Derived.Laws.Pointers
import Derived.Lib.Hide
set_option linter.unusedSimpArgs false
set_option linter.unusedVariables false
namespace Go.Proofs.YtnnmnhpeblhiiaaGreatDoor.C
open Go.RowKit Go.Proofs.YtnnmnhpeblhiiaaGreatDoorW.PrintWords Go.Proofs.YtnnmnhpeblhiiaaGreatDoorW.PrintLast Go.Proofs.YtnnmnhpeblhiiaaGreatDoorW.PrintMore
set_option maxHeartbeats 16000000
set_option maxRecDepth 100000
section
attribute [local go_sem] zwg zwf zwm zwl
def nz_Check.f (lA : List (S126)) (aA : Int) : Option (Int):=(nz_isTable.f lA aA).bind fun t136=>(if t136 = true then (some 0) else (some 2))
theorem nz_Check.calls (AX : Option Addr) (c0_0 : Nat) (lA : List (S126)) (aA : Int) (r : Int) (w : World) (hra : Kd.C k126 w AX lA.length lA) (hc0_0 : lA.length≤c0_0) (h : nz_Check.f lA aA = some r) :
 Calls Tryz.prog 103 #[.agg #[.slice AX lA.length c0_0,.int .i64 aA]] w fun e w'=>e = .returned (.int .i64 r)∧Below w.heap.size w w':=by
 have hu24:=Tryz.underlying24
 have HRA:=am hra
 have HCA:=am hc0_0
 clear hra hc0_0
 have HB:=am (Below.refl w.heap.size w)
 have H : ((nz_isTable.f lA aA).bind fun t136=>(if t136 = true then (some 0) else (some 2))) = some r:=h
 clear h
 replace H:=obm H
 obtain ⟨t136,A20,H⟩:=H
 replace H : (if t136 = true then (some 0) else (some 2)) = some r:=H
 have A2:=am A20
 clear A20
 by_cases c3 : t136 = true
 ·subst c3
  replace H : (some 0) = some r:=by rw [if_pos rfl] at H;exact H
  obtain rfl:=Option.some.inj H
  go_enter Tryz.func103,Tryz.ntmps103
  go_wp2_with (first | ((refine zqm (N:=1) rfl ?_);refine zqk rfl (N:=1) rfl (cs:=#[.slice AX lA.length c0_0,.int .i64 aA]) (t:=24) ?hr ?_;(case hr=>go_simp;try rfl);intro gb135 hg w4 hbox hb;have BK135:=am (hbox);have GW135:=am (zqr (HB.out) hg);have GE135:=am (zqr (HB.out) hg);replace HB:=am (zqh (HB.out) hb);clear hb hbox hg;obtain ⟨hcz5_0,hcz5_1⟩:=cO2 BK135.out) | ((with_reducible refine zqq (f:=127) rfl ?_);refine zq8 (some 4) rfl rfl Tryz.func127 (by kernel_rfl) rfl #[.agg #[.slice AX lA.length c0_0,.int .i64 aA]] rfl (by (try simp only [List.map_toArray,List.map_cons,List.map_nil]);first | done | rfl | (simp only [List.length_drop,List.length_take];rfl)) ?_;(refine (nz_isTable.calls _ _ lA aA true _ ?side1 ?side2 A2.out).mono ?_);(case side1=>exact kC HRA.out HB.out);(case side2=>exact HCA.out);rintro e w6 ⟨rfl,hb⟩;refine ⟨_,rfl,?_⟩;replace BK135:=(kmv hb BK135);replace HB:=am (zqh (HB.out) hb);(try clear hb);(try clear hb2);(try clear hk);(try clear hi)))
  go_ret
  exact ⟨by first | rfl | (simp [*]<;>rfl),HB.out⟩
 ·replace c3:=Bool.eq_false_iff.mpr c3
  subst c3
  replace H : (some 2) = some r:=by rw [if_neg (show ¬ (false = true) by decide)] at H;exact H
  obtain rfl:=Option.some.inj H
  go_enter Tryz.func103,Tryz.ntmps103
  go_wp2_with (first | ((refine zqm (N:=1) rfl ?_);refine zqk rfl (N:=1) rfl (cs:=#[.slice AX lA.length c0_0,.int .i64 aA]) (t:=24) ?hr ?_;(case hr=>go_simp;try rfl);intro gb135 hg w7 hbox hb;have BK135:=am (hbox);have GW135:=am (zqr (HB.out) hg);have GE135:=am (zqr (HB.out) hg);replace HB:=am (zqh (HB.out) hb);clear hb hbox hg;obtain ⟨hcz8_0,hcz8_1⟩:=cO2 BK135.out) | ((with_reducible refine zqq (f:=127) rfl ?_);refine zq8 (some 4) rfl rfl Tryz.func127 (by kernel_rfl) rfl #[.agg #[.slice AX lA.length c0_0,.int .i64 aA]] rfl (by (try simp only [List.map_toArray,List.map_cons,List.map_nil]);first | done | rfl | (simp only [List.length_drop,List.length_take];rfl)) ?_;(refine (nz_isTable.calls _ _ lA aA false _ ?side1 ?side2 A2.out).mono ?_);(case side1=>exact kC HRA.out HB.out);(case side2=>exact HCA.out);rintro e w9 ⟨rfl,hb⟩;refine ⟨_,rfl,?_⟩;replace BK135:=(kmv hb BK135);replace HB:=am (zqh (HB.out) hb);(try clear hb);(try clear hb2);(try clear hk);(try clear hi)))
  go_ret
  exact ⟨by first | rfl | (simp [*]<;>rfl),HB.out⟩
def ca_in.f (a0 : Int) (a1 : Int) (a2 : Int) : Option (Bool):=if a0 ≥ a1 then (some (decide (a0≤a2))) else (some false)
theorem ca_in.calls (a0 : Int) (a1 : Int) (a2 : Int) (r : Bool) (w : World) (h : ca_in.f a0 a1 a2 = some r) :
 Calls Tryz.prog 79 #[.int .i64 a0,.int .i64 a1,.int .i64 a2] w fun e w'=>e = .returned (.bool r)∧zq0 w w':=by
 have H : (if a0 ≥ a1 then (some (decide (a0≤a2))) else (some false)) = some r:=h
 clear h
 by_cases c4 : a0 ≥ a1
 ·rw [if_pos c4] at H
  have c4b0 : decide (a1≤a0) = true:=decide_eq_true c4
  clear c4
  obtain rfl:=Option.some.inj H
  go_enter Tryz.func79,Tryz.ntmps79
  go_wp2
  go_ret
  exact ⟨by first | rfl | (simp;done) | (simp [*];done),by repeat (first | exact zq0.refl _ | apply zq0.step)⟩
 ·rw [if_neg c4] at H
  have c4b0 : decide (a1≤a0) = false:=decide_eq_false c4
  clear c4
  obtain rfl:=Option.some.inj H
  go_enter Tryz.func79,Tryz.ntmps79
  go_wp2
  go_ret
  exact ⟨by first | rfl | (simp;done) | (simp [*];done),by repeat (first | exact zq0.refl _ | apply zq0.step)⟩
def ca_isHeight.f (a0 : Int) : Option (Bool):=(ca_in.f a0 0 40).bind fun t130=>(some t130)
theorem ca_isHeight.calls (a0 : Int) (r : Bool) (w : World) (h : ca_isHeight.f a0 = some r) :
 Calls Tryz.prog 86 #[.int .i64 a0] w fun e w'=>e = .returned (.bool r)∧zq0 w w':=by
 have H : ((ca_in.f a0 0 40).bind fun t130=>(some t130)) = some r:=h
 clear h
 replace H:=obm H
 obtain ⟨t130,A20,H⟩:=H
 replace H : (some t130) = some r:=H
 have A2:=am A20
 clear A20
 obtain rfl:=Option.some.inj H
 go_enter Tryz.func86,Tryz.ntmps86
 go_wp2_with (first | ((with_reducible refine zqq (f:=79) rfl ?_);refine zq8 (some 4) rfl rfl Tryz.func79 (by kernel_rfl) rfl #[.int .i64 a0,.int .i64 0,.int .i64 40] rfl (by (try simp only [List.map_toArray,List.map_cons,List.map_nil]);first | done | rfl | (simp only [List.length_drop,List.length_take];rfl)) ?_;(with_reducible refine (ca_in.calls a0 0 40 t130 _ A2.out).mono ?_);rintro e w' ⟨rfl,⟨nd,rfl⟩⟩;refine ⟨_,rfl,?_⟩))
 go_ret
 exact ⟨by first | rfl | (simp;done) | (simp [*];done),by repeat (first | exact zq0.refl _ | apply zq0.step)⟩
end
def ca_isBasin_1.f (lA : List S126) (x : S48) : Option Bool:=(ca_in.f x.f0 0 (wrap64 ((lA.length : Int) - 1))).bind fun t=>if t = true then (ca_isHeight.f x.f1).bind fun u=>some (!u) else some true
theorem ca_isBasin_1.calls (g : Nat) (AX : Option Addr) (c0_0 : Nat) (lA : List S126) (aA : Int) (AY : Option Addr) (cB : Nat) (lB : List S48) (a0_3 aC : Int) (x : S48) (r : Bool) (w : World) (hb : w.heap[g]? = some (.cells #[.slice AX lA.length c0_0,.int .i64 aA,.slice AY lB.length cB,.int .i64 a0_3,.int .i64 aC] 27 (0,0))) (h : ca_isBasin_1.f lA x = some r) :
 Calls Tryz.prog 102 #[.agg #[.int .i64 x.f0,.int .i64 x.f1],.pointer (some ⟨g,0,none⟩)] w fun e w'=>e = .returned (.bool r)∧Below w.heap.size w w':=by
 have hu:=Tryz.underlying27
 have huz:=Tryz.underlying48
 have hut:=Tryz.underlying24
 have HB:=am (Below.refl w.heap.size w)
 have BKg:=am hb
 clear hb
 unfold ca_isBasin_1.f at h
 obtain ⟨t,ht,h⟩:=obm h
 have H1:=am ht
 clear ht
 cases t with
 | true =>
  rw [if_pos rfl] at h
  obtain ⟨u,hu2,h⟩:=obm h
  obtain rfl:=Option.some.inj h
  have H2:=am hu2
  clear hu2 h
  go_enter Tryz.func102,Tryz.ntmps102
  go_wp2_with (first | ((refine zqm (N:=2) rfl ?_);(try (refine zqs (by rfl) ?_;dsimp only));refine zqk rfl (N:=2) rfl (cs:=#[.int .i64 x.f0,.int .i64 x.f1]) (t:=48) ?hr ?_;(case hr=>go_simp;try rfl);intro q hg w2 hbox hb;replace HB:=(bmv HB hb);replace BKg:=(kmv hb BKg);clear hg;have BKq:=am hbox;clear hbox;(try clear hczg_0 hczg_1 hczg_2 hczg_3 hczg_4);obtain ⟨hczg_0,hczg_1,hczg_2,hczg_3,hczg_4⟩:=cO5 BKg.out;(try clear hczq_0 hczq_1);obtain ⟨hczq_0,hczq_1⟩:=cO2 BKq.out;clear hb) | (go_at_call 79;(with_reducible refine (ca_in.calls x.f0 0 (wrap64 ((lA.length : Int) - 1)) true _ H1.out).mono ?_);rintro e w1 ⟨rfl,hd⟩;have hb:=hd.below;clear hd;replace HB:=(bmv HB hb);replace BKg:=(kmv hb BKg);replace BKq:=(kmv hb BKq);(try clear hczg_0 hczg_1 hczg_2 hczg_3 hczg_4);obtain ⟨hczg_0,hczg_1,hczg_2,hczg_3,hczg_4⟩:=cO5 BKg.out;(try clear hczq_0 hczq_1);obtain ⟨hczq_0,hczq_1⟩:=cO2 BKq.out;clear hb) | (go_at_call 86;(with_reducible refine (ca_isHeight.calls x.f1 u _ H2.out).mono ?_);rintro e w1 ⟨rfl,hd⟩;have hb:=hd.below;clear hd;replace HB:=(bmv HB hb);replace BKg:=(kmv hb BKg);replace BKq:=(kmv hb BKq);(try clear hczg_0 hczg_1 hczg_2 hczg_3 hczg_4);obtain ⟨hczg_0,hczg_1,hczg_2,hczg_3,hczg_4⟩:=cO5 BKg.out;(try clear hczq_0 hczq_1);obtain ⟨hczq_0,hczq_1⟩:=cO2 BKq.out;clear hb))
  go_ret
  exact ⟨rfl,HB.out⟩
 | false =>
  rw [if_neg (by decide)] at h
  obtain rfl:=Option.some.inj h
  clear h
  go_enter Tryz.func102,Tryz.ntmps102
  go_wp2_with (first | ((refine zqm (N:=2) rfl ?_);(try (refine zqs (by rfl) ?_;dsimp only));refine zqk rfl (N:=2) rfl (cs:=#[.int .i64 x.f0,.int .i64 x.f1]) (t:=48) ?hr ?_;(case hr=>go_simp;try rfl);intro q hg w2 hbox hb;replace HB:=(bmv HB hb);replace BKg:=(kmv hb BKg);clear hg;have BKq:=am hbox;clear hbox;(try clear hczg_0 hczg_1 hczg_2 hczg_3 hczg_4);obtain ⟨hczg_0,hczg_1,hczg_2,hczg_3,hczg_4⟩:=cO5 BKg.out;(try clear hczq_0 hczq_1);obtain ⟨hczq_0,hczq_1⟩:=cO2 BKq.out;clear hb) | (go_at_call 79;(with_reducible refine (ca_in.calls x.f0 0 (wrap64 ((lA.length : Int) - 1)) false _ H1.out).mono ?_);rintro e w1 ⟨rfl,hd⟩;have hb:=hd.below;clear hd;replace HB:=(bmv HB hb);replace BKg:=(kmv hb BKg);replace BKq:=(kmv hb BKq);(try clear hczg_0 hczg_1 hczg_2 hczg_3 hczg_4);obtain ⟨hczg_0,hczg_1,hczg_2,hczg_3,hczg_4⟩:=cO5 BKg.out;(try clear hczq_0 hczq_1);obtain ⟨hczq_0,hczq_1⟩:=cO2 BKq.out;clear hb))
  go_ret
  exact ⟨rfl,HB.out⟩
def ca_isBasin.f (lA : List S126) (aA : Int) (lB : List S48) (a0_3 aC : Int) : Option Bool:=
 (nz_Check.f lA aA).bind fun t1=>if t1 = 0 then (ca_in.f (lB.length : Int) 1 6).bind fun t2=>(if t2 = true then (ca_isHeight.f a0_3).bind fun t3=>(if t3 = true then (ca_in.f aC 0 100).bind fun t4=>(if t4 = true then (anyM (ca_isBasin_1.f lA) lB).bind fun u=>some (!u) else some false) else some false) else some false) else some false
theorem ca_isBasin.calls (AX : Option Addr) (c0_0 : Nat) (lA : List S126) (aA : Int) (AY : Option Addr) (cB : Nat) (lB : List S48) (a0_3 aC : Int) (r : Bool) (w : World) (hra : Kd.C k126 w AX lA.length lA) (hc0_0 : lA.length≤c0_0) (hrb : Kd.C k48 w AY lB.length lB) (hcb : lB.length≤cB) (h : ca_isBasin.f lA aA lB a0_3 aC = some r) :
 Calls Tryz.prog 64 #[.agg #[.slice AX lA.length c0_0,.int .i64 aA,.slice AY lB.length cB,.int .i64 a0_3,.int .i64 aC]] w fun e w'=>e = .returned (.bool r)∧Below w.heap.size w w':=by
 have hu:=Tryz.underlying27
 have hut:=Tryz.underlying24
 have hm : lB.length≤9223372036854775807:=Kd.C_max hrb
 have HR:=am hra
 have HC:=am hc0_0
 have HR2:=am hrb
 have HC2:=am hcb
 have HB:=am (Below.refl w.heap.size w)
 clear hra hc0_0 hrb hcb
 unfold ca_isBasin.f at h
 obtain ⟨t1,ht,h⟩:=obm h
 have H1:=am ht
 clear ht
 by_cases h1 : t1 = 0
 case neg =>
  rw [if_neg h1] at h
  obtain rfl:=Option.some.inj h
  clear h
  have b1 : (t1 == 0) = false:=beq_eq_false_iff_ne.2 h1
  clear h1
  go_enter Tryz.func64,Tryz.ntmps64
  go_wp2_with (first | ((refine zqm (N:=1) rfl ?_);(try (refine zqs (by rfl) ?_;dsimp only));refine zqk rfl (N:=1) rfl (cs:=#[.slice AX lA.length c0_0,.int .i64 aA,.slice AY lB.length cB,.int .i64 a0_3,.int .i64 aC]) (t:=27) ?hr ?_;(case hr=>go_simp;try rfl);intro g hg w2 hbox hb;replace HR:=(cmv HR hb);replace HR2:=(cmv HR2 hb);replace HB:=(bmv HB hb);clear hg;have BKg:=am hbox;clear hbox;(try clear hczg_0 hczg_1 hczg_2 hczg_3 hczg_4);obtain ⟨hczg_0,hczg_1,hczg_2,hczg_3,hczg_4⟩:=cO5 BKg.out;clear hb) | (go_at_call 103;(with_reducible refine (nz_Check.calls AX c0_0 lA aA t1 _ HR.out HC.out H1.out).mono ?_);rintro e w1 ⟨rfl,hb⟩;replace HR:=(cmv HR hb);replace HR2:=(cmv HR2 hb);replace HB:=(bmv HB hb);replace BKg:=(kmv hb BKg);(try clear hczg_0 hczg_1 hczg_2 hczg_3 hczg_4);obtain ⟨hczg_0,hczg_1,hczg_2,hczg_3,hczg_4⟩:=cO5 BKg.out;clear hb))
  go_ret
  exact ⟨rfl,HB.out⟩
 subst h1
 rw [if_pos rfl] at h
 obtain ⟨t2,ht,h⟩:=obm h
 have H2:=am ht
 clear ht
 cases t2 with
 | false =>
  rw [if_neg (by decide)] at h
  obtain rfl:=Option.some.inj h
  clear h
  go_enter Tryz.func64,Tryz.ntmps64
  go_wp2_with (first | ((refine zqm (N:=1) rfl ?_);(try (refine zqs (by rfl) ?_;dsimp only));refine zqk rfl (N:=1) rfl (cs:=#[.slice AX lA.length c0_0,.int .i64 aA,.slice AY lB.length cB,.int .i64 a0_3,.int .i64 aC]) (t:=27) ?hr ?_;(case hr=>go_simp;try rfl);intro g hg w2 hbox hb;replace HR:=(cmv HR hb);replace HR2:=(cmv HR2 hb);replace HB:=(bmv HB hb);clear hg;have BKg:=am hbox;clear hbox;(try clear hczg_0 hczg_1 hczg_2 hczg_3 hczg_4);obtain ⟨hczg_0,hczg_1,hczg_2,hczg_3,hczg_4⟩:=cO5 BKg.out;clear hb) | (go_at_call 103;(with_reducible refine (nz_Check.calls AX c0_0 lA aA 0 _ HR.out HC.out H1.out).mono ?_);rintro e w1 ⟨rfl,hb⟩;replace HR:=(cmv HR hb);replace HR2:=(cmv HR2 hb);replace HB:=(bmv HB hb);replace BKg:=(kmv hb BKg);(try clear hczg_0 hczg_1 hczg_2 hczg_3 hczg_4);obtain ⟨hczg_0,hczg_1,hczg_2,hczg_3,hczg_4⟩:=cO5 BKg.out;clear hb) | (go_at_call 79;(with_reducible refine (ca_in.calls (lB.length : Int) 1 6 false _ H2.out).mono ?_);rintro e w1 ⟨rfl,hd⟩;have hb:=hd.below;clear hd;replace HR:=(cmv HR hb);replace HR2:=(cmv HR2 hb);replace HB:=(bmv HB hb);replace BKg:=(kmv hb BKg);(try clear hczg_0 hczg_1 hczg_2 hczg_3 hczg_4);obtain ⟨hczg_0,hczg_1,hczg_2,hczg_3,hczg_4⟩:=cO5 BKg.out;clear hb))
  go_ret
  exact ⟨rfl,HB.out⟩
 | true =>
  rw [if_pos rfl] at h
  obtain ⟨t3,ht,h⟩:=obm h
  have H3:=am ht
  clear ht
  cases t3 with
  | false =>
   rw [if_neg (by decide)] at h
   obtain rfl:=Option.some.inj h
   clear h
   go_enter Tryz.func64,Tryz.ntmps64
   go_wp2_with (first | ((refine zqm (N:=1) rfl ?_);(try (refine zqs (by rfl) ?_;dsimp only));refine zqk rfl (N:=1) rfl (cs:=#[.slice AX lA.length c0_0,.int .i64 aA,.slice AY lB.length cB,.int .i64 a0_3,.int .i64 aC]) (t:=27) ?hr ?_;(case hr=>go_simp;try rfl);intro g hg w2 hbox hb;replace HR:=(cmv HR hb);replace HR2:=(cmv HR2 hb);replace HB:=(bmv HB hb);clear hg;have BKg:=am hbox;clear hbox;(try clear hczg_0 hczg_1 hczg_2 hczg_3 hczg_4);obtain ⟨hczg_0,hczg_1,hczg_2,hczg_3,hczg_4⟩:=cO5 BKg.out;clear hb) | (go_at_call 103;(with_reducible refine (nz_Check.calls AX c0_0 lA aA 0 _ HR.out HC.out H1.out).mono ?_);rintro e w1 ⟨rfl,hb⟩;replace HR:=(cmv HR hb);replace HR2:=(cmv HR2 hb);replace HB:=(bmv HB hb);replace BKg:=(kmv hb BKg);(try clear hczg_0 hczg_1 hczg_2 hczg_3 hczg_4);obtain ⟨hczg_0,hczg_1,hczg_2,hczg_3,hczg_4⟩:=cO5 BKg.out;clear hb) | (go_at_call 79;(with_reducible refine (ca_in.calls (lB.length : Int) 1 6 true _ H2.out).mono ?_);rintro e w1 ⟨rfl,hd⟩;have hb:=hd.below;clear hd;replace HR:=(cmv HR hb);replace HR2:=(cmv HR2 hb);replace HB:=(bmv HB hb);replace BKg:=(kmv hb BKg);(try clear hczg_0 hczg_1 hczg_2 hczg_3 hczg_4);obtain ⟨hczg_0,hczg_1,hczg_2,hczg_3,hczg_4⟩:=cO5 BKg.out;clear hb) | (go_at_call 86;(with_reducible refine (ca_isHeight.calls a0_3 false _ H3.out).mono ?_);rintro e w1 ⟨rfl,hd⟩;have hb:=hd.below;clear hd;replace HR:=(cmv HR hb);replace HR2:=(cmv HR2 hb);replace HB:=(bmv HB hb);replace BKg:=(kmv hb BKg);(try clear hczg_0 hczg_1 hczg_2 hczg_3 hczg_4);obtain ⟨hczg_0,hczg_1,hczg_2,hczg_3,hczg_4⟩:=cO5 BKg.out;clear hb))
   go_ret
   exact ⟨rfl,HB.out⟩
  | true =>
   rw [if_pos rfl] at h
   obtain ⟨t4,ht,h⟩:=obm h
   have H4:=am ht
   clear ht
   cases t4 with
   | false =>
    rw [if_neg (by decide)] at h
    obtain rfl:=Option.some.inj h
    clear h
    go_enter Tryz.func64,Tryz.ntmps64
    go_wp2_with (first | ((refine zqm (N:=1) rfl ?_);(try (refine zqs (by rfl) ?_;dsimp only));refine zqk rfl (N:=1) rfl (cs:=#[.slice AX lA.length c0_0,.int .i64 aA,.slice AY lB.length cB,.int .i64 a0_3,.int .i64 aC]) (t:=27) ?hr ?_;(case hr=>go_simp;try rfl);intro g hg w2 hbox hb;replace HR:=(cmv HR hb);replace HR2:=(cmv HR2 hb);replace HB:=(bmv HB hb);clear hg;have BKg:=am hbox;clear hbox;(try clear hczg_0 hczg_1 hczg_2 hczg_3 hczg_4);obtain ⟨hczg_0,hczg_1,hczg_2,hczg_3,hczg_4⟩:=cO5 BKg.out;clear hb) | (go_at_call 103;(with_reducible refine (nz_Check.calls AX c0_0 lA aA 0 _ HR.out HC.out H1.out).mono ?_);rintro e w1 ⟨rfl,hb⟩;replace HR:=(cmv HR hb);replace HR2:=(cmv HR2 hb);replace HB:=(bmv HB hb);replace BKg:=(kmv hb BKg);(try clear hczg_0 hczg_1 hczg_2 hczg_3 hczg_4);obtain ⟨hczg_0,hczg_1,hczg_2,hczg_3,hczg_4⟩:=cO5 BKg.out;clear hb) | (go_at_call 79;(with_reducible refine (ca_in.calls (lB.length : Int) 1 6 true _ H2.out).mono ?_);rintro e w1 ⟨rfl,hd⟩;have hb:=hd.below;clear hd;replace HR:=(cmv HR hb);replace HR2:=(cmv HR2 hb);replace HB:=(bmv HB hb);replace BKg:=(kmv hb BKg);(try clear hczg_0 hczg_1 hczg_2 hczg_3 hczg_4);obtain ⟨hczg_0,hczg_1,hczg_2,hczg_3,hczg_4⟩:=cO5 BKg.out;clear hb) | (go_at_call 86;(with_reducible refine (ca_isHeight.calls a0_3 true _ H3.out).mono ?_);rintro e w1 ⟨rfl,hd⟩;have hb:=hd.below;clear hd;replace HR:=(cmv HR hb);replace HR2:=(cmv HR2 hb);replace HB:=(bmv HB hb);replace BKg:=(kmv hb BKg);(try clear hczg_0 hczg_1 hczg_2 hczg_3 hczg_4);obtain ⟨hczg_0,hczg_1,hczg_2,hczg_3,hczg_4⟩:=cO5 BKg.out;clear hb) | (go_at_call 79;(with_reducible refine (ca_in.calls aC 0 100 false _ H4.out).mono ?_);rintro e w1 ⟨rfl,hd⟩;have hb:=hd.below;clear hd;replace HR:=(cmv HR hb);replace HR2:=(cmv HR2 hb);replace HB:=(bmv HB hb);replace BKg:=(kmv hb BKg);(try clear hczg_0 hczg_1 hczg_2 hczg_3 hczg_4);obtain ⟨hczg_0,hczg_1,hczg_2,hczg_3,hczg_4⟩:=cO5 BKg.out;clear hb))
    go_ret
    exact ⟨rfl,HB.out⟩
   | true =>
    rw [if_pos rfl] at h
    obtain ⟨u,ht,h⟩:=obm h
    obtain rfl:=Option.some.inj h
    have H5:=am ht
    clear ht h
    go_enter Tryz.func64,Tryz.ntmps64
    go_wp2_with (first | ((refine zqm (N:=1) rfl ?_);(try (refine zqs (by rfl) ?_;dsimp only));refine zqk rfl (N:=1) rfl (cs:=#[.slice AX lA.length c0_0,.int .i64 aA,.slice AY lB.length cB,.int .i64 a0_3,.int .i64 aC]) (t:=27) ?hr ?_;(case hr=>go_simp;try rfl);intro g hg w2 hbox hb;replace HR:=(cmv HR hb);replace HR2:=(cmv HR2 hb);replace HB:=(bmv HB hb);clear hg;have BKg:=am hbox;clear hbox;(try clear hczg_0 hczg_1 hczg_2 hczg_3 hczg_4);obtain ⟨hczg_0,hczg_1,hczg_2,hczg_3,hczg_4⟩:=cO5 BKg.out;clear hb) | (go_at_call 103;(with_reducible refine (nz_Check.calls AX c0_0 lA aA 0 _ HR.out HC.out H1.out).mono ?_);rintro e w1 ⟨rfl,hb⟩;replace HR:=(cmv HR hb);replace HR2:=(cmv HR2 hb);replace HB:=(bmv HB hb);replace BKg:=(kmv hb BKg);(try clear hczg_0 hczg_1 hczg_2 hczg_3 hczg_4);obtain ⟨hczg_0,hczg_1,hczg_2,hczg_3,hczg_4⟩:=cO5 BKg.out;clear hb) | (go_at_call 79;(with_reducible refine (ca_in.calls (lB.length : Int) 1 6 true _ H2.out).mono ?_);rintro e w1 ⟨rfl,hd⟩;have hb:=hd.below;clear hd;replace HR:=(cmv HR hb);replace HR2:=(cmv HR2 hb);replace HB:=(bmv HB hb);replace BKg:=(kmv hb BKg);(try clear hczg_0 hczg_1 hczg_2 hczg_3 hczg_4);obtain ⟨hczg_0,hczg_1,hczg_2,hczg_3,hczg_4⟩:=cO5 BKg.out;clear hb) | (go_at_call 86;(with_reducible refine (ca_isHeight.calls a0_3 true _ H3.out).mono ?_);rintro e w1 ⟨rfl,hd⟩;have hb:=hd.below;clear hd;replace HR:=(cmv HR hb);replace HR2:=(cmv HR2 hb);replace HB:=(bmv HB hb);replace BKg:=(kmv hb BKg);(try clear hczg_0 hczg_1 hczg_2 hczg_3 hczg_4);obtain ⟨hczg_0,hczg_1,hczg_2,hczg_3,hczg_4⟩:=cO5 BKg.out;clear hb) | (go_at_call 79;(with_reducible refine (ca_in.calls aC 0 100 true _ H4.out).mono ?_);rintro e w1 ⟨rfl,hd⟩;have hb:=hd.below;clear hd;replace HR:=(cmv HR hb);replace HR2:=(cmv HR2 hb);replace HB:=(bmv HB hb);replace BKg:=(kmv hb BKg);(try clear hczg_0 hczg_1 hczg_2 hczg_3 hczg_4);obtain ⟨hczg_0,hczg_1,hczg_2,hczg_3,hczg_4⟩:=cO5 BKg.out;clear hb) | (go_at_call 104;refine (any_isBasin g (ca_isBasin_1.f lA) AY cB lB u _ HR2.out (fun x b W hx hq hb=>ca_isBasin_1.calls g AX c0_0 lA aA AY cB lB a0_3 aC x b W (zqp BKg.out hb) hq) H5.out).mono ?_;rintro e w1 ⟨rfl,hb⟩;replace HR:=(cmv HR hb);replace HR2:=(cmv HR2 hb);replace HB:=(bmv HB hb);replace BKg:=(kmv hb BKg);(try clear hczg_0 hczg_1 hczg_2 hczg_3 hczg_4);obtain ⟨hczg_0,hczg_1,hczg_2,hczg_3,hczg_4⟩:=cO5 BKg.out;clear hb))
    go_ret
    exact ⟨rfl,HB.out⟩
section
attribute [local go_sem] zwg zwf zwm zwl
def ca_isChain_1.f (lA : List (S126)) (aA : Int) (lB : List (S48)) (a0_3 : Int) (aC : Int) : Option (Bool):=(ca_isBasin.f lA aA lB a0_3 aC).bind fun t1079=>(some (!t1079))
theorem ca_isChain_1.calls (AX : Option Addr) (c0_0 : Nat) (lA : List (S126)) (aA : Int) (AY : Option Addr) (cB : Nat) (lB : List (S48)) (a0_3 : Int) (aC : Int) (r : Bool) (w : World) (hra : Kd.C k126 w AX lA.length lA) (hc0_0 : lA.length≤c0_0) (hrb : Kd.C k48 w AY lB.length lB) (hcb : lB.length≤cB) (h : ca_isChain_1.f lA aA lB a0_3 aC = some r) :
 Calls Tryz.prog 117 #[.agg #[.slice AX lA.length c0_0,.int .i64 aA,.slice AY lB.length cB,.int .i64 a0_3,.int .i64 aC]] w fun e w'=>e = .returned (.bool r)∧Below w.heap.size w w':=by
 have hu27:=Tryz.underlying27
 have HRA:=am hra
 have HCA:=am hc0_0
 clear hra hc0_0
 have HRB:=am hrb
 have HCB:=am hcb
 clear hrb hcb
 have HB:=am (Below.refl w.heap.size w)
 have H : ((ca_isBasin.f lA aA lB a0_3 aC).bind fun t1079=>(some (!t1079))) = some r:=h
 clear h
 replace H:=obm H
 obtain ⟨t1079,A20,H⟩:=H
 replace H : (some (!t1079)) = some r:=H
 have A2:=am A20
 clear A20
 obtain rfl:=Option.some.inj H
 go_enter Tryz.func117,Tryz.ntmps117
 go_wp2_with (first | ((refine zqm (N:=1) rfl ?_);refine zqk rfl (N:=1) rfl (cs:=#[.slice AX lA.length c0_0,.int .i64 aA,.slice AY lB.length cB,.int .i64 a0_3,.int .i64 aC]) (t:=27) ?hr ?_;(case hr=>go_simp;try rfl);intro gb1078 hg w3 hbox hb;have BK1078:=am (hbox);have GW1078:=am (zqr (HB.out) hg);have GE1078:=am (zqr (HB.out) hg);replace HB:=am (zqh (HB.out) hb);clear hb hbox hg;obtain ⟨hcz4_0,hcz4_1,hcz4_2,hcz4_3,hcz4_4⟩:=cO5 BK1078.out) | ((with_reducible refine zqq (f:=64) rfl ?_);refine zq8 (some 4) rfl rfl Tryz.func64 (by kernel_rfl) rfl #[.agg #[.slice AX lA.length c0_0,.int .i64 aA,.slice AY lB.length cB,.int .i64 a0_3,.int .i64 aC]] rfl (by (try simp only [List.map_toArray,List.map_cons,List.map_nil]);first | done | rfl | (simp only [List.length_drop,List.length_take];rfl)) ?_;(with_reducible refine (ca_isBasin.calls _ _ lA aA _ _ lB a0_3 aC t1079 _ ?side1 ?side2 ?side3 ?side4 A2.out).mono ?_);(case side1=>exact kC HRA.out HB.out);(case side2=>exact HCA.out);(case side3=>exact kC HRB.out HB.out);(case side4=>exact HCB.out);rintro e w5 ⟨rfl,hb⟩;refine ⟨_,rfl,?_⟩;replace BK1078:=(kmv hb BK1078);replace HB:=am (zqh (HB.out) hb);(try clear hb);(try clear hb2);(try clear hk);(try clear hi)))
 go_ret
 exact ⟨by first | rfl | (simp [*]<;>rfl),HB.out⟩
end
def zbr (q : S27→Option Bool) (w : World) (xs : List S27) : Prop:=∀ (x : S27) (b : Bool) (W : World) (A0 : Option Addr) (c0 : Nat) (A2 : Option Addr) (c2 : Nat) ,x ∈ xs→q x = some b→Below w.heap.size w W→k126.C W A0 x.f0.f0.length x.f0.f0→x.f0.f0.length≤c0→k48.C W A2 x.f1.length x.f1→x.f1.length≤c2→
 Calls Tryz.prog 117 #[.agg #[.slice A0 x.f0.f0.length c0,.int .i64 x.f0.f1,.slice A2 x.f1.length c2,.int .i64 x.f2,.int .i64 x.f3]] W fun e W'=>e = .returned (.bool b)∧Below W.heap.size W W'
theorem idx_isChain (q : S27→Option Bool) (A : Option Addr) (c : Nat) (xs : List S27) (r : Int) (w : World) (hr : Kd.C k27 w A xs.length xs) (hp : zbr q w xs) (h : idxM q xs 0 = some r) :
 Calls Tryz.prog 132 #[.slice A xs.length c,.func (.func 117) #[] #[]] w fun e w'=>e = .returned (.int .i64 r)∧Below w.heap.size w w':=by
 have huE:=Tryz.underlying27
 have HR:=am hr
 have HP:=am hp
 have HQ:=am (show idxM q (xs.drop (0 : Int).toNat) 0 = some r from h)
 have hm : xs.length≤9223372036854775807:=Kd.C_max hr
 clear hr hp h
 go_enter Tryz.func132,Tryz.ntmps132
 go_wp2
 go_loopw [5,8] (fun v5 v8 w'=>∃ i : Int,0≤i∧i≤xs.length∧v8 = .int .i64 i∧zqg (idxM q (xs.drop i.toNat) i = some r)∧zqg (Below w.heap.size w w')) (fun _ v8 _=>xs.length - (intOf v8).toNat)
 case atStart=>exact ⟨0,by omega,by omega,rfl,HQ,⟨Below.refl _ _⟩⟩
 case round =>
  clear HQ
  obtain ⟨i,p1,hi,rfl,HQ,HB⟩:=hrel
  by_cases hlt : i < (xs.length : Int)
  case neg =>
   go_wp2
   go_ret
   exact ⟨zwo (zbt (by omega) HQ.out),HB.out⟩
  obtain ⟨ad,A0,c0,A2,c2,e1,hx0,hx1,hx2,hx3,hx4,hl0,hC0,hl2,hC2⟩:=zvf HR.out i p1 hlt
  cases e1
  replace hx0:=(HB.out.cell (wbl hx0)).trans hx0
  replace hx1:=(HB.out.cell (wbl hx1)).trans hx1
  replace hx2:=(HB.out.cell (wbl hx2)).trans hx2
  replace hx3:=(HB.out.cell (wbl hx3)).trans hx3
  replace hx4:=(HB.out.cell (wbl hx4)).trans hx4
  rcases zjm z27 p1 hlt HQ.out with ⟨hq,he⟩ | ⟨hq,hn⟩
  ·have H1:=am hq
   have X1:=am (zw6 z27 p1 hlt)
   have H2:=am he
   clear hq he
   go_wp2_with (go_at_call 117;refine (HP.out (xs.getD i.toNat z27) _ _ _ _ _ _ X1.out H1.out HB.out (kC hC0 HB.out) hl0 (kC hC2 HB.out) hl2).mono ?_;rintro e W' ⟨rfl,hb⟩)
   go_ret
   exact ⟨zwo H2.out,zqu HB.out HB.out.size hb⟩
  ·have H1:=am hq
   have X1:=am (zw6 z27 p1 hlt)
   have H2:=am hn
   clear hq hn
   go_wp2_with (go_at_call 117;refine (HP.out (xs.getD i.toNat z27) _ _ _ _ _ _ X1.out H1.out HB.out (kC hC0 HB.out) hl0 (kC hC2 HB.out) hl2).mono ?_;rintro e W' ⟨rfl,hb⟩)
   go_roundw
   case rel=>exact ⟨i + 1,by omega,by omega,by go_num,H2,⟨zqu HB.out HB.out.size hb⟩⟩
   case measure=>simp [intOf];omega
theorem any_isChain (q : S27→Option Bool) (A : Option Addr) (c : Nat) (xs : List S27) (r : Bool) (w : World) (hr : Kd.C k27 w A xs.length xs) (hp : zbr q w xs) (h : anyM q xs = some r) :
 Calls Tryz.prog 116 #[.slice A xs.length c,.func (.func 117) #[] #[]] w fun e w'=>e = .returned (.bool r)∧Below w.heap.size w w':=by
 obtain ⟨j,hj,hd⟩:=zvq q xs 0 r (by omega) h
 have H1:=am hj
 have H2:=am hd
 have HR:=am hr
 have HP:=am hp
 clear hr hp h hj hd
 go_enter Tryz.func116,Tryz.ntmps116
 go_wp2_with (go_at_call 132;refine (idx_isChain q _ _ xs j _ HR.out HP.out H1.out).mono ?_;rintro e W' ⟨rfl,hb⟩)
 go_ret
 exact ⟨zv0 H2.out,hb⟩
def cf_isChain.f (l0 : List S27) : Option Bool:=anyM (fun x=>ca_isChain_1.f x.f0.f0 x.f0.f1 x.f1 x.f2 x.f3) l0
theorem cf_isChain.calls (A0 : Option Addr) (c0 : Nat) (l0 : List S27) (r : Bool) (w : World) (hr0 : Kd.C k27 w A0 l0.length l0) (hc0 : l0.length≤c0) (h : cf_isChain.f l0 = some r) :
 Calls Tryz.prog 116 #[.slice A0 l0.length c0,.func (.func 117) #[] #[]] w fun e w'=>e = .returned (.bool r)∧Below w.heap.size w w':=
 any_isChain (fun x=>ca_isChain_1.f x.f0.f0 x.f0.f1 x.f1 x.f2 x.f3) A0 c0 l0 r w hr0 (fun x b W A0 c0 A2 c2 hx hq hb h0 h1 h2 h3=>(ca_isChain_1.calls _ _ _ _ _ _ _ _ _ b W h0 h1 h2 h3 hq).mono fun e W' ⟨he,hd⟩=>⟨he,hd⟩) h
theorem zvs {P : Program} {ops : Array Oper} {o : Oper} {a : Act} {Q : Exit→Act→World→Prop} {rest : List Oper} {W : World} {v : Value} (Rr : World→Prop) (hgd : o.guard = none)
 (hrun : (execOp a.eval o).run P W = .ok (.value v) W) (hR : Rr W) (h : ∀ W',Rr W'→wpList P ops Q rest (a.put o.dst v) W') : wpList P ops Q (o :: rest) a W:=Kd.event_run hgd hrun (h W hR)
theorem mkmap_event {P : Program} {ops : Array Oper} {o : Oper} {a : Act} {Q : Exit→Act→World→Prop} {rest : List Oper} {W : World} (hgd : o.guard = none)
 (hrun : (execOp a.eval o).run P W = .ok (.value (.map (some W.heap.size))) (W.alloc (.map #[] 0)))
 (h : ∀ g,g = W.heap.size→∀ w1,w1.heap[g]? = some (.map #[] 0)→Below W.heap.size W w1→wpList P ops Q rest (a.put o.dst (.map (some g))) w1) : wpList P ops Q (o :: rest) a W:=Kd.event_run hgd hrun (h _ rfl _ (blk_new W _) (zqf (Below.refl _ _) _))
def zbc (lA : List S27) : List S66→Int→List S66→Option Bool
 | [],_,_=>some true
 | x :: rest,i,met=>if zw8 met x = true then some false else (ca_in.f x.f0 0 i).bind fun t=>if t = true then (if 0≤x.f0 then (if x.f0 < (lA.length : Int) then (ca_in.f x.f1 (-1) (wrap64 (((zqo lA x.f0).f1.length : Int) - 1))).bind fun u=>if u = true then zbc lA rest (i + 1) (met ++ [x]) else some false else none) else none) else some false
def ca_isChain.f (lA : List S27) (lC : List S66) : Option Bool:=
 (ca_in.f (lA.length : Int) 1 4).bind fun t=>if t = true then (if (lC.length : Int) = (lA.length : Int) - 1 then (cf_isChain.f lA).bind fun u=>if u = true then some false else zbc lA lC 0 [] else some false) else some false
theorem ca_isChain.calls (AX : Option Addr) (c0_0 : Nat) (lA : List S27) (AZ : Option Addr) (cC : Nat) (lC : List S66) (r : Bool) (w : World) (hra : Kd.C k27 w AX lA.length lA) (hc0_0 : lA.length≤c0_0) (hr0_1 : Kd.C k66 w AZ lC.length lC) (hc0_1 : lC.length≤cC) (h : ca_isChain.f lA lC = some r) :
 Calls Tryz.prog 80 #[.agg #[.slice AX lA.length c0_0,.slice AZ lC.length cC]] w fun e w'=>e = .returned (.bool r)∧Below w.heap.size w w':=by
 have hu:=Tryz.underlying59
 have huf:=Tryz.underlying66
 have hub:=Tryz.underlying27
 have hmm:=@run_makeMap Tryz.prog
 have hm0 : lA.length≤9223372036854775807:=Kd.C_max hra
 have hm1 : lC.length≤9223372036854775807:=Kd.C_max hr0_1
 have HR0:=zqg.mk hra
 have HC0:=zqg.mk hc0_0
 have HR1:=zqg.mk hr0_1
 have HC1:=zqg.mk hc0_1
 have HB:=zqg.mk (Below.refl w.heap.size w)
 clear hra hc0_0 hr0_1 hc0_1
 unfold ca_isChain.f at h
 obtain ⟨t,ht,h⟩:=obm h
 have H1:=zqg.mk ht
 clear ht
 cases t with
 | false =>
  rw [if_neg (by decide)] at h
  obtain rfl:=Option.some.inj h
  clear h
  go_enter Tryz.func80,Tryz.ntmps80
  go_wp2_with (first | ((with_reducible refine zqm (N:=1) rfl ?_);(try (refine zqs (by rfl) ?_;dsimp only));refine zqk ?hg (N:=1) ?hd (cs:=#[.slice AX lA.length c0_0,.slice AZ lC.length cC]) (t:=59) ?hr ?_;(case hd=>rfl);(case hg=>rfl);(case hr=>go_simp;try rfl);intro gc hg w1 hbox hb;have n_:=zqg.mk (zqu HB.out HB.out.size hb);clear HB;have HB:=n_;clear n_;clear hg;have BKgc:=zqg.mk hbox;clear hbox;(try clear hczgc_0 hfzgc_0);have hczgc_0 : w1.cell? ⟨gc,0,none⟩ = some (.slice AX lA.length c0_0):=(zqb BKgc.out 0).trans rfl;have hfzgc_0:=zqe BKgc.out 0;(try clear hczgc_1 hfzgc_1);have hczgc_1 : w1.cell? ⟨gc,1,none⟩ = some (.slice AZ lC.length cC):=(zqb BKgc.out 1).trans rfl;have hfzgc_1:=zqe BKgc.out 1;clear hb) | (go_at_call 79;(with_reducible refine (ca_in.calls (lA.length : Int) 1 4 false _ H1.out).mono ?_);rintro e w1 ⟨rfl,hd⟩;have hb:=hd.below;clear hd;have n_:=zqg.mk (zqu HB.out HB.out.size hb);clear HB;have HB:=n_;clear n_;have n_:=zqg.mk (zqp BKgc.out hb);clear BKgc;have BKgc:=n_;clear n_;(try clear hczgc_0 hfzgc_0);have hczgc_0 : w1.cell? ⟨gc,0,none⟩ = some (.slice AX lA.length c0_0):=(zqb BKgc.out 0).trans rfl;have hfzgc_0:=zqe BKgc.out 0;(try clear hczgc_1 hfzgc_1);have hczgc_1 : w1.cell? ⟨gc,1,none⟩ = some (.slice AZ lC.length cC):=(zqb BKgc.out 1).trans rfl;have hfzgc_1:=zqe BKgc.out 1;clear hb))
  go_ret
  exact ⟨rfl,HB.out⟩
 | true =>
  rw [if_pos rfl] at h
  by_cases hl : (lC.length : Int) = ((lA.length : Int) - 1)
  ·rw [if_pos hl] at h
   have b1 : ((lC.length : Int) != ((lA.length : Int) - 1)) = false:=by rw [← hl];simp
   have b2 : ((lC.length : Int) == ((lA.length : Int) - 1)) = true:=by rw [← hl];simp
   have HL:=zqg.mk hl
   clear hl
   obtain ⟨u,hu2,h⟩:=obm h
   have H2:=zqg.mk hu2
   clear hu2
   cases u with
   | true =>
    rw [if_pos rfl] at h
    obtain rfl:=Option.some.inj h
    clear h
    go_enter Tryz.func80,Tryz.ntmps80
    go_wp2_with (first | ((with_reducible refine zqm (N:=1) rfl ?_);(try (refine zqs (by rfl) ?_;dsimp only));refine zqk ?hg (N:=1) ?hd (cs:=#[.slice AX lA.length c0_0,.slice AZ lC.length cC]) (t:=59) ?hr ?_;(case hd=>rfl);(case hg=>rfl);(case hr=>go_simp;try rfl);intro gc hg w1 hbox hb;have n_:=zqg.mk (zqu HB.out HB.out.size hb);clear HB;have HB:=n_;clear n_;clear hg;have BKgc:=zqg.mk hbox;clear hbox;(try clear hczgc_0 hfzgc_0);have hczgc_0 : w1.cell? ⟨gc,0,none⟩ = some (.slice AX lA.length c0_0):=(zqb BKgc.out 0).trans rfl;have hfzgc_0:=zqe BKgc.out 0;(try clear hczgc_1 hfzgc_1);have hczgc_1 : w1.cell? ⟨gc,1,none⟩ = some (.slice AZ lC.length cC):=(zqb BKgc.out 1).trans rfl;have hfzgc_1:=zqe BKgc.out 1;clear hb) | (go_at_call 79;(with_reducible refine (ca_in.calls (lA.length : Int) 1 4 true _ H1.out).mono ?_);rintro e w1 ⟨rfl,hd⟩;have hb:=hd.below;clear hd;have n_:=zqg.mk (zqu HB.out HB.out.size hb);clear HB;have HB:=n_;clear n_;have n_:=zqg.mk (zqp BKgc.out hb);clear BKgc;have BKgc:=n_;clear n_;(try clear hczgc_0 hfzgc_0);have hczgc_0 : w1.cell? ⟨gc,0,none⟩ = some (.slice AX lA.length c0_0):=(zqb BKgc.out 0).trans rfl;have hfzgc_0:=zqe BKgc.out 0;(try clear hczgc_1 hfzgc_1);have hczgc_1 : w1.cell? ⟨gc,1,none⟩ = some (.slice AZ lC.length cC):=(zqb BKgc.out 1).trans rfl;have hfzgc_1:=zqe BKgc.out 1;clear hb) | (go_at_call 116;(with_reducible refine (cf_isChain.calls AX c0_0 lA true _ (kC HR0.out HB.out) HC0.out H2.out).mono ?_);rintro e wc ⟨rfl,hb⟩;have n_:=zqg.mk (zqu HB.out HB.out.size hb);clear HB;have HB:=n_;clear n_;have n_:=zqg.mk (zqp BKgc.out hb);clear BKgc;have BKgc:=n_;clear n_;(try clear hczgc_0 hfzgc_0);have hczgc_0 : wc.cell? ⟨gc,0,none⟩ = some (.slice AX lA.length c0_0):=(zqb BKgc.out 0).trans rfl;have hfzgc_0:=zqe BKgc.out 0;(try clear hczgc_1 hfzgc_1);have hczgc_1 : wc.cell? ⟨gc,1,none⟩ = some (.slice AZ lC.length cC):=(zqb BKgc.out 1).trans rfl;have hfzgc_1:=zqe BKgc.out 1;clear hb))
    go_ret
    exact ⟨rfl,HB.out⟩
   | false =>
    rw [if_neg (by decide)] at h
    have HQ:=zqg.mk h
    clear h
    go_enter Tryz.func80,Tryz.ntmps80
    go_wp2_with (first | ((with_reducible refine zqm (N:=1) rfl ?_);(try (refine zqs (by rfl) ?_;dsimp only));refine zqk ?hg (N:=1) ?hd (cs:=#[.slice AX lA.length c0_0,.slice AZ lC.length cC]) (t:=59) ?hr ?_;(case hd=>rfl);(case hg=>rfl);(case hr=>go_simp;try rfl);intro gc hg w1 hbox hb;have n_:=zqg.mk (zqu HB.out HB.out.size hb);clear HB;have HB:=n_;clear n_;clear hg;have BKgc:=zqg.mk hbox;clear hbox;(try clear hczgc_0 hfzgc_0);have hczgc_0 : w1.cell? ⟨gc,0,none⟩ = some (.slice AX lA.length c0_0):=(zqb BKgc.out 0).trans rfl;have hfzgc_0:=zqe BKgc.out 0;(try clear hczgc_1 hfzgc_1);have hczgc_1 : w1.cell? ⟨gc,1,none⟩ = some (.slice AZ lC.length cC):=(zqb BKgc.out 1).trans rfl;have hfzgc_1:=zqe BKgc.out 1;clear hb) | (go_at_call 79;(with_reducible refine (ca_in.calls (lA.length : Int) 1 4 true _ H1.out).mono ?_);rintro e w1 ⟨rfl,hd⟩;have hb:=hd.below;clear hd;have n_:=zqg.mk (zqu HB.out HB.out.size hb);clear HB;have HB:=n_;clear n_;have n_:=zqg.mk (zqp BKgc.out hb);clear BKgc;have BKgc:=n_;clear n_;(try clear hczgc_0 hfzgc_0);have hczgc_0 : w1.cell? ⟨gc,0,none⟩ = some (.slice AX lA.length c0_0):=(zqb BKgc.out 0).trans rfl;have hfzgc_0:=zqe BKgc.out 0;(try clear hczgc_1 hfzgc_1);have hczgc_1 : w1.cell? ⟨gc,1,none⟩ = some (.slice AZ lC.length cC):=(zqb BKgc.out 1).trans rfl;have hfzgc_1:=zqe BKgc.out 1;clear hb) | (go_at_call 116;(with_reducible refine (cf_isChain.calls AX c0_0 lA false _ (kC HR0.out HB.out) HC0.out H2.out).mono ?_);rintro e wc ⟨rfl,hb⟩;have n_:=zqg.mk (zqu HB.out HB.out.size hb);clear HB;have HB:=n_;clear n_;have n_:=zqg.mk (zqp BKgc.out hb);clear BKgc;have BKgc:=n_;clear n_;(try clear hczgc_0 hfzgc_0);have hczgc_0 : wc.cell? ⟨gc,0,none⟩ = some (.slice AX lA.length c0_0):=(zqb BKgc.out 0).trans rfl;have hfzgc_0:=zqe BKgc.out 0;(try clear hczgc_1 hfzgc_1);have hczgc_1 : wc.cell? ⟨gc,1,none⟩ = some (.slice AZ lC.length cC):=(zqb BKgc.out 1).trans rfl;have hfzgc_1:=zqe BKgc.out 1;clear hb) | ((with_reducible refine zqm (N:=28) rfl ?_);refine mkmap_event ?hg ?hr ?_;(case hg=>rfl);(case hr=>go_simp;try rfl);intro gm hgm wm hmap hb;have HNgc_gm:=zqg.mk (show gc ≠ gm by have:=zq7 BKgc.out;omega);have HGm:=zqg.mk (show w.heap.size≤gm by have:=HB.out.size;omega);have n_:=zqg.mk (zqp BKgc.out hb);have m_:=zqg.mk (zqu HB.out HB.out.size hb);(try clear hczgc_0 hczgc_1 hfzgc_0 hfzgc_1);(try clear hczgf_0 hczgf_1 hfzgf_0 hfzgf_1);clear hgm hb BKgc HB;have BKgc:=n_;have HB:=m_;clear n_ m_;have BKm:=zqg.mk hmap;clear hmap;have hczgc_0 : wm.cell? ⟨gc,0,none⟩ = some (.slice AX lA.length c0_0):=(zqb BKgc.out 0).trans rfl;have hczgc_1 : wm.cell? ⟨gc,1,none⟩ = some (.slice AZ lC.length cC):=(zqb BKgc.out 1).trans rfl))
    go_loopw [32] (fun v32 w'=>∃ i : Int,0≤i∧i≤lC.length∧v32 = .int .i64 i∧zqg (zbc lA (lC.drop i.toNat) i (lC.take i.toNat) = some r)∧zqg (Below w.heap.size w w')∧zqg (w'.heap[gc]? = some (.cells #[.slice AX lA.length c0_0,.slice AZ lC.length cC] 59 (0,0)))∧zqg (w'.heap[gm]? = some (.map (ents (lC.take i.toNat)).toArray (lC.take i.toNat).length))) (fun v32 _=>lC.length - (intOf v32).toNat)
    case atStart=>exact ⟨0,by omega,by omega,rfl,HQ,HB,BKgc,BKm⟩
    case round =>
     clear HQ HB BKgc BKm
     obtain ⟨i,p1,hi,rfl,HQ,HB,BKgc,BKm⟩:=hrel
     by_cases hlt : i < (lC.length : Int)
     ·obtain ⟨ad,e1,hx0,hx1⟩:=zg5 HR1.out i p1 hlt
      cases e1
      replace hx0:=(HB.out.cell (wbl hx0)).trans hx0
      replace hx1:=(HB.out.cell (wbl hx1)).trans hx1
      have hq:=HQ.out
      rw [zx7 z66 lC i p1 hlt,show lC.getD i.toNat z66 = zqc lC i from rfl] at hq
      simp only [zbc] at hq
      have HT:=zqg.mk (show lC.take (i + 1).toNat = lC.take i.toNat ++ [zqc lC i] by rw [show (i + 1).toNat = i.toNat + 1 by omega,List.take_succ_eq_append_getElem (by omega)];unfold zqc;rw [List.getD_eq_getElem?_getD,List.getElem?_eq_getElem (show i.toNat < lC.length by omega)];rfl)
      generalize zqc lC i = fx at *
      generalize hmet : lC.take i.toNat = met at *
      have HM:=zqg.mk hmet
      clear hmet HQ
      have hczgc_0 : wr.cell? ⟨gc,0,none⟩ = some (.slice AX lA.length c0_0):=(zqb BKgc.out 0).trans rfl
      have hczgc_1 : wr.cell? ⟨gc,1,none⟩ = some (.slice (some ad) lC.length cC):=(zqb BKgc.out 1).trans rfl
      cases hhas : zw8 met fx with
      | true =>
       rw [hhas,if_pos rfl] at hq
       obtain rfl:=Option.some.inj hq
       have H3:=zqg.mk hhas
       clear hq hhas
       go_wp2_with (first | ((with_reducible refine zqm (N:=5) rfl ?_);refine zqk ?hg (N:=5) ?hd (cs:=#[.int .i64 0,.int .i64 0]) (t:=66) ?hr ?_;(case hd=>rfl);(case hg=>rfl);(case hr=>go_simp;try rfl);intro gf hg w2 hbox hb;have HNgf:=zqg.mk (show gm ≠ gf by have:=zq7 BKm.out;omega);have HNgc:=zqg.mk (show gc ≠ gf by have:=zq7 BKgc.out;omega);have HGf:=zqg.mk (show w.heap.size≤gf by have:=HB.out.size;omega);have n1:=zqg.mk (zqp BKgc.out hb);have n2:=zqg.mk (zqp BKm.out hb);have n3:=zqg.mk (zqu HB.out HB.out.size hb);(try clear hczgc_0 hczgc_1 hfzgc_0 hfzgc_1);(try clear hczgf_0 hczgf_1 hfzgf_0 hfzgf_1);clear hg hb BKgc BKm HB;have BKgc:=n1;have BKm:=n2;have HB:=n3;clear n1 n2 n3;have BKgf:=zqg.mk hbox;clear hbox;have hczgc_0 : w2.cell? ⟨gc,0,none⟩ = some (.slice AX lA.length c0_0):=(zqb BKgc.out 0).trans rfl;have hczgc_1 : w2.cell? ⟨gc,1,none⟩ = some (.slice (some ad) lC.length cC):=(zqb BKgc.out 1).trans rfl;have hczgf_0 : w2.cell? ⟨gf,0,none⟩ = some (.int .i64 0):=(zqb BKgf.out 0).trans rfl;have hczgf_1 : w2.cell? ⟨gf,1,none⟩ = some (.int .i64 0):=(zqb BKgf.out 1).trans rfl;have hfzgf_0:=zqe BKgf.out 0;have hfzgf_1:=zqe BKgf.out 1) | ((with_reducible refine zqm (N:=40) rfl ?_);refine zvs (v:=.tuple #[.agg #[],.bool true]) (fun W'=>W'.heap[gf]? = some (.cells #[.int .i64 fx.f0,.int .i64 fx.f1] 66 (0,0))∧W'.heap[gc]? = some (.cells #[.slice AX lA.length c0_0,.slice (some ad) lC.length cC] 59 (0,0))∧W'.heap[gm]? = some (.map (ents met).toArray met.length)∧Below w.heap.size w W') ?hg ?hr ⟨(zwa (zwa BKgf.out 0 _) 1 _).trans rfl,(zqz (p:=⟨gf,1,none⟩) (zqz (p:=⟨gf,0,none⟩) BKgc.out HNgc.out (.int .i64 fx.f0)) HNgc.out (.int .i64 fx.f1)),(zqz (p:=⟨gf,1,none⟩) (zqz (p:=⟨gf,0,none⟩) BKm.out HNgf.out (.int .i64 fx.f0)) HNgf.out (.int .i64 fx.f1)),zqd (zqd HB.out HGf.out) HGf.out⟩ ?_;(case hg=>rfl);(case hr=>(have hl:=lookE _ gm met _ fx (zqz (p:=⟨gf,1,none⟩) (zqz (p:=⟨gf,0,none⟩) BKm.out HNgf.out (.int .i64 fx.f0)) HNgf.out (.int .i64 fx.f1)));(try rw [H3.out] at hl);first | (go_simp;done) | (go_simp;rfl));rintro w4 ⟨k1,k2,k3,k4⟩;(try clear hczgc_0 hczgc_1 hfzgc_0 hfzgc_1);(try clear hczgf_0 hczgf_1 hfzgf_0 hfzgf_1);clear BKgf BKgc BKm HB;have BKgf:=zqg.mk k1;have BKgc:=zqg.mk k2;have BKm:=zqg.mk k3;have HB:=zqg.mk k4;clear k1 k2 k3 k4;have hczgc_0 : w4.cell? ⟨gc,0,none⟩ = some (.slice AX lA.length c0_0):=(zqb BKgc.out 0).trans rfl;have hczgc_1 : w4.cell? ⟨gc,1,none⟩ = some (.slice (some ad) lC.length cC):=(zqb BKgc.out 1).trans rfl;have hczgf_0 : w4.cell? ⟨gf,0,none⟩ = some (.int .i64 fx.f0):=(zqb BKgf.out 0).trans rfl;have hczgf_1 : w4.cell? ⟨gf,1,none⟩ = some (.int .i64 fx.f1):=(zqb BKgf.out 1).trans rfl) | ((with_reducible refine zqm (N:=6) rfl ?_);refine zqk ?hg (N:=6) ?hd (cs:=#[]) (t:=149) ?hr ?_;(case hd=>rfl);(case hg=>rfl);(case hr=>go_simp;try rfl);intro gu hg w5 hbox hb;have n1:=zqg.mk (zqp BKgc.out hb);have n2:=zqg.mk (zqp BKm.out hb);have n3:=zqg.mk (zqu HB.out HB.out.size hb);have n4:=zqg.mk (zqp BKgf.out hb);(try clear hczgc_0 hczgc_1 hfzgc_0 hfzgc_1);(try clear hczgf_0 hczgf_1 hfzgf_0 hfzgf_1);clear hg hb hbox BKgc BKm HB BKgf;have BKgc:=n1;have BKm:=n2;have HB:=n3;have BKgf:=n4;clear n1 n2 n3 n4;have hczgc_0 : w5.cell? ⟨gc,0,none⟩ = some (.slice AX lA.length c0_0):=(zqb BKgc.out 0).trans rfl;have hczgc_1 : w5.cell? ⟨gc,1,none⟩ = some (.slice (some ad) lC.length cC):=(zqb BKgc.out 1).trans rfl;have hczgf_0 : w5.cell? ⟨gf,0,none⟩ = some (.int .i64 fx.f0):=(zqb BKgf.out 0).trans rfl;have hczgf_1 : w5.cell? ⟨gf,1,none⟩ = some (.int .i64 fx.f1):=(zqb BKgf.out 1).trans rfl;skip))
       go_quiet (fail)
       try go_wp2_with (first | ((with_reducible refine zqm (N:=5) rfl ?_);refine zqk ?hg (N:=5) ?hd (cs:=#[.int .i64 0,.int .i64 0]) (t:=66) ?hr ?_;(case hd=>rfl);(case hg=>rfl);(case hr=>go_simp;try rfl);intro gf hg w2 hbox hb;have HNgf:=zqg.mk (show gm ≠ gf by have:=zq7 BKm.out;omega);have HNgc:=zqg.mk (show gc ≠ gf by have:=zq7 BKgc.out;omega);have HGf:=zqg.mk (show w.heap.size≤gf by have:=HB.out.size;omega);have n1:=zqg.mk (zqp BKgc.out hb);have n2:=zqg.mk (zqp BKm.out hb);have n3:=zqg.mk (zqu HB.out HB.out.size hb);(try clear hczgc_0 hczgc_1 hfzgc_0 hfzgc_1);(try clear hczgf_0 hczgf_1 hfzgf_0 hfzgf_1);clear hg hb BKgc BKm HB;have BKgc:=n1;have BKm:=n2;have HB:=n3;clear n1 n2 n3;have BKgf:=zqg.mk hbox;clear hbox;have hczgc_0 : w2.cell? ⟨gc,0,none⟩ = some (.slice AX lA.length c0_0):=(zqb BKgc.out 0).trans rfl;have hczgc_1 : w2.cell? ⟨gc,1,none⟩ = some (.slice (some ad) lC.length cC):=(zqb BKgc.out 1).trans rfl;have hczgf_0 : w2.cell? ⟨gf,0,none⟩ = some (.int .i64 0):=(zqb BKgf.out 0).trans rfl;have hczgf_1 : w2.cell? ⟨gf,1,none⟩ = some (.int .i64 0):=(zqb BKgf.out 1).trans rfl;have hfzgf_0:=zqe BKgf.out 0;have hfzgf_1:=zqe BKgf.out 1) | ((with_reducible refine zqm (N:=40) rfl ?_);refine zvs (v:=.tuple #[.agg #[],.bool true]) (fun W'=>W'.heap[gf]? = some (.cells #[.int .i64 fx.f0,.int .i64 fx.f1] 66 (0,0))∧W'.heap[gc]? = some (.cells #[.slice AX lA.length c0_0,.slice (some ad) lC.length cC] 59 (0,0))∧W'.heap[gm]? = some (.map (ents met).toArray met.length)∧Below w.heap.size w W') ?hg ?hr ⟨(zwa (zwa BKgf.out 0 _) 1 _).trans rfl,(zqz (p:=⟨gf,1,none⟩) (zqz (p:=⟨gf,0,none⟩) BKgc.out HNgc.out (.int .i64 fx.f0)) HNgc.out (.int .i64 fx.f1)),(zqz (p:=⟨gf,1,none⟩) (zqz (p:=⟨gf,0,none⟩) BKm.out HNgf.out (.int .i64 fx.f0)) HNgf.out (.int .i64 fx.f1)),zqd (zqd HB.out HGf.out) HGf.out⟩ ?_;(case hg=>rfl);(case hr=>(have hl:=lookE _ gm met _ fx (zqz (p:=⟨gf,1,none⟩) (zqz (p:=⟨gf,0,none⟩) BKm.out HNgf.out (.int .i64 fx.f0)) HNgf.out (.int .i64 fx.f1)));(try rw [H3.out] at hl);first | (go_simp;done) | (go_simp;rfl));rintro w4 ⟨k1,k2,k3,k4⟩;(try clear hczgc_0 hczgc_1 hfzgc_0 hfzgc_1);(try clear hczgf_0 hczgf_1 hfzgf_0 hfzgf_1);clear BKgf BKgc BKm HB;have BKgf:=zqg.mk k1;have BKgc:=zqg.mk k2;have BKm:=zqg.mk k3;have HB:=zqg.mk k4;clear k1 k2 k3 k4;have hczgc_0 : w4.cell? ⟨gc,0,none⟩ = some (.slice AX lA.length c0_0):=(zqb BKgc.out 0).trans rfl;have hczgc_1 : w4.cell? ⟨gc,1,none⟩ = some (.slice (some ad) lC.length cC):=(zqb BKgc.out 1).trans rfl;have hczgf_0 : w4.cell? ⟨gf,0,none⟩ = some (.int .i64 fx.f0):=(zqb BKgf.out 0).trans rfl;have hczgf_1 : w4.cell? ⟨gf,1,none⟩ = some (.int .i64 fx.f1):=(zqb BKgf.out 1).trans rfl) | ((with_reducible refine zqm (N:=6) rfl ?_);refine zqk ?hg (N:=6) ?hd (cs:=#[]) (t:=149) ?hr ?_;(case hd=>rfl);(case hg=>rfl);(case hr=>go_simp;try rfl);intro gu hg w5 hbox hb;have n1:=zqg.mk (zqp BKgc.out hb);have n2:=zqg.mk (zqp BKm.out hb);have n3:=zqg.mk (zqu HB.out HB.out.size hb);have n4:=zqg.mk (zqp BKgf.out hb);(try clear hczgc_0 hczgc_1 hfzgc_0 hfzgc_1);(try clear hczgf_0 hczgf_1 hfzgf_0 hfzgf_1);clear hg hb hbox BKgc BKm HB BKgf;have BKgc:=n1;have BKm:=n2;have HB:=n3;have BKgf:=n4;clear n1 n2 n3 n4;have hczgc_0 : w5.cell? ⟨gc,0,none⟩ = some (.slice AX lA.length c0_0):=(zqb BKgc.out 0).trans rfl;have hczgc_1 : w5.cell? ⟨gc,1,none⟩ = some (.slice (some ad) lC.length cC):=(zqb BKgc.out 1).trans rfl;have hczgf_0 : w5.cell? ⟨gf,0,none⟩ = some (.int .i64 fx.f0):=(zqb BKgf.out 0).trans rfl;have hczgf_1 : w5.cell? ⟨gf,1,none⟩ = some (.int .i64 fx.f1):=(zqb BKgf.out 1).trans rfl;skip))
       go_ret
       exact ⟨rfl,zqa HB.out _⟩
      | false =>
       rw [hhas,if_neg (by decide)] at hq
       have H3:=zqg.mk hhas
       clear hhas
       obtain ⟨t4,ht,hq⟩:=obm hq
       have H4:=zqg.mk ht
       clear ht
       cases t4 with
       | false =>
        rw [if_neg (by decide)] at hq
        obtain rfl:=Option.some.inj hq
        clear hq
        go_wp2_with (first | ((with_reducible refine zqm (N:=5) rfl ?_);refine zqk ?hg (N:=5) ?hd (cs:=#[.int .i64 0,.int .i64 0]) (t:=66) ?hr ?_;(case hd=>rfl);(case hg=>rfl);(case hr=>go_simp;try rfl);intro gf hg w2 hbox hb;have HNgf:=zqg.mk (show gm ≠ gf by have:=zq7 BKm.out;omega);have HNgc:=zqg.mk (show gc ≠ gf by have:=zq7 BKgc.out;omega);have HGf:=zqg.mk (show w.heap.size≤gf by have:=HB.out.size;omega);have n1:=zqg.mk (zqp BKgc.out hb);have n2:=zqg.mk (zqp BKm.out hb);have n3:=zqg.mk (zqu HB.out HB.out.size hb);(try clear hczgc_0 hczgc_1 hfzgc_0 hfzgc_1);(try clear hczgf_0 hczgf_1 hfzgf_0 hfzgf_1);clear hg hb BKgc BKm HB;have BKgc:=n1;have BKm:=n2;have HB:=n3;clear n1 n2 n3;have BKgf:=zqg.mk hbox;clear hbox;have hczgc_0 : w2.cell? ⟨gc,0,none⟩ = some (.slice AX lA.length c0_0):=(zqb BKgc.out 0).trans rfl;have hczgc_1 : w2.cell? ⟨gc,1,none⟩ = some (.slice (some ad) lC.length cC):=(zqb BKgc.out 1).trans rfl;have hczgf_0 : w2.cell? ⟨gf,0,none⟩ = some (.int .i64 0):=(zqb BKgf.out 0).trans rfl;have hczgf_1 : w2.cell? ⟨gf,1,none⟩ = some (.int .i64 0):=(zqb BKgf.out 1).trans rfl;have hfzgf_0:=zqe BKgf.out 0;have hfzgf_1:=zqe BKgf.out 1) | ((with_reducible refine zqm (N:=40) rfl ?_);refine zvs (v:=.tuple #[.agg #[],.bool false]) (fun W'=>W'.heap[gf]? = some (.cells #[.int .i64 fx.f0,.int .i64 fx.f1] 66 (0,0))∧W'.heap[gc]? = some (.cells #[.slice AX lA.length c0_0,.slice (some ad) lC.length cC] 59 (0,0))∧W'.heap[gm]? = some (.map (ents met).toArray met.length)∧Below w.heap.size w W') ?hg ?hr ⟨(zwa (zwa BKgf.out 0 _) 1 _).trans rfl,(zqz (p:=⟨gf,1,none⟩) (zqz (p:=⟨gf,0,none⟩) BKgc.out HNgc.out (.int .i64 fx.f0)) HNgc.out (.int .i64 fx.f1)),(zqz (p:=⟨gf,1,none⟩) (zqz (p:=⟨gf,0,none⟩) BKm.out HNgf.out (.int .i64 fx.f0)) HNgf.out (.int .i64 fx.f1)),zqd (zqd HB.out HGf.out) HGf.out⟩ ?_;(case hg=>rfl);(case hr=>(have hl:=lookE _ gm met _ fx (zqz (p:=⟨gf,1,none⟩) (zqz (p:=⟨gf,0,none⟩) BKm.out HNgf.out (.int .i64 fx.f0)) HNgf.out (.int .i64 fx.f1)));(try rw [H3.out] at hl);first | (go_simp;done) | (go_simp;rfl));rintro w4 ⟨k1,k2,k3,k4⟩;(try clear hczgc_0 hczgc_1 hfzgc_0 hfzgc_1);(try clear hczgf_0 hczgf_1 hfzgf_0 hfzgf_1);clear BKgf BKgc BKm HB;have BKgf:=zqg.mk k1;have BKgc:=zqg.mk k2;have BKm:=zqg.mk k3;have HB:=zqg.mk k4;clear k1 k2 k3 k4;have hczgc_0 : w4.cell? ⟨gc,0,none⟩ = some (.slice AX lA.length c0_0):=(zqb BKgc.out 0).trans rfl;have hczgc_1 : w4.cell? ⟨gc,1,none⟩ = some (.slice (some ad) lC.length cC):=(zqb BKgc.out 1).trans rfl;have hczgf_0 : w4.cell? ⟨gf,0,none⟩ = some (.int .i64 fx.f0):=(zqb BKgf.out 0).trans rfl;have hczgf_1 : w4.cell? ⟨gf,1,none⟩ = some (.int .i64 fx.f1):=(zqb BKgf.out 1).trans rfl) | ((with_reducible refine zqm (N:=6) rfl ?_);refine zqk ?hg (N:=6) ?hd (cs:=#[]) (t:=149) ?hr ?_;(case hd=>rfl);(case hg=>rfl);(case hr=>go_simp;try rfl);intro gu hg w5 hbox hb;have n1:=zqg.mk (zqp BKgc.out hb);have n2:=zqg.mk (zqp BKm.out hb);have n3:=zqg.mk (zqu HB.out HB.out.size hb);have n4:=zqg.mk (zqp BKgf.out hb);(try clear hczgc_0 hczgc_1 hfzgc_0 hfzgc_1);(try clear hczgf_0 hczgf_1 hfzgf_0 hfzgf_1);clear hg hb hbox BKgc BKm HB BKgf;have BKgc:=n1;have BKm:=n2;have HB:=n3;have BKgf:=n4;clear n1 n2 n3 n4;have hczgc_0 : w5.cell? ⟨gc,0,none⟩ = some (.slice AX lA.length c0_0):=(zqb BKgc.out 0).trans rfl;have hczgc_1 : w5.cell? ⟨gc,1,none⟩ = some (.slice (some ad) lC.length cC):=(zqb BKgc.out 1).trans rfl;have hczgf_0 : w5.cell? ⟨gf,0,none⟩ = some (.int .i64 fx.f0):=(zqb BKgf.out 0).trans rfl;have hczgf_1 : w5.cell? ⟨gf,1,none⟩ = some (.int .i64 fx.f1):=(zqb BKgf.out 1).trans rfl;skip) | (go_at_call 79;(with_reducible refine (ca_in.calls fx.f0 0 i false _ H4.out).mono ?_);rintro e w' ⟨rfl,⟨nd,rfl⟩⟩;(try first | exact ⟨rfl,_,World.drewN_drewN _ _ _⟩ | exact ⟨rfl,_,Eq.trans (World.drewN_drewN _ _ _) (congrArg (World.drewN _) (Nat.add_assoc _ _ _))⟩)))
        go_quiet ((go_at_call 79;(with_reducible refine (ca_in.calls fx.f0 0 i false _ H4.out).mono ?_);rintro e w' ⟨rfl,⟨nd,rfl⟩⟩;(try first | exact ⟨rfl,_,World.drewN_drewN _ _ _⟩ | exact ⟨rfl,_,Eq.trans (World.drewN_drewN _ _ _) (congrArg (World.drewN _) (Nat.add_assoc _ _ _))⟩)))
        try go_wp2_with (first | ((with_reducible refine zqm (N:=5) rfl ?_);refine zqk ?hg (N:=5) ?hd (cs:=#[.int .i64 0,.int .i64 0]) (t:=66) ?hr ?_;(case hd=>rfl);(case hg=>rfl);(case hr=>go_simp;try rfl);intro gf hg w2 hbox hb;have HNgf:=zqg.mk (show gm ≠ gf by have:=zq7 BKm.out;omega);have HNgc:=zqg.mk (show gc ≠ gf by have:=zq7 BKgc.out;omega);have HGf:=zqg.mk (show w.heap.size≤gf by have:=HB.out.size;omega);have n1:=zqg.mk (zqp BKgc.out hb);have n2:=zqg.mk (zqp BKm.out hb);have n3:=zqg.mk (zqu HB.out HB.out.size hb);(try clear hczgc_0 hczgc_1 hfzgc_0 hfzgc_1);(try clear hczgf_0 hczgf_1 hfzgf_0 hfzgf_1);clear hg hb BKgc BKm HB;have BKgc:=n1;have BKm:=n2;have HB:=n3;clear n1 n2 n3;have BKgf:=zqg.mk hbox;clear hbox;have hczgc_0 : w2.cell? ⟨gc,0,none⟩ = some (.slice AX lA.length c0_0):=(zqb BKgc.out 0).trans rfl;have hczgc_1 : w2.cell? ⟨gc,1,none⟩ = some (.slice (some ad) lC.length cC):=(zqb BKgc.out 1).trans rfl;have hczgf_0 : w2.cell? ⟨gf,0,none⟩ = some (.int .i64 0):=(zqb BKgf.out 0).trans rfl;have hczgf_1 : w2.cell? ⟨gf,1,none⟩ = some (.int .i64 0):=(zqb BKgf.out 1).trans rfl;have hfzgf_0:=zqe BKgf.out 0;have hfzgf_1:=zqe BKgf.out 1) | ((with_reducible refine zqm (N:=40) rfl ?_);refine zvs (v:=.tuple #[.agg #[],.bool false]) (fun W'=>W'.heap[gf]? = some (.cells #[.int .i64 fx.f0,.int .i64 fx.f1] 66 (0,0))∧W'.heap[gc]? = some (.cells #[.slice AX lA.length c0_0,.slice (some ad) lC.length cC] 59 (0,0))∧W'.heap[gm]? = some (.map (ents met).toArray met.length)∧Below w.heap.size w W') ?hg ?hr ⟨(zwa (zwa BKgf.out 0 _) 1 _).trans rfl,(zqz (p:=⟨gf,1,none⟩) (zqz (p:=⟨gf,0,none⟩) BKgc.out HNgc.out (.int .i64 fx.f0)) HNgc.out (.int .i64 fx.f1)),(zqz (p:=⟨gf,1,none⟩) (zqz (p:=⟨gf,0,none⟩) BKm.out HNgf.out (.int .i64 fx.f0)) HNgf.out (.int .i64 fx.f1)),zqd (zqd HB.out HGf.out) HGf.out⟩ ?_;(case hg=>rfl);(case hr=>(have hl:=lookE _ gm met _ fx (zqz (p:=⟨gf,1,none⟩) (zqz (p:=⟨gf,0,none⟩) BKm.out HNgf.out (.int .i64 fx.f0)) HNgf.out (.int .i64 fx.f1)));(try rw [H3.out] at hl);first | (go_simp;done) | (go_simp;rfl));rintro w4 ⟨k1,k2,k3,k4⟩;(try clear hczgc_0 hczgc_1 hfzgc_0 hfzgc_1);(try clear hczgf_0 hczgf_1 hfzgf_0 hfzgf_1);clear BKgf BKgc BKm HB;have BKgf:=zqg.mk k1;have BKgc:=zqg.mk k2;have BKm:=zqg.mk k3;have HB:=zqg.mk k4;clear k1 k2 k3 k4;have hczgc_0 : w4.cell? ⟨gc,0,none⟩ = some (.slice AX lA.length c0_0):=(zqb BKgc.out 0).trans rfl;have hczgc_1 : w4.cell? ⟨gc,1,none⟩ = some (.slice (some ad) lC.length cC):=(zqb BKgc.out 1).trans rfl;have hczgf_0 : w4.cell? ⟨gf,0,none⟩ = some (.int .i64 fx.f0):=(zqb BKgf.out 0).trans rfl;have hczgf_1 : w4.cell? ⟨gf,1,none⟩ = some (.int .i64 fx.f1):=(zqb BKgf.out 1).trans rfl) | ((with_reducible refine zqm (N:=6) rfl ?_);refine zqk ?hg (N:=6) ?hd (cs:=#[]) (t:=149) ?hr ?_;(case hd=>rfl);(case hg=>rfl);(case hr=>go_simp;try rfl);intro gu hg w5 hbox hb;have n1:=zqg.mk (zqp BKgc.out hb);have n2:=zqg.mk (zqp BKm.out hb);have n3:=zqg.mk (zqu HB.out HB.out.size hb);have n4:=zqg.mk (zqp BKgf.out hb);(try clear hczgc_0 hczgc_1 hfzgc_0 hfzgc_1);(try clear hczgf_0 hczgf_1 hfzgf_0 hfzgf_1);clear hg hb hbox BKgc BKm HB BKgf;have BKgc:=n1;have BKm:=n2;have HB:=n3;have BKgf:=n4;clear n1 n2 n3 n4;have hczgc_0 : w5.cell? ⟨gc,0,none⟩ = some (.slice AX lA.length c0_0):=(zqb BKgc.out 0).trans rfl;have hczgc_1 : w5.cell? ⟨gc,1,none⟩ = some (.slice (some ad) lC.length cC):=(zqb BKgc.out 1).trans rfl;have hczgf_0 : w5.cell? ⟨gf,0,none⟩ = some (.int .i64 fx.f0):=(zqb BKgf.out 0).trans rfl;have hczgf_1 : w5.cell? ⟨gf,1,none⟩ = some (.int .i64 fx.f1):=(zqb BKgf.out 1).trans rfl;skip) | (go_at_call 79;(with_reducible refine (ca_in.calls fx.f0 0 i false _ H4.out).mono ?_);rintro e w' ⟨rfl,⟨nd,rfl⟩⟩;(try first | exact ⟨rfl,_,World.drewN_drewN _ _ _⟩ | exact ⟨rfl,_,Eq.trans (World.drewN_drewN _ _ _) (congrArg (World.drewN _) (Nat.add_assoc _ _ _))⟩)))
        go_ret
        exact ⟨rfl,zqa HB.out _⟩
       | true =>
        rw [if_pos rfl] at hq
        by_cases q0 : 0≤fx.f0
        ·rw [if_pos q0] at hq
         by_cases q1 : fx.f0 < (lA.length : Int)
         ·rw [if_pos q1] at hq
          obtain ⟨adb,A0,c0,A2,c2,eb,hy0,hy1,hy2,hy3,hy4,g1,g2,g3,g4⟩:=zvf HR0.out fx.f0 q0 q1
          cases eb
          have HY:=zqg.mk hy2
          clear hy0 hy1 hy2 hy3 hy4 g1 g2 g3 g4
          obtain ⟨t5,ht,hq⟩:=obm hq
          have H5:=zqg.mk ht
          clear ht
          cases t5 with
          | false =>
           rw [if_neg (by decide)] at hq
           obtain rfl:=Option.some.inj hq
           clear hq
           go_wp2_with (first | ((with_reducible refine zqm (N:=5) rfl ?_);refine zqk ?hg (N:=5) ?hd (cs:=#[.int .i64 0,.int .i64 0]) (t:=66) ?hr ?_;(case hd=>rfl);(case hg=>rfl);(case hr=>go_simp;try rfl);intro gf hg w2 hbox hb;have HNgf:=zqg.mk (show gm ≠ gf by have:=zq7 BKm.out;omega);have HNgc:=zqg.mk (show gc ≠ gf by have:=zq7 BKgc.out;omega);have HGf:=zqg.mk (show w.heap.size≤gf by have:=HB.out.size;omega);have n1:=zqg.mk (zqp BKgc.out hb);have n2:=zqg.mk (zqp BKm.out hb);have n3:=zqg.mk (zqu HB.out HB.out.size hb);(try clear hczgc_0 hczgc_1 hfzgc_0 hfzgc_1);(try clear hczgf_0 hczgf_1 hfzgf_0 hfzgf_1);clear hg hb BKgc BKm HB;have BKgc:=n1;have BKm:=n2;have HB:=n3;clear n1 n2 n3;have BKgf:=zqg.mk hbox;clear hbox;have hczgc_0 : w2.cell? ⟨gc,0,none⟩ = some (.slice (some adb) lA.length c0_0):=(zqb BKgc.out 0).trans rfl;have hczgc_1 : w2.cell? ⟨gc,1,none⟩ = some (.slice (some ad) lC.length cC):=(zqb BKgc.out 1).trans rfl;have hczgf_0 : w2.cell? ⟨gf,0,none⟩ = some (.int .i64 0):=(zqb BKgf.out 0).trans rfl;have hczgf_1 : w2.cell? ⟨gf,1,none⟩ = some (.int .i64 0):=(zqb BKgf.out 1).trans rfl;have hfzgf_0:=zqe BKgf.out 0;have hfzgf_1:=zqe BKgf.out 1) | ((with_reducible refine zqm (N:=40) rfl ?_);refine zvs (v:=.tuple #[.agg #[],.bool false]) (fun W'=>W'.heap[gf]? = some (.cells #[.int .i64 fx.f0,.int .i64 fx.f1] 66 (0,0))∧W'.heap[gc]? = some (.cells #[.slice (some adb) lA.length c0_0,.slice (some ad) lC.length cC] 59 (0,0))∧W'.heap[gm]? = some (.map (ents met).toArray met.length)∧Below w.heap.size w W') ?hg ?hr ⟨(zwa (zwa BKgf.out 0 _) 1 _).trans rfl,(zqz (p:=⟨gf,1,none⟩) (zqz (p:=⟨gf,0,none⟩) BKgc.out HNgc.out (.int .i64 fx.f0)) HNgc.out (.int .i64 fx.f1)),(zqz (p:=⟨gf,1,none⟩) (zqz (p:=⟨gf,0,none⟩) BKm.out HNgf.out (.int .i64 fx.f0)) HNgf.out (.int .i64 fx.f1)),zqd (zqd HB.out HGf.out) HGf.out⟩ ?_;(case hg=>rfl);(case hr=>(have hl:=lookE _ gm met _ fx (zqz (p:=⟨gf,1,none⟩) (zqz (p:=⟨gf,0,none⟩) BKm.out HNgf.out (.int .i64 fx.f0)) HNgf.out (.int .i64 fx.f1)));(try rw [H3.out] at hl);first | (go_simp;done) | (go_simp;rfl));rintro w4 ⟨k1,k2,k3,k4⟩;(try clear hczgc_0 hczgc_1 hfzgc_0 hfzgc_1);(try clear hczgf_0 hczgf_1 hfzgf_0 hfzgf_1);clear BKgf BKgc BKm HB;have BKgf:=zqg.mk k1;have BKgc:=zqg.mk k2;have BKm:=zqg.mk k3;have HB:=zqg.mk k4;clear k1 k2 k3 k4;have hczgc_0 : w4.cell? ⟨gc,0,none⟩ = some (.slice (some adb) lA.length c0_0):=(zqb BKgc.out 0).trans rfl;have hczgc_1 : w4.cell? ⟨gc,1,none⟩ = some (.slice (some ad) lC.length cC):=(zqb BKgc.out 1).trans rfl;have hczgf_0 : w4.cell? ⟨gf,0,none⟩ = some (.int .i64 fx.f0):=(zqb BKgf.out 0).trans rfl;have hczgf_1 : w4.cell? ⟨gf,1,none⟩ = some (.int .i64 fx.f1):=(zqb BKgf.out 1).trans rfl) | ((with_reducible refine zqm (N:=6) rfl ?_);refine zqk ?hg (N:=6) ?hd (cs:=#[]) (t:=149) ?hr ?_;(case hd=>rfl);(case hg=>rfl);(case hr=>go_simp;try rfl);intro gu hg w5 hbox hb;have n1:=zqg.mk (zqp BKgc.out hb);have n2:=zqg.mk (zqp BKm.out hb);have n3:=zqg.mk (zqu HB.out HB.out.size hb);have n4:=zqg.mk (zqp BKgf.out hb);(try clear hczgc_0 hczgc_1 hfzgc_0 hfzgc_1);(try clear hczgf_0 hczgf_1 hfzgf_0 hfzgf_1);clear hg hb hbox BKgc BKm HB BKgf;have BKgc:=n1;have BKm:=n2;have HB:=n3;have BKgf:=n4;clear n1 n2 n3 n4;have hczgc_0 : w5.cell? ⟨gc,0,none⟩ = some (.slice (some adb) lA.length c0_0):=(zqb BKgc.out 0).trans rfl;have hczgc_1 : w5.cell? ⟨gc,1,none⟩ = some (.slice (some ad) lC.length cC):=(zqb BKgc.out 1).trans rfl;have hczgf_0 : w5.cell? ⟨gf,0,none⟩ = some (.int .i64 fx.f0):=(zqb BKgf.out 0).trans rfl;have hczgf_1 : w5.cell? ⟨gf,1,none⟩ = some (.int .i64 fx.f1):=(zqb BKgf.out 1).trans rfl;have hy3:=(HB.out.cell (wbl HY.out)).trans HY.out) | (go_at_call 79;(with_reducible refine (ca_in.calls fx.f0 0 i true _ H4.out).mono ?_);rintro e w' ⟨rfl,⟨nd,rfl⟩⟩;(try first | exact ⟨rfl,_,World.drewN_drewN _ _ _⟩ | exact ⟨rfl,_,Eq.trans (World.drewN_drewN _ _ _) (congrArg (World.drewN _) (Nat.add_assoc _ _ _))⟩)) | (go_at_call 79;(with_reducible refine (ca_in.calls fx.f1 (-1) (wrap64 (((zqo lA fx.f0).f1.length : Int) - 1)) false _ H5.out).mono ?_);rintro e w' ⟨rfl,⟨nd,rfl⟩⟩;(try first | exact ⟨rfl,_,World.drewN_drewN _ _ _⟩ | exact ⟨rfl,_,Eq.trans (World.drewN_drewN _ _ _) (congrArg (World.drewN _) (Nat.add_assoc _ _ _))⟩)))
           go_quiet ((first | (go_at_call 79;(with_reducible refine (ca_in.calls fx.f0 0 i true _ H4.out).mono ?_);rintro e w' ⟨rfl,⟨nd,rfl⟩⟩;(try first | exact ⟨rfl,_,World.drewN_drewN _ _ _⟩ | exact ⟨rfl,_,Eq.trans (World.drewN_drewN _ _ _) (congrArg (World.drewN _) (Nat.add_assoc _ _ _))⟩)) | (go_at_call 79;(with_reducible refine (ca_in.calls fx.f1 (-1) (wrap64 (((zqo lA fx.f0).f1.length : Int) - 1)) false _ H5.out).mono ?_);rintro e w' ⟨rfl,⟨nd,rfl⟩⟩;(try first | exact ⟨rfl,_,World.drewN_drewN _ _ _⟩ | exact ⟨rfl,_,Eq.trans (World.drewN_drewN _ _ _) (congrArg (World.drewN _) (Nat.add_assoc _ _ _))⟩))))
           try go_wp2_with (first | ((with_reducible refine zqm (N:=5) rfl ?_);refine zqk ?hg (N:=5) ?hd (cs:=#[.int .i64 0,.int .i64 0]) (t:=66) ?hr ?_;(case hd=>rfl);(case hg=>rfl);(case hr=>go_simp;try rfl);intro gf hg w2 hbox hb;have HNgf:=zqg.mk (show gm ≠ gf by have:=zq7 BKm.out;omega);have HNgc:=zqg.mk (show gc ≠ gf by have:=zq7 BKgc.out;omega);have HGf:=zqg.mk (show w.heap.size≤gf by have:=HB.out.size;omega);have n1:=zqg.mk (zqp BKgc.out hb);have n2:=zqg.mk (zqp BKm.out hb);have n3:=zqg.mk (zqu HB.out HB.out.size hb);(try clear hczgc_0 hczgc_1 hfzgc_0 hfzgc_1);(try clear hczgf_0 hczgf_1 hfzgf_0 hfzgf_1);clear hg hb BKgc BKm HB;have BKgc:=n1;have BKm:=n2;have HB:=n3;clear n1 n2 n3;have BKgf:=zqg.mk hbox;clear hbox;have hczgc_0 : w2.cell? ⟨gc,0,none⟩ = some (.slice (some adb) lA.length c0_0):=(zqb BKgc.out 0).trans rfl;have hczgc_1 : w2.cell? ⟨gc,1,none⟩ = some (.slice (some ad) lC.length cC):=(zqb BKgc.out 1).trans rfl;have hczgf_0 : w2.cell? ⟨gf,0,none⟩ = some (.int .i64 0):=(zqb BKgf.out 0).trans rfl;have hczgf_1 : w2.cell? ⟨gf,1,none⟩ = some (.int .i64 0):=(zqb BKgf.out 1).trans rfl;have hfzgf_0:=zqe BKgf.out 0;have hfzgf_1:=zqe BKgf.out 1) | ((with_reducible refine zqm (N:=40) rfl ?_);refine zvs (v:=.tuple #[.agg #[],.bool false]) (fun W'=>W'.heap[gf]? = some (.cells #[.int .i64 fx.f0,.int .i64 fx.f1] 66 (0,0))∧W'.heap[gc]? = some (.cells #[.slice (some adb) lA.length c0_0,.slice (some ad) lC.length cC] 59 (0,0))∧W'.heap[gm]? = some (.map (ents met).toArray met.length)∧Below w.heap.size w W') ?hg ?hr ⟨(zwa (zwa BKgf.out 0 _) 1 _).trans rfl,(zqz (p:=⟨gf,1,none⟩) (zqz (p:=⟨gf,0,none⟩) BKgc.out HNgc.out (.int .i64 fx.f0)) HNgc.out (.int .i64 fx.f1)),(zqz (p:=⟨gf,1,none⟩) (zqz (p:=⟨gf,0,none⟩) BKm.out HNgf.out (.int .i64 fx.f0)) HNgf.out (.int .i64 fx.f1)),zqd (zqd HB.out HGf.out) HGf.out⟩ ?_;(case hg=>rfl);(case hr=>(have hl:=lookE _ gm met _ fx (zqz (p:=⟨gf,1,none⟩) (zqz (p:=⟨gf,0,none⟩) BKm.out HNgf.out (.int .i64 fx.f0)) HNgf.out (.int .i64 fx.f1)));(try rw [H3.out] at hl);first | (go_simp;done) | (go_simp;rfl));rintro w4 ⟨k1,k2,k3,k4⟩;(try clear hczgc_0 hczgc_1 hfzgc_0 hfzgc_1);(try clear hczgf_0 hczgf_1 hfzgf_0 hfzgf_1);clear BKgf BKgc BKm HB;have BKgf:=zqg.mk k1;have BKgc:=zqg.mk k2;have BKm:=zqg.mk k3;have HB:=zqg.mk k4;clear k1 k2 k3 k4;have hczgc_0 : w4.cell? ⟨gc,0,none⟩ = some (.slice (some adb) lA.length c0_0):=(zqb BKgc.out 0).trans rfl;have hczgc_1 : w4.cell? ⟨gc,1,none⟩ = some (.slice (some ad) lC.length cC):=(zqb BKgc.out 1).trans rfl;have hczgf_0 : w4.cell? ⟨gf,0,none⟩ = some (.int .i64 fx.f0):=(zqb BKgf.out 0).trans rfl;have hczgf_1 : w4.cell? ⟨gf,1,none⟩ = some (.int .i64 fx.f1):=(zqb BKgf.out 1).trans rfl) | ((with_reducible refine zqm (N:=6) rfl ?_);refine zqk ?hg (N:=6) ?hd (cs:=#[]) (t:=149) ?hr ?_;(case hd=>rfl);(case hg=>rfl);(case hr=>go_simp;try rfl);intro gu hg w5 hbox hb;have n1:=zqg.mk (zqp BKgc.out hb);have n2:=zqg.mk (zqp BKm.out hb);have n3:=zqg.mk (zqu HB.out HB.out.size hb);have n4:=zqg.mk (zqp BKgf.out hb);(try clear hczgc_0 hczgc_1 hfzgc_0 hfzgc_1);(try clear hczgf_0 hczgf_1 hfzgf_0 hfzgf_1);clear hg hb hbox BKgc BKm HB BKgf;have BKgc:=n1;have BKm:=n2;have HB:=n3;have BKgf:=n4;clear n1 n2 n3 n4;have hczgc_0 : w5.cell? ⟨gc,0,none⟩ = some (.slice (some adb) lA.length c0_0):=(zqb BKgc.out 0).trans rfl;have hczgc_1 : w5.cell? ⟨gc,1,none⟩ = some (.slice (some ad) lC.length cC):=(zqb BKgc.out 1).trans rfl;have hczgf_0 : w5.cell? ⟨gf,0,none⟩ = some (.int .i64 fx.f0):=(zqb BKgf.out 0).trans rfl;have hczgf_1 : w5.cell? ⟨gf,1,none⟩ = some (.int .i64 fx.f1):=(zqb BKgf.out 1).trans rfl;have hy3:=(HB.out.cell (wbl HY.out)).trans HY.out) | (go_at_call 79;(with_reducible refine (ca_in.calls fx.f0 0 i true _ H4.out).mono ?_);rintro e w' ⟨rfl,⟨nd,rfl⟩⟩;(try first | exact ⟨rfl,_,World.drewN_drewN _ _ _⟩ | exact ⟨rfl,_,Eq.trans (World.drewN_drewN _ _ _) (congrArg (World.drewN _) (Nat.add_assoc _ _ _))⟩)) | (go_at_call 79;(with_reducible refine (ca_in.calls fx.f1 (-1) (wrap64 (((zqo lA fx.f0).f1.length : Int) - 1)) false _ H5.out).mono ?_);rintro e w' ⟨rfl,⟨nd,rfl⟩⟩;(try first | exact ⟨rfl,_,World.drewN_drewN _ _ _⟩ | exact ⟨rfl,_,Eq.trans (World.drewN_drewN _ _ _) (congrArg (World.drewN _) (Nat.add_assoc _ _ _))⟩)))
           go_ret
           exact ⟨rfl,zqa HB.out _⟩
          | true =>
           rw [if_pos rfl] at hq
           have H6:=zqg.mk hq
           clear hq
           go_wp2_with (first | ((with_reducible refine zqm (N:=5) rfl ?_);refine zqk ?hg (N:=5) ?hd (cs:=#[.int .i64 0,.int .i64 0]) (t:=66) ?hr ?_;(case hd=>rfl);(case hg=>rfl);(case hr=>go_simp;try rfl);intro gf hg w2 hbox hb;have HNgf:=zqg.mk (show gm ≠ gf by have:=zq7 BKm.out;omega);have HNgc:=zqg.mk (show gc ≠ gf by have:=zq7 BKgc.out;omega);have HGf:=zqg.mk (show w.heap.size≤gf by have:=HB.out.size;omega);have n1:=zqg.mk (zqp BKgc.out hb);have n2:=zqg.mk (zqp BKm.out hb);have n3:=zqg.mk (zqu HB.out HB.out.size hb);(try clear hczgc_0 hczgc_1 hfzgc_0 hfzgc_1);(try clear hczgf_0 hczgf_1 hfzgf_0 hfzgf_1);clear hg hb BKgc BKm HB;have BKgc:=n1;have BKm:=n2;have HB:=n3;clear n1 n2 n3;have BKgf:=zqg.mk hbox;clear hbox;have hczgc_0 : w2.cell? ⟨gc,0,none⟩ = some (.slice (some adb) lA.length c0_0):=(zqb BKgc.out 0).trans rfl;have hczgc_1 : w2.cell? ⟨gc,1,none⟩ = some (.slice (some ad) lC.length cC):=(zqb BKgc.out 1).trans rfl;have hczgf_0 : w2.cell? ⟨gf,0,none⟩ = some (.int .i64 0):=(zqb BKgf.out 0).trans rfl;have hczgf_1 : w2.cell? ⟨gf,1,none⟩ = some (.int .i64 0):=(zqb BKgf.out 1).trans rfl;have hfzgf_0:=zqe BKgf.out 0;have hfzgf_1:=zqe BKgf.out 1) | ((with_reducible refine zqm (N:=40) rfl ?_);refine zvs (v:=.tuple #[.agg #[],.bool false]) (fun W'=>W'.heap[gf]? = some (.cells #[.int .i64 fx.f0,.int .i64 fx.f1] 66 (0,0))∧W'.heap[gc]? = some (.cells #[.slice (some adb) lA.length c0_0,.slice (some ad) lC.length cC] 59 (0,0))∧W'.heap[gm]? = some (.map (ents met).toArray met.length)∧Below w.heap.size w W') ?hg ?hr ⟨(zwa (zwa BKgf.out 0 _) 1 _).trans rfl,(zqz (p:=⟨gf,1,none⟩) (zqz (p:=⟨gf,0,none⟩) BKgc.out HNgc.out (.int .i64 fx.f0)) HNgc.out (.int .i64 fx.f1)),(zqz (p:=⟨gf,1,none⟩) (zqz (p:=⟨gf,0,none⟩) BKm.out HNgf.out (.int .i64 fx.f0)) HNgf.out (.int .i64 fx.f1)),zqd (zqd HB.out HGf.out) HGf.out⟩ ?_;(case hg=>rfl);(case hr=>(have hl:=lookE _ gm met _ fx (zqz (p:=⟨gf,1,none⟩) (zqz (p:=⟨gf,0,none⟩) BKm.out HNgf.out (.int .i64 fx.f0)) HNgf.out (.int .i64 fx.f1)));(try rw [H3.out] at hl);first | (go_simp;done) | (go_simp;rfl));rintro w4 ⟨k1,k2,k3,k4⟩;(try clear hczgc_0 hczgc_1 hfzgc_0 hfzgc_1);(try clear hczgf_0 hczgf_1 hfzgf_0 hfzgf_1);clear BKgf BKgc BKm HB;have BKgf:=zqg.mk k1;have BKgc:=zqg.mk k2;have BKm:=zqg.mk k3;have HB:=zqg.mk k4;clear k1 k2 k3 k4;have hczgc_0 : w4.cell? ⟨gc,0,none⟩ = some (.slice (some adb) lA.length c0_0):=(zqb BKgc.out 0).trans rfl;have hczgc_1 : w4.cell? ⟨gc,1,none⟩ = some (.slice (some ad) lC.length cC):=(zqb BKgc.out 1).trans rfl;have hczgf_0 : w4.cell? ⟨gf,0,none⟩ = some (.int .i64 fx.f0):=(zqb BKgf.out 0).trans rfl;have hczgf_1 : w4.cell? ⟨gf,1,none⟩ = some (.int .i64 fx.f1):=(zqb BKgf.out 1).trans rfl) | ((with_reducible refine zqm (N:=6) rfl ?_);refine zqk ?hg (N:=6) ?hd (cs:=#[]) (t:=149) ?hr ?_;(case hd=>rfl);(case hg=>rfl);(case hr=>go_simp;try rfl);intro gu hg w5 hbox hb;have n1:=zqg.mk (zqp BKgc.out hb);have n2:=zqg.mk (zqp BKm.out hb);have n3:=zqg.mk (zqu HB.out HB.out.size hb);have n4:=zqg.mk (zqp BKgf.out hb);(try clear hczgc_0 hczgc_1 hfzgc_0 hfzgc_1);(try clear hczgf_0 hczgf_1 hfzgf_0 hfzgf_1);clear hg hb hbox BKgc BKm HB BKgf;have BKgc:=n1;have BKm:=n2;have HB:=n3;have BKgf:=n4;clear n1 n2 n3 n4;have hczgc_0 : w5.cell? ⟨gc,0,none⟩ = some (.slice (some adb) lA.length c0_0):=(zqb BKgc.out 0).trans rfl;have hczgc_1 : w5.cell? ⟨gc,1,none⟩ = some (.slice (some ad) lC.length cC):=(zqb BKgc.out 1).trans rfl;have hczgf_0 : w5.cell? ⟨gf,0,none⟩ = some (.int .i64 fx.f0):=(zqb BKgf.out 0).trans rfl;have hczgf_1 : w5.cell? ⟨gf,1,none⟩ = some (.int .i64 fx.f1):=(zqb BKgf.out 1).trans rfl;have hy3:=(HB.out.cell (wbl HY.out)).trans HY.out;have hup : ∀ n,(Instr.mapUpdate 148 (.map (some gm)) (.agg #[.int .i64 fx.f0,.int .i64 fx.f1]) (.agg #[])).run Tryz.prog (w5.drewN n) = .ok () (setO (w5.drewN n) gm (.map (ents (met ++ [fx])).toArray (met.length + 1))):=fun n=>updE _ gm met fx H3.out (zqn BKm.out n)) | (go_at_call 79;(with_reducible refine (ca_in.calls fx.f0 0 i true _ H4.out).mono ?_);rintro e w' ⟨rfl,⟨nd,rfl⟩⟩;(try first | exact ⟨rfl,_,World.drewN_drewN _ _ _⟩ | exact ⟨rfl,_,Eq.trans (World.drewN_drewN _ _ _) (congrArg (World.drewN _) (Nat.add_assoc _ _ _))⟩)) | (go_at_call 79;(with_reducible refine (ca_in.calls fx.f1 (-1) (wrap64 (((zqo lA fx.f0).f1.length : Int) - 1)) true _ H5.out).mono ?_);rintro e w' ⟨rfl,⟨nd,rfl⟩⟩;(try first | exact ⟨rfl,_,World.drewN_drewN _ _ _⟩ | exact ⟨rfl,_,Eq.trans (World.drewN_drewN _ _ _) (congrArg (World.drewN _) (Nat.add_assoc _ _ _))⟩)))
           go_quiet ((first | (go_at_call 79;(with_reducible refine (ca_in.calls fx.f0 0 i true _ H4.out).mono ?_);rintro e w' ⟨rfl,⟨nd,rfl⟩⟩;(try first | exact ⟨rfl,_,World.drewN_drewN _ _ _⟩ | exact ⟨rfl,_,Eq.trans (World.drewN_drewN _ _ _) (congrArg (World.drewN _) (Nat.add_assoc _ _ _))⟩)) | (go_at_call 79;(with_reducible refine (ca_in.calls fx.f1 (-1) (wrap64 (((zqo lA fx.f0).f1.length : Int) - 1)) true _ H5.out).mono ?_);rintro e w' ⟨rfl,⟨nd,rfl⟩⟩;(try first | exact ⟨rfl,_,World.drewN_drewN _ _ _⟩ | exact ⟨rfl,_,Eq.trans (World.drewN_drewN _ _ _) (congrArg (World.drewN _) (Nat.add_assoc _ _ _))⟩))))
           try go_wp2_with (first | ((with_reducible refine zqm (N:=5) rfl ?_);refine zqk ?hg (N:=5) ?hd (cs:=#[.int .i64 0,.int .i64 0]) (t:=66) ?hr ?_;(case hd=>rfl);(case hg=>rfl);(case hr=>go_simp;try rfl);intro gf hg w2 hbox hb;have HNgf:=zqg.mk (show gm ≠ gf by have:=zq7 BKm.out;omega);have HNgc:=zqg.mk (show gc ≠ gf by have:=zq7 BKgc.out;omega);have HGf:=zqg.mk (show w.heap.size≤gf by have:=HB.out.size;omega);have n1:=zqg.mk (zqp BKgc.out hb);have n2:=zqg.mk (zqp BKm.out hb);have n3:=zqg.mk (zqu HB.out HB.out.size hb);(try clear hczgc_0 hczgc_1 hfzgc_0 hfzgc_1);(try clear hczgf_0 hczgf_1 hfzgf_0 hfzgf_1);clear hg hb BKgc BKm HB;have BKgc:=n1;have BKm:=n2;have HB:=n3;clear n1 n2 n3;have BKgf:=zqg.mk hbox;clear hbox;have hczgc_0 : w2.cell? ⟨gc,0,none⟩ = some (.slice (some adb) lA.length c0_0):=(zqb BKgc.out 0).trans rfl;have hczgc_1 : w2.cell? ⟨gc,1,none⟩ = some (.slice (some ad) lC.length cC):=(zqb BKgc.out 1).trans rfl;have hczgf_0 : w2.cell? ⟨gf,0,none⟩ = some (.int .i64 0):=(zqb BKgf.out 0).trans rfl;have hczgf_1 : w2.cell? ⟨gf,1,none⟩ = some (.int .i64 0):=(zqb BKgf.out 1).trans rfl;have hfzgf_0:=zqe BKgf.out 0;have hfzgf_1:=zqe BKgf.out 1) | ((with_reducible refine zqm (N:=40) rfl ?_);refine zvs (v:=.tuple #[.agg #[],.bool false]) (fun W'=>W'.heap[gf]? = some (.cells #[.int .i64 fx.f0,.int .i64 fx.f1] 66 (0,0))∧W'.heap[gc]? = some (.cells #[.slice (some adb) lA.length c0_0,.slice (some ad) lC.length cC] 59 (0,0))∧W'.heap[gm]? = some (.map (ents met).toArray met.length)∧Below w.heap.size w W') ?hg ?hr ⟨(zwa (zwa BKgf.out 0 _) 1 _).trans rfl,(zqz (p:=⟨gf,1,none⟩) (zqz (p:=⟨gf,0,none⟩) BKgc.out HNgc.out (.int .i64 fx.f0)) HNgc.out (.int .i64 fx.f1)),(zqz (p:=⟨gf,1,none⟩) (zqz (p:=⟨gf,0,none⟩) BKm.out HNgf.out (.int .i64 fx.f0)) HNgf.out (.int .i64 fx.f1)),zqd (zqd HB.out HGf.out) HGf.out⟩ ?_;(case hg=>rfl);(case hr=>(have hl:=lookE _ gm met _ fx (zqz (p:=⟨gf,1,none⟩) (zqz (p:=⟨gf,0,none⟩) BKm.out HNgf.out (.int .i64 fx.f0)) HNgf.out (.int .i64 fx.f1)));(try rw [H3.out] at hl);first | (go_simp;done) | (go_simp;rfl));rintro w4 ⟨k1,k2,k3,k4⟩;(try clear hczgc_0 hczgc_1 hfzgc_0 hfzgc_1);(try clear hczgf_0 hczgf_1 hfzgf_0 hfzgf_1);clear BKgf BKgc BKm HB;have BKgf:=zqg.mk k1;have BKgc:=zqg.mk k2;have BKm:=zqg.mk k3;have HB:=zqg.mk k4;clear k1 k2 k3 k4;have hczgc_0 : w4.cell? ⟨gc,0,none⟩ = some (.slice (some adb) lA.length c0_0):=(zqb BKgc.out 0).trans rfl;have hczgc_1 : w4.cell? ⟨gc,1,none⟩ = some (.slice (some ad) lC.length cC):=(zqb BKgc.out 1).trans rfl;have hczgf_0 : w4.cell? ⟨gf,0,none⟩ = some (.int .i64 fx.f0):=(zqb BKgf.out 0).trans rfl;have hczgf_1 : w4.cell? ⟨gf,1,none⟩ = some (.int .i64 fx.f1):=(zqb BKgf.out 1).trans rfl) | ((with_reducible refine zqm (N:=6) rfl ?_);refine zqk ?hg (N:=6) ?hd (cs:=#[]) (t:=149) ?hr ?_;(case hd=>rfl);(case hg=>rfl);(case hr=>go_simp;try rfl);intro gu hg w5 hbox hb;have n1:=zqg.mk (zqp BKgc.out hb);have n2:=zqg.mk (zqp BKm.out hb);have n3:=zqg.mk (zqu HB.out HB.out.size hb);have n4:=zqg.mk (zqp BKgf.out hb);(try clear hczgc_0 hczgc_1 hfzgc_0 hfzgc_1);(try clear hczgf_0 hczgf_1 hfzgf_0 hfzgf_1);clear hg hb hbox BKgc BKm HB BKgf;have BKgc:=n1;have BKm:=n2;have HB:=n3;have BKgf:=n4;clear n1 n2 n3 n4;have hczgc_0 : w5.cell? ⟨gc,0,none⟩ = some (.slice (some adb) lA.length c0_0):=(zqb BKgc.out 0).trans rfl;have hczgc_1 : w5.cell? ⟨gc,1,none⟩ = some (.slice (some ad) lC.length cC):=(zqb BKgc.out 1).trans rfl;have hczgf_0 : w5.cell? ⟨gf,0,none⟩ = some (.int .i64 fx.f0):=(zqb BKgf.out 0).trans rfl;have hczgf_1 : w5.cell? ⟨gf,1,none⟩ = some (.int .i64 fx.f1):=(zqb BKgf.out 1).trans rfl;have hy3:=(HB.out.cell (wbl HY.out)).trans HY.out;have hup : ∀ n,(Instr.mapUpdate 148 (.map (some gm)) (.agg #[.int .i64 fx.f0,.int .i64 fx.f1]) (.agg #[])).run Tryz.prog (w5.drewN n) = .ok () (setO (w5.drewN n) gm (.map (ents (met ++ [fx])).toArray (met.length + 1))):=fun n=>updE _ gm met fx H3.out (zqn BKm.out n)) | (go_at_call 79;(with_reducible refine (ca_in.calls fx.f0 0 i true _ H4.out).mono ?_);rintro e w' ⟨rfl,⟨nd,rfl⟩⟩;(try first | exact ⟨rfl,_,World.drewN_drewN _ _ _⟩ | exact ⟨rfl,_,Eq.trans (World.drewN_drewN _ _ _) (congrArg (World.drewN _) (Nat.add_assoc _ _ _))⟩)) | (go_at_call 79;(with_reducible refine (ca_in.calls fx.f1 (-1) (wrap64 (((zqo lA fx.f0).f1.length : Int) - 1)) true _ H5.out).mono ?_);rintro e w' ⟨rfl,⟨nd,rfl⟩⟩;(try first | exact ⟨rfl,_,World.drewN_drewN _ _ _⟩ | exact ⟨rfl,_,Eq.trans (World.drewN_drewN _ _ _) (congrArg (World.drewN _) (Nat.add_assoc _ _ _))⟩)))
           go_roundw
           case rel=>exact ⟨i + 1,by omega,by omega,by go_num,by rw [HT.out];exact H6,⟨below_setO _ (zqa HB.out _) HGm.out⟩,⟨setO_other _ (zqn BKgc.out _) HNgc_gm.out⟩,⟨by rw [HT.out,setO_same _ (zqn BKm.out _)];simp⟩⟩
           case measure=>simp [intOf];omega
         ·rw [if_neg q1] at hq;cases hq
        ·rw [if_neg q0] at hq;cases hq
     ·go_wp2
      go_ret
      have hq:=HQ.out
      rw [List.drop_of_length_le (by omega)] at hq
      exact ⟨zv0 (Option.some.inj hq),HB.out⟩
  ·rw [if_neg hl] at h
   have b1 : ((lC.length : Int) != ((lA.length : Int) - 1)) = true:=by simpa using hl
   have b2 : ((lC.length : Int) == ((lA.length : Int) - 1)) = false:=by simpa using hl
   clear hl
   obtain rfl:=Option.some.inj h
   clear h
   go_enter Tryz.func80,Tryz.ntmps80
   go_wp2_with (first | ((with_reducible refine zqm (N:=1) rfl ?_);(try (refine zqs (by rfl) ?_;dsimp only));refine zqk ?hg (N:=1) ?hd (cs:=#[.slice AX lA.length c0_0,.slice AZ lC.length cC]) (t:=59) ?hr ?_;(case hd=>rfl);(case hg=>rfl);(case hr=>go_simp;try rfl);intro gc hg w1 hbox hb;have n_:=zqg.mk (zqu HB.out HB.out.size hb);clear HB;have HB:=n_;clear n_;clear hg;have BKgc:=zqg.mk hbox;clear hbox;(try clear hczgc_0 hfzgc_0);have hczgc_0 : w1.cell? ⟨gc,0,none⟩ = some (.slice AX lA.length c0_0):=(zqb BKgc.out 0).trans rfl;have hfzgc_0:=zqe BKgc.out 0;(try clear hczgc_1 hfzgc_1);have hczgc_1 : w1.cell? ⟨gc,1,none⟩ = some (.slice AZ lC.length cC):=(zqb BKgc.out 1).trans rfl;have hfzgc_1:=zqe BKgc.out 1;clear hb) | (go_at_call 79;(with_reducible refine (ca_in.calls (lA.length : Int) 1 4 true _ H1.out).mono ?_);rintro e w1 ⟨rfl,hd⟩;have hb:=hd.below;clear hd;have n_:=zqg.mk (zqu HB.out HB.out.size hb);clear HB;have HB:=n_;clear n_;have n_:=zqg.mk (zqp BKgc.out hb);clear BKgc;have BKgc:=n_;clear n_;(try clear hczgc_0 hfzgc_0);have hczgc_0 : w1.cell? ⟨gc,0,none⟩ = some (.slice AX lA.length c0_0):=(zqb BKgc.out 0).trans rfl;have hfzgc_0:=zqe BKgc.out 0;(try clear hczgc_1 hfzgc_1);have hczgc_1 : w1.cell? ⟨gc,1,none⟩ = some (.slice AZ lC.length cC):=(zqb BKgc.out 1).trans rfl;have hfzgc_1:=zqe BKgc.out 1;clear hb))
   go_ret
   exact ⟨rfl,HB.out⟩
def flowIn (l1 : List S66) (i cups : Int) (xs : List (List Int)) (ys : List Int) : Option Int:=
 if 0 < i then (if i - 1 < (l1.length : Int) then (if 0≤(zqc l1 (i - 1)).f0 then (if (zqc l1 (i - 1)).f0 < (ys.length : Int) then (if 0≤(zqc l1 (i - 1)).f1 then (if (zqc l1 (i - 1)).f0 < (xs.length : Int) then (if (zqc l1 (i - 1)).f1 < ((rd_L3 xs (zqc l1 (i - 1)).f0).length : Int) then some (rd (rd_L3 xs (zqc l1 (i - 1)).f0) (zqc l1 (i - 1)).f1) else none) else none) else some (rd ys (zqc l1 (i - 1)).f0)) else none) else none) else none) else some cups
def zgr (k : Nat) (l1 : List S66) : List S110→Int→Int→List (List Int)→List Int→Option (List (List Int) × List Int)
 | [],_,_,xs,ys=>some (xs,ys)
 | x :: rest,i,cups,xs,ys=>(flowIn l1 i cups xs ys).bind fun c=>(gf_shares.f k x.f0.f0.f0 x.f0.f0.f1 x.f0.f1 x.f0.f2 x.f0.f3 x.f1 c).bind fun t=>if xs.length < 5864062014805 then (if ys.length < 17592186044416 then zgr k l1 rest (i + 1) c (xs ++ [t.1]) (ys ++ [t.2]) else none) else none
def ca_flow.f (k : Nat) (l0 : List S110) (l1 : List S66) (a2 : Int) : Option (List (List Int) × List Int):=zgr k l1 l0 0 a2 [] []
theorem zn0 : (Tryz.prog.info? 28).map (fun i=>(i.zero,i.size,i.bytes)) = some (some (.slice none 0 0),1,24):=by kernel_rfl
theorem infoInt : (Tryz.prog.info? 3).map (fun i=>(i.zero,i.size,i.bytes)) = some (some (.int .i64 0),1,8):=by kernel_rfl
theorem zpc {d : Kd (List Int)} {e base B : Nat} {W w1 : World} {u v v1 : Value} {xs : List (List Int)} (h : Kd.N d e W base (fun k=>B≤k∧some k ≠ v.ownBlock) u xs) (hg : W.grownBy w1 v.ownBlock) (hat : v1.ownBlock = v.ownBlock∨∃ b,v1.ownBlock = some b∧W.heap.size≤b) : Kd.N d e w1 base (fun k=>B≤k∧some k ≠ v1.ownBlock) u xs:=
 Kd.N_afterv (ok:=fun k=>B≤k) h hg hat
theorem rowFK {wc : World} {n : Nat} {A5 : Option Addr} {c5 : Nat} {l : List Int} (hr : (Kd.int .i64).R 3 wc n (fun _=>True) (.slice A5 l.length c5) l) :
 Kd.FK (Kd.slice 3 (Kd.int .i64)) wc (fun k=>n≤k) l [.slice A5 l.length c5]:=fun W' hW=>⟨A5,c5,rfl,(Kd.R_reads' hr).2.1,Kd.R_F (Kd.R_mono (Kd.R_bound hr) (fun _ hk=>hk.2.1)) W' hW⟩
theorem ca_flow.calls (k : Nat) (A0 : Option Addr) (c0 : Nat) (l0 : List S110) (A1 : Option Addr) (c1 : Nat) (l1 : List S66) (a2 : Int) (r1 : List (List Int)) (r2 : List Int) (w : World) (hr0 : Kd.C k110 w A0 l0.length l0) (hr1 : Kd.C k66 w A1 l1.length l1) (h : ca_flow.f k l0 l1 a2 = some (r1,r2)) :
 Calls Tryz.prog 81 #[.slice A0 l0.length c0,.slice A1 l1.length c1,.int .i64 a2] w fun e w'=>∃ v0_ v1_ : Value,e = .returned (.tuple #[v0_,v1_])∧Kd.N (Kd.slice 3 (Kd.int .i64)) 28 w' w.heap.size (fun k_=>w.heap.size≤k_∧some k_ ≠ (v1_ : Value).ownBlock) v0_ r1∧Kd.R (Kd.int .i64) 3 w' w.heap.size (fun _=>True) v1_ r2∧Below w.heap.size w w':=by
 have huf:=Tryz.underlying110
 have huF:=Tryz.underlying66
 have HM:=am (Kd.C_max hr0)
 have HR0:=am hr0
 have HR1:=am hr1
 have HB:=am (Below.refl w.heap.size w)
 have HQ:=am h
 clear hr0 hr1 h
 go_enter Tryz.func81,Tryz.ntmps81
 go_wp2
 go_loopw [2,8,9,17] (fun v2 v8 v9 v17 w'=>∃ (cups i : Int) (xs : List (List Int)) (ys : List Int),0≤i∧i≤l0.length∧v2 = .int .i64 cups∧v17 = .int .i64 i∧zqg (zgr k l1 (l0.drop i.toNat) i cups xs ys = some (r1,r2))∧zqg (Kd.N (Kd.slice 3 (Kd.int .i64)) 28 w' w.heap.size (fun k_=>w.heap.size≤k_∧some k_ ≠ (v9 : Value).ownBlock) v8 xs)∧zqg (Kd.R (Kd.int .i64) 3 w' w.heap.size (fun _=>True) v9 ys)∧zqg (Below w.heap.size w w')) (fun _ _ _ v17 _=>l0.length - (intOf v17).toNat)
 case atStart=>exact ⟨a2,0,[],[],by omega,by omega,rfl,rfl,HQ,⟨Kd.N_nil _ _ _ _ _⟩,⟨Kd.R_nil _ _ _ _ _⟩,HB⟩
 case round =>
  clear HQ HB
  obtain ⟨cups,i,xs,ys,p1,hi,rfl,rfl,HQ,HS,HO,HB⟩:=hrel
  have HW9:=am HB.out.size
  have hm:=HM.out
  by_cases hlt : i < (l0.length : Int)
  case neg =>
   go_wp2
   go_ret2
   have hq:=HQ.out
   rw [List.drop_of_length_le (by omega)] at hq
   simp only [zgr,Option.some.injEq,Prod.mk.injEq] at hq
   obtain ⟨rfl,rfl⟩:=hq
   exact ⟨_,_,rfl,HS.out,HO.out,HB.out⟩
  obtain ⟨ad,A0_,c0_,A2,c2,A5,c5,e1,hx0,hx1,hx2,hx3,hx4,hx5,hl0,hi0,hl2,hi2,hl5,hi5⟩:=at_T110 HR0.out i p1 hlt
  cases e1
  replace hx0:=(HB.out.cell (wbl hx0)).trans hx0
  replace hx1:=(HB.out.cell (wbl hx1)).trans hx1
  replace hx2:=(HB.out.cell (wbl hx2)).trans hx2
  replace hx3:=(HB.out.cell (wbl hx3)).trans hx3
  replace hx4:=(HB.out.cell (wbl hx4)).trans hx4
  replace hx5:=(HB.out.cell (wbl hx5)).trans hx5
  have hq:=HQ.out
  rw [zx7 z110 l0 i p1 hlt,show l0.getD i.toNat z110 = zw2 l0 i from rfl] at hq
  simp only [zgr] at hq
  generalize zw2 l0 i = x at *
  obtain ⟨c,hc,hq⟩:=obm hq
  obtain ⟨⟨t1,t2⟩,ht,hq⟩:=obm hq
  have HT:=am ht
  clear ht HQ
  dsimp only at hq
  by_cases hn1 : xs.length < 5864062014805
  case neg=>rw [if_neg hn1] at hq;cases hq
  rw [if_pos hn1] at hq
  by_cases hn2 : ys.length < 17592186044416
  case neg=>rw [if_neg hn2] at hq;cases hq
  rw [if_pos hn2] at hq
  have HQ:=am hq
  have HL1:=am hn1
  have HL2:=am hn2
  clear hq hn1 hn2
  have HI0:=am hi0
  have HI2:=am hi2
  have HI5:=am hi5
  have HL0_:=am hl0
  have HL2_:=am hl2
  have HL5_:=am hl5
  clear hi0 hi2 hi5 hl0 hl2 hl5
  obtain ⟨A8,c8,e8⟩:=Kd.N_slice HS.out
  subst e8
  obtain ⟨A9,c9,e9⟩:=Kd.R_slice HO.out
  subst e9
  unfold flowIn at hc
  by_cases hz0 : 0 < i
  case neg =>
   rw [if_neg hz0] at hc
   have hd0 : decide (0 < i) = false:=decide_eq_false hz0
   obtain rfl:=Option.some.inj hc
   clear hc
   go_wp2_with (first | ((refine zqm (N:=11) rfl ?_);refine zqk rfl (N:=11) rfl (cs:=#[.slice none 0 0,.int .i64 0,.slice none 0 0,.int .i64 0,.int .i64 0,.slice none 0 0]) (t:=110) ?hr ?_;(case hr=>go_simp;try rfl);intro ga hg w2 hbox hb;have GA:=am (show w.heap.size≤ga by have:=HB.out.size;omega);have GA2:=am (Nat.le_of_eq hg.symm);have NB:=am hb;have n3:=(bmv HB hb);have BKga:=am hbox;clear hg hb hbox HB;have HB:=n3;clear n3;have hczga_0:=cO1 BKga.out;have hfzga_0:=zqe BKga.out 0;have hczga_1 : w2.cell? ⟨ga,1,none⟩ = some (.int .i64 0):=(zqb BKga.out 1).trans rfl;have hfzga_1:=zqe BKga.out 1;have hczga_2 : w2.cell? ⟨ga,2,none⟩ = some (.slice none 0 0):=(zqb BKga.out 2).trans rfl;have hfzga_2:=zqe BKga.out 2;have hczga_3 : w2.cell? ⟨ga,3,none⟩ = some (.int .i64 0):=(zqb BKga.out 3).trans rfl;have hfzga_3:=zqe BKga.out 3;have hczga_4 : w2.cell? ⟨ga,4,none⟩ = some (.int .i64 0):=(zqb BKga.out 4).trans rfl;have hfzga_4:=zqe BKga.out 4;have hczga_5 : w2.cell? ⟨ga,5,none⟩ = some (.slice none 0 0):=(zqb BKga.out 5).trans rfl;have hfzga_5:=zqe BKga.out 5) | ((with_reducible refine zwi (t:=110) (p:=11) rfl ?_);refine zke (fun W'=>W'.heap[ga]? = some (.cells #[.slice A0_ x.f0.f0.f0.length c0_,.int .i64 x.f0.f0.f1,.slice A2 x.f0.f1.length c2,.int .i64 x.f0.f2,.int .i64 x.f0.f3,.slice A5 x.f1.length c5] 110 (0,0))∧Below wr.heap.size wr W'∧Below w.heap.size w W') ?hg ?hd ?hr ⟨(zwa (zwa (zwa (zwa (zwa (zwa BKga.out 0 _) 1 _) 2 _) 3 _) 4 _) 5 _).trans rfl,(zqd (zqd (zqd (zqd (zqd (zqd NB.out GA2.out) GA2.out) GA2.out) GA2.out) GA2.out) GA2.out),(zqd (zqd (zqd (zqd (zqd (zqd HB.out GA.out) GA.out) GA.out) GA.out) GA.out) GA.out)⟩ ?_;(case hg=>rfl);(case hd=>rfl);(case hr=>go_simp;try rfl);rintro w4 ⟨k1,k2,k3⟩;(try clear hczga_0 hczga_1 hczga_2 hczga_3 hczga_4 hczga_5);(try clear hfzga_0 hfzga_1 hfzga_2 hfzga_3 hfzga_4 hfzga_5);clear BKga NB HB;have BKga:=am k1;have NB:=am k2;have HB:=am k3;clear k1 k2 k3;obtain ⟨hczga_0,hczga_1,hczga_2,hczga_3,hczga_4,hczga_5⟩:=cO6 BKga.out) | (go_at_call 71;(refine (gf_shares.calls k A0_ c0_ x.f0.f0.f0 x.f0.f0.f1 A2 c2 x.f0.f1 x.f0.f2 x.f0.f3 A5 c5 x.f1 cups t1 t2 _ (kC HI0.out HB.out) HL0_.out (kC HI2.out HB.out) HL2_.out (kC HI5.out HB.out) HL5_.out HT.out).mono ?_);rintro e wc ⟨v0_,rfl,hr,hb⟩;have n1:=(bmv HB hb);have n2:=am (zqu NB.out NB.out.size hb);have HV:=am (Kd.R_lower hr NB.out.size);(try clear hczga_0 hczga_1 hczga_2 hczga_3 hczga_4 hczga_5);(try clear hfzga_0 hfzga_1 hfzga_2 hfzga_3 hfzga_4 hfzga_5);(try clear hczgb_0 hczgb_1);(try clear hfzgb_0 hfzgb_1);(try clear hy);(try clear hz);(try clear hz2);(try clear BKgb);clear HB NB hb hr BKga;have HB:=n1;have NB:=n2;clear n1 n2;obtain ⟨A6,c6,e6⟩:=Kd.R_slice HV.out;subst e6;have HS2:=am (Kd.N_below HS.out NB.out);have HO2:=am (Kd.R_below HO.out NB.out);have HLT:=am (show ∀ k,(.slice A8 xs.length c8 : Value).ownBlock = some k∨(.slice A9 ys.length c9 : Value).ownBlock = some k→k < wr.heap.size from fun k hk=>hk.elim (Kd.N_lt HS.out k) (Kd.R_lt HO.out k))) | ((with_reducible refine zqy (b:=.append) (xs:=#[.tmp 52,.tmp 54]) rfl ?_);at_builtin;refine Kd.N_append (Kd.slice 3 (Kd.int .i64)) (w0:=w) w.heap.size rfl (.tmp 52) (.tmp 54) 61 28 (.slice none 0 0) 24 rfl Tryz.underlying61 zn0 rfl (by decide) (by omega) (.slice A8 xs.length c8) xs t1 [.slice A6 t1.length c6] (fun k_=>w.heap.size≤k_∧some k_ ≠ (.slice A9 ys.length c9 : Value).ownBlock) (fun k=>wr.heap.size≤k) rfl rfl ?aP ?aK ?aF HS2.out HB.out HB.out.size ?aL ?_;(case aP=>exact rowFK HV.out);(case aK=>exact fun k hk=>⟨⟨Nat.le_trans HW9.out hk,fun he=>by have:=HLT.out k (.inr he.symm);omega⟩,fun he=>by have:=HLT.out k (.inl he.symm);omega⟩);(case aF=>exact fun k hk=>⟨Nat.le_trans HB.out.size hk,fun he=>by have:=Kd.R_lt HO2.out k he.symm;omega⟩);(case aL=>have:=HL1.out;omega);intro v1 w7 ho hb hg hat;have n1:=am ho;have n2:=am hb;have n3:=am (Kd.R_grown2 HO2.out rfl hg (fun k hk=>(HS2.out.1 k hk).2));clear ho hb hg hat HB HS2 HO2 HLT HV NB;have HS2:=n1;have HB:=n2;have HO2:=n3;clear n1 n2 n3) | ((with_reducible refine zqy (b:=.append) (xs:=#[.tmp 56,.tmp 58]) rfl ?_);at_builtin;refine Kd.R_append (Kd.int .i64) (w0:=w) w.heap.size rfl (.tmp 56) (.tmp 58) 28 3 (.int .i64 0) 8 rfl Tryz.underlying28 infoInt rfl (by decide) (by omega) (.slice A9 ys.length c9) ys t2 [.int .i64 t2] (fun _=>True) (fun _=>False) rfl rfl ?aP (fun _ hk=>hk.elim) (fun _ _=>trivial) HO2.out HB.out HB.out.size ?aL ?_;(case aP=>exact rfl);(case aL=>have:=HL2.out;omega);intro v2 w8 ho hb hg hat;have n1:=am ho;have n2:=am hb;have n3:=am (zpc HS2.out hg hat);clear ho hb hg hat HB HS2 HO2;have HO2:=n1;have HB:=n2;have HS2:=n3;clear n1 n2 n3))
   go_roundw
   case rel=>exact ⟨cups,i + 1,xs ++ [t1],ys ++ [t2],by omega,by omega,rfl,by go_num,HQ,HS2,HO2,HB⟩
   case measure=>simp [intOf];omega
  rw [if_pos hz0] at hc
  have hd0 : decide (0 < i) = true:=decide_eq_true hz0
  have hw1 : IntKind.i64.wrap (i - 1) = i - 1:=(i64_w _).trans (by unfold wrap64;omega)
  obtain ⟨j,hj⟩ : ∃ j : Int,i - 1 = j:=⟨_,rfl⟩
  rw [hj] at hw1 hc
  have hj0 : 0≤j:=by omega
  by_cases hj1 : j < (l1.length : Int)
  case neg=>rw [if_neg hj1] at hc;cases hc
  rw [if_pos hj1] at hc
  obtain ⟨adf,ef,hf0,hf1⟩:=zg5 HR1.out j hj0 hj1
  cases ef
  have HF0:=am hf0
  have HF1:=am hf1
  clear hf0 hf1
  generalize hfb : (zqc l1 j).f0 = fb at *
  generalize hfn : (zqc l1 j).f1 = fn at *
  clear hfb hfn
  by_cases h20 : 0≤fb
  case neg=>rw [if_neg h20] at hc;cases hc
  rw [if_pos h20] at hc
  by_cases h21 : fb < (ys.length : Int)
  case neg=>rw [if_neg h21] at hc;cases hc
  rw [if_pos h21] at hc
  obtain ⟨ad9,e9,hy⟩:=Kd.at_int (Kd.R_reads' HO.out).2.2 fb h20 h21
  cases e9
  have HY:=am hy
  clear hy
  by_cases h22 : 0≤fn
  case neg =>
   rw [if_neg h22] at hc
   have hd1 : decide (0≤fn) = false:=decide_eq_false h22
   obtain rfl:=Option.some.inj hc
   clear hc
   go_wp2_with (first | ((refine zqm (N:=11) rfl ?_);refine zqk rfl (N:=11) rfl (cs:=#[.slice none 0 0,.int .i64 0,.slice none 0 0,.int .i64 0,.int .i64 0,.slice none 0 0]) (t:=110) ?hr ?_;(case hr=>go_simp;try rfl);intro ga hg w2 hbox hb;have GA:=am (show w.heap.size≤ga by have:=HB.out.size;omega);have GA2:=am (Nat.le_of_eq hg.symm);have NB:=am hb;have n3:=(bmv HB hb);have BKga:=am hbox;clear hg hb hbox HB;have HB:=n3;clear n3;have hczga_0:=cO1 BKga.out;have hfzga_0:=zqe BKga.out 0;have hczga_1 : w2.cell? ⟨ga,1,none⟩ = some (.int .i64 0):=(zqb BKga.out 1).trans rfl;have hfzga_1:=zqe BKga.out 1;have hczga_2 : w2.cell? ⟨ga,2,none⟩ = some (.slice none 0 0):=(zqb BKga.out 2).trans rfl;have hfzga_2:=zqe BKga.out 2;have hczga_3 : w2.cell? ⟨ga,3,none⟩ = some (.int .i64 0):=(zqb BKga.out 3).trans rfl;have hfzga_3:=zqe BKga.out 3;have hczga_4 : w2.cell? ⟨ga,4,none⟩ = some (.int .i64 0):=(zqb BKga.out 4).trans rfl;have hfzga_4:=zqe BKga.out 4;have hczga_5 : w2.cell? ⟨ga,5,none⟩ = some (.slice none 0 0):=(zqb BKga.out 5).trans rfl;have hfzga_5:=zqe BKga.out 5) | ((with_reducible refine zwi (t:=110) (p:=11) rfl ?_);refine zke (fun W'=>W'.heap[ga]? = some (.cells #[.slice A0_ x.f0.f0.f0.length c0_,.int .i64 x.f0.f0.f1,.slice A2 x.f0.f1.length c2,.int .i64 x.f0.f2,.int .i64 x.f0.f3,.slice A5 x.f1.length c5] 110 (0,0))∧Below wr.heap.size wr W'∧Below w.heap.size w W') ?hg ?hd ?hr ⟨(zwa (zwa (zwa (zwa (zwa (zwa BKga.out 0 _) 1 _) 2 _) 3 _) 4 _) 5 _).trans rfl,(zqd (zqd (zqd (zqd (zqd (zqd NB.out GA2.out) GA2.out) GA2.out) GA2.out) GA2.out) GA2.out),(zqd (zqd (zqd (zqd (zqd (zqd HB.out GA.out) GA.out) GA.out) GA.out) GA.out) GA.out)⟩ ?_;(case hg=>rfl);(case hd=>rfl);(case hr=>go_simp;try rfl);rintro w4 ⟨k1,k2,k3⟩;(try clear hczga_0 hczga_1 hczga_2 hczga_3 hczga_4 hczga_5);(try clear hfzga_0 hfzga_1 hfzga_2 hfzga_3 hfzga_4 hfzga_5);clear BKga NB HB;have BKga:=am k1;have NB:=am k2;have HB:=am k3;clear k1 k2 k3;obtain ⟨hczga_0,hczga_1,hczga_2,hczga_3,hczga_4,hczga_5⟩:=cO6 BKga.out;have hf0 : w4.cell? _ = _:=(HB.out.cell (wbl HF0.out)).trans HF0.out;have hf1 : w4.cell? _ = _:=(HB.out.cell (wbl HF1.out)).trans HF1.out) | ((refine zqm (N:=12) rfl ?_);refine zqk rfl (N:=12) rfl (cs:=#[.int .i64 0,.int .i64 0]) (t:=66) ?hr ?_;(case hr=>go_simp;try rfl);intro gb hg w5 hbox hb;have HNab:=am (show ga ≠ gb by have:=zq7 BKga.out;omega);have GB:=am (show w.heap.size≤gb by have:=HB.out.size;omega);have GB2:=am (show wr.heap.size≤gb by have:=NB.out.size;omega);have n1:=(kmv hb BKga);have n2:=am (zqu NB.out NB.out.size hb);have n3:=(bmv HB hb);have BKgb:=am hbox;(try clear hczga_0 hczga_1 hczga_2 hczga_3 hczga_4 hczga_5);(try clear hfzga_0 hfzga_1 hfzga_2 hfzga_3 hfzga_4 hfzga_5);(try clear hf0 hf1);clear hg hb hbox HB NB BKga;have BKga:=n1;have NB:=n2;have HB:=n3;clear n1 n2 n3;have hczgb_0:=cO1 BKgb.out;have hfzgb_0:=zqe BKgb.out 0;have hczgb_1 : w5.cell? ⟨gb,1,none⟩ = some (.int .i64 0):=(zqb BKgb.out 1).trans rfl;have hfzgb_1:=zqe BKgb.out 1;have hf0 : w5.cell? _ = _:=(HB.out.cell (wbl HF0.out)).trans HF0.out;have hf1 : w5.cell? _ = _:=(HB.out.cell (wbl HF1.out)).trans HF1.out) | ((with_reducible refine zwi (t:=66) (p:=12) rfl ?_);refine zke (fun W'=>W'.heap[ga]? = some (.cells #[.slice A0_ x.f0.f0.f0.length c0_,.int .i64 x.f0.f0.f1,.slice A2 x.f0.f1.length c2,.int .i64 x.f0.f2,.int .i64 x.f0.f3,.slice A5 x.f1.length c5] 110 (0,0))∧W'.heap[gb]? = some (.cells #[.int .i64 fb,.int .i64 fn] 66 (0,0))∧Below wr.heap.size wr W'∧Below w.heap.size w W') ?hg ?hd ?hr ⟨(zqz (p:=⟨gb,1,none⟩) (zqz (p:=⟨gb,0,none⟩) BKga.out HNab.out (.int .i64 fb)) HNab.out (.int .i64 fn)),(zwa (zwa BKgb.out 0 _) 1 _).trans rfl,(zqd (zqd NB.out GB2.out) GB2.out),(zqd (zqd HB.out GB.out) GB.out)⟩ ?_;(case hg=>rfl);(case hd=>rfl);(case hr=>go_simp;try rfl);rintro w6 ⟨k1,k4,k2,k3⟩;(try clear hczga_0 hczga_1 hczga_2 hczga_3 hczga_4 hczga_5);(try clear hfzga_0 hfzga_1 hfzga_2 hfzga_3 hfzga_4 hfzga_5);(try clear hczgb_0 hczgb_1);(try clear hfzgb_0 hfzgb_1);(try clear hf0 hf1);clear BKga BKgb NB HB;have BKga:=am k1;have BKgb:=am k4;have NB:=am k2;have HB:=am k3;clear k1 k2 k3 k4;obtain ⟨hczga_0,hczga_1,hczga_2,hczga_3,hczga_4,hczga_5⟩:=cO6 BKga.out;obtain ⟨hczgb_0,hczgb_1⟩:=cO2 BKgb.out;have hy:=(NB.out.cell (World.block_lt_of_cell? wr _ HY.out)).trans HY.out) | (go_at_call 71;(refine (gf_shares.calls k A0_ c0_ x.f0.f0.f0 x.f0.f0.f1 A2 c2 x.f0.f1 x.f0.f2 x.f0.f3 A5 c5 x.f1 (rd ys fb) t1 t2 _ (kC HI0.out HB.out) HL0_.out (kC HI2.out HB.out) HL2_.out (kC HI5.out HB.out) HL5_.out HT.out).mono ?_);rintro e wc ⟨v0_,rfl,hr,hb⟩;have n1:=(bmv HB hb);have n2:=am (zqu NB.out NB.out.size hb);have HV:=am (Kd.R_lower hr NB.out.size);(try clear hczga_0 hczga_1 hczga_2 hczga_3 hczga_4 hczga_5);(try clear hfzga_0 hfzga_1 hfzga_2 hfzga_3 hfzga_4 hfzga_5);(try clear hczgb_0 hczgb_1);(try clear hfzgb_0 hfzgb_1);(try clear hy);(try clear hz);(try clear hz2);(try clear BKgb);clear HB NB hb hr BKga;have HB:=n1;have NB:=n2;clear n1 n2;obtain ⟨A6,c6,e6⟩:=Kd.R_slice HV.out;subst e6;have HS2:=am (Kd.N_below HS.out NB.out);have HO2:=am (Kd.R_below HO.out NB.out);have HLT:=am (show ∀ k,(.slice A8 xs.length c8 : Value).ownBlock = some k∨(.slice (some ad9) ys.length c9 : Value).ownBlock = some k→k < wr.heap.size from fun k hk=>hk.elim (Kd.N_lt HS.out k) (Kd.R_lt HO.out k))) | ((with_reducible refine zqy (b:=.append) (xs:=#[.tmp 52,.tmp 54]) rfl ?_);at_builtin;refine Kd.N_append (Kd.slice 3 (Kd.int .i64)) (w0:=w) w.heap.size rfl (.tmp 52) (.tmp 54) 61 28 (.slice none 0 0) 24 rfl Tryz.underlying61 zn0 rfl (by decide) (by omega) (.slice A8 xs.length c8) xs t1 [.slice A6 t1.length c6] (fun k_=>w.heap.size≤k_∧some k_ ≠ (.slice (some ad9) ys.length c9 : Value).ownBlock) (fun k=>wr.heap.size≤k) rfl rfl ?aP ?aK ?aF HS2.out HB.out HB.out.size ?aL ?_;(case aP=>exact rowFK HV.out);(case aK=>exact fun k hk=>⟨⟨Nat.le_trans HW9.out hk,fun he=>by have:=HLT.out k (.inr he.symm);omega⟩,fun he=>by have:=HLT.out k (.inl he.symm);omega⟩);(case aF=>exact fun k hk=>⟨Nat.le_trans HB.out.size hk,fun he=>by have:=Kd.R_lt HO2.out k he.symm;omega⟩);(case aL=>have:=HL1.out;omega);intro v1 w7 ho hb hg hat;have n1:=am ho;have n2:=am hb;have n3:=am (Kd.R_grown2 HO2.out rfl hg (fun k hk=>(HS2.out.1 k hk).2));clear ho hb hg hat HB HS2 HO2 HLT HV NB;have HS2:=n1;have HB:=n2;have HO2:=n3;clear n1 n2 n3) | ((with_reducible refine zqy (b:=.append) (xs:=#[.tmp 56,.tmp 58]) rfl ?_);at_builtin;refine Kd.R_append (Kd.int .i64) (w0:=w) w.heap.size rfl (.tmp 56) (.tmp 58) 28 3 (.int .i64 0) 8 rfl Tryz.underlying28 infoInt rfl (by decide) (by omega) (.slice (some ad9) ys.length c9) ys t2 [.int .i64 t2] (fun _=>True) (fun _=>False) rfl rfl ?aP (fun _ hk=>hk.elim) (fun _ _=>trivial) HO2.out HB.out HB.out.size ?aL ?_;(case aP=>exact rfl);(case aL=>have:=HL2.out;omega);intro v2 w8 ho hb hg hat;have n1:=am ho;have n2:=am hb;have n3:=am (zpc HS2.out hg hat);clear ho hb hg hat HB HS2 HO2;have HO2:=n1;have HB:=n2;have HS2:=n3;clear n1 n2 n3))
   go_roundw
   case rel=>exact ⟨rd ys fb,i + 1,xs ++ [t1],ys ++ [t2],by omega,by omega,rfl,by go_num,HQ,HS2,HO2,HB⟩
   case measure=>simp [intOf];omega
  rw [if_pos h22] at hc
  have hd1 : decide (0≤fn) = true:=decide_eq_true h22
  by_cases h23 : fb < (xs.length : Int)
  case neg=>rw [if_neg h23] at hc;cases hc
  rw [if_pos h23] at hc
  obtain ⟨ad8,A7,c7,e8,hz,hz_,hzc⟩:=at_L3 (Kd.N_reads' HS.out).2.2 fb h20 h23
  cases e8
  have HZ:=am hz
  clear hz
  generalize hrow : rd_L3 xs fb = row at *
  clear hrow
  by_cases h24 : fn < (row.length : Int)
  case neg=>rw [if_neg h24] at hc;cases hc
  rw [if_pos h24] at hc
  obtain ⟨adz,ez,hz2⟩:=Kd.at_int hzc fn h22 h24
  cases ez
  have HZ2:=am hz2
  clear hz2 hzc hz_
  obtain rfl:=Option.some.inj hc
  clear hc
  go_wp2_with (first | ((refine zqm (N:=11) rfl ?_);refine zqk rfl (N:=11) rfl (cs:=#[.slice none 0 0,.int .i64 0,.slice none 0 0,.int .i64 0,.int .i64 0,.slice none 0 0]) (t:=110) ?hr ?_;(case hr=>go_simp;try rfl);intro ga hg w2 hbox hb;have GA:=am (show w.heap.size≤ga by have:=HB.out.size;omega);have GA2:=am (Nat.le_of_eq hg.symm);have NB:=am hb;have n3:=(bmv HB hb);have BKga:=am hbox;clear hg hb hbox HB;have HB:=n3;clear n3;have hczga_0:=cO1 BKga.out;have hfzga_0:=zqe BKga.out 0;have hczga_1 : w2.cell? ⟨ga,1,none⟩ = some (.int .i64 0):=(zqb BKga.out 1).trans rfl;have hfzga_1:=zqe BKga.out 1;have hczga_2 : w2.cell? ⟨ga,2,none⟩ = some (.slice none 0 0):=(zqb BKga.out 2).trans rfl;have hfzga_2:=zqe BKga.out 2;have hczga_3 : w2.cell? ⟨ga,3,none⟩ = some (.int .i64 0):=(zqb BKga.out 3).trans rfl;have hfzga_3:=zqe BKga.out 3;have hczga_4 : w2.cell? ⟨ga,4,none⟩ = some (.int .i64 0):=(zqb BKga.out 4).trans rfl;have hfzga_4:=zqe BKga.out 4;have hczga_5 : w2.cell? ⟨ga,5,none⟩ = some (.slice none 0 0):=(zqb BKga.out 5).trans rfl;have hfzga_5:=zqe BKga.out 5) | ((with_reducible refine zwi (t:=110) (p:=11) rfl ?_);refine zke (fun W'=>W'.heap[ga]? = some (.cells #[.slice A0_ x.f0.f0.f0.length c0_,.int .i64 x.f0.f0.f1,.slice A2 x.f0.f1.length c2,.int .i64 x.f0.f2,.int .i64 x.f0.f3,.slice A5 x.f1.length c5] 110 (0,0))∧Below wr.heap.size wr W'∧Below w.heap.size w W') ?hg ?hd ?hr ⟨(zwa (zwa (zwa (zwa (zwa (zwa BKga.out 0 _) 1 _) 2 _) 3 _) 4 _) 5 _).trans rfl,(zqd (zqd (zqd (zqd (zqd (zqd NB.out GA2.out) GA2.out) GA2.out) GA2.out) GA2.out) GA2.out),(zqd (zqd (zqd (zqd (zqd (zqd HB.out GA.out) GA.out) GA.out) GA.out) GA.out) GA.out)⟩ ?_;(case hg=>rfl);(case hd=>rfl);(case hr=>go_simp;try rfl);rintro w4 ⟨k1,k2,k3⟩;(try clear hczga_0 hczga_1 hczga_2 hczga_3 hczga_4 hczga_5);(try clear hfzga_0 hfzga_1 hfzga_2 hfzga_3 hfzga_4 hfzga_5);clear BKga NB HB;have BKga:=am k1;have NB:=am k2;have HB:=am k3;clear k1 k2 k3;obtain ⟨hczga_0,hczga_1,hczga_2,hczga_3,hczga_4,hczga_5⟩:=cO6 BKga.out;have hf0 : w4.cell? _ = _:=(HB.out.cell (wbl HF0.out)).trans HF0.out;have hf1 : w4.cell? _ = _:=(HB.out.cell (wbl HF1.out)).trans HF1.out) | ((refine zqm (N:=12) rfl ?_);refine zqk rfl (N:=12) rfl (cs:=#[.int .i64 0,.int .i64 0]) (t:=66) ?hr ?_;(case hr=>go_simp;try rfl);intro gb hg w5 hbox hb;have HNab:=am (show ga ≠ gb by have:=zq7 BKga.out;omega);have GB:=am (show w.heap.size≤gb by have:=HB.out.size;omega);have GB2:=am (show wr.heap.size≤gb by have:=NB.out.size;omega);have n1:=(kmv hb BKga);have n2:=am (zqu NB.out NB.out.size hb);have n3:=(bmv HB hb);have BKgb:=am hbox;(try clear hczga_0 hczga_1 hczga_2 hczga_3 hczga_4 hczga_5);(try clear hfzga_0 hfzga_1 hfzga_2 hfzga_3 hfzga_4 hfzga_5);(try clear hf0 hf1);clear hg hb hbox HB NB BKga;have BKga:=n1;have NB:=n2;have HB:=n3;clear n1 n2 n3;have hczgb_0:=cO1 BKgb.out;have hfzgb_0:=zqe BKgb.out 0;have hczgb_1 : w5.cell? ⟨gb,1,none⟩ = some (.int .i64 0):=(zqb BKgb.out 1).trans rfl;have hfzgb_1:=zqe BKgb.out 1;have hf0 : w5.cell? _ = _:=(HB.out.cell (wbl HF0.out)).trans HF0.out;have hf1 : w5.cell? _ = _:=(HB.out.cell (wbl HF1.out)).trans HF1.out) | ((with_reducible refine zwi (t:=66) (p:=12) rfl ?_);refine zke (fun W'=>W'.heap[ga]? = some (.cells #[.slice A0_ x.f0.f0.f0.length c0_,.int .i64 x.f0.f0.f1,.slice A2 x.f0.f1.length c2,.int .i64 x.f0.f2,.int .i64 x.f0.f3,.slice A5 x.f1.length c5] 110 (0,0))∧W'.heap[gb]? = some (.cells #[.int .i64 fb,.int .i64 fn] 66 (0,0))∧Below wr.heap.size wr W'∧Below w.heap.size w W') ?hg ?hd ?hr ⟨(zqz (p:=⟨gb,1,none⟩) (zqz (p:=⟨gb,0,none⟩) BKga.out HNab.out (.int .i64 fb)) HNab.out (.int .i64 fn)),(zwa (zwa BKgb.out 0 _) 1 _).trans rfl,(zqd (zqd NB.out GB2.out) GB2.out),(zqd (zqd HB.out GB.out) GB.out)⟩ ?_;(case hg=>rfl);(case hd=>rfl);(case hr=>go_simp;try rfl);rintro w6 ⟨k1,k4,k2,k3⟩;(try clear hczga_0 hczga_1 hczga_2 hczga_3 hczga_4 hczga_5);(try clear hfzga_0 hfzga_1 hfzga_2 hfzga_3 hfzga_4 hfzga_5);(try clear hczgb_0 hczgb_1);(try clear hfzgb_0 hfzgb_1);(try clear hf0 hf1);clear BKga BKgb NB HB;have BKga:=am k1;have BKgb:=am k4;have NB:=am k2;have HB:=am k3;clear k1 k2 k3 k4;obtain ⟨hczga_0,hczga_1,hczga_2,hczga_3,hczga_4,hczga_5⟩:=cO6 BKga.out;obtain ⟨hczgb_0,hczgb_1⟩:=cO2 BKgb.out;have hy:=(NB.out.cell (World.block_lt_of_cell? wr _ HY.out)).trans HY.out;have hz:=(NB.out.cell (World.block_lt_of_cell? wr _ HZ.out)).trans HZ.out;have hz2:=(NB.out.cell (World.block_lt_of_cell? wr _ HZ2.out)).trans HZ2.out))
  go_quiet (fail)
  go_wp2_with (first | (go_at_call 71;(refine (gf_shares.calls k A0_ c0_ x.f0.f0.f0 x.f0.f0.f1 A2 c2 x.f0.f1 x.f0.f2 x.f0.f3 A5 c5 x.f1 (rd row fn) t1 t2 _ (kC HI0.out (zqa HB.out _)) HL0_.out (kC HI2.out (zqa HB.out _)) HL2_.out (kC HI5.out (zqa HB.out _)) HL5_.out HT.out).mono ?_);rintro e wc ⟨v0_,rfl,hr,hb⟩;have n1:=am (zqu (zqa HB.out _) (zqa HB.out _).size hb);have n2:=am (zqu (zqa NB.out _) (zqa NB.out _).size hb);have HV:=am (Kd.R_lower hr (zqa NB.out _).size);(try clear hczga_0 hczga_1 hczga_2 hczga_3 hczga_4 hczga_5);(try clear hfzga_0 hfzga_1 hfzga_2 hfzga_3 hfzga_4 hfzga_5);(try clear hczgb_0 hczgb_1);(try clear hfzgb_0 hfzgb_1);(try clear hy);(try clear hz);(try clear hz2);(try clear BKgb);clear HB NB hb hr BKga;have HB:=n1;have NB:=n2;clear n1 n2;obtain ⟨A6,c6,e6⟩:=Kd.R_slice HV.out;subst e6;have HS2:=am (Kd.N_below HS.out NB.out);have HO2:=am (Kd.R_below HO.out NB.out);have HLT:=am (show ∀ k,(.slice (some ad8) xs.length c8 : Value).ownBlock = some k∨(.slice (some ad9) ys.length c9 : Value).ownBlock = some k→k < wr.heap.size from fun k hk=>hk.elim (Kd.N_lt HS.out k) (Kd.R_lt HO.out k))) | ((with_reducible refine zqy (b:=.append) (xs:=#[.tmp 52,.tmp 54]) rfl ?_);at_builtin;refine Kd.N_append (Kd.slice 3 (Kd.int .i64)) (w0:=w) w.heap.size rfl (.tmp 52) (.tmp 54) 61 28 (.slice none 0 0) 24 rfl Tryz.underlying61 zn0 rfl (by decide) (by omega) (.slice (some ad8) xs.length c8) xs t1 [.slice A6 t1.length c6] (fun k_=>w.heap.size≤k_∧some k_ ≠ (.slice (some ad9) ys.length c9 : Value).ownBlock) (fun k=>wr.heap.size≤k) rfl rfl ?aP ?aK ?aF HS2.out HB.out HB.out.size ?aL ?_;(case aP=>exact rowFK HV.out);(case aK=>exact fun k hk=>⟨⟨Nat.le_trans HW9.out hk,fun he=>by have:=HLT.out k (.inr he.symm);omega⟩,fun he=>by have:=HLT.out k (.inl he.symm);omega⟩);(case aF=>exact fun k hk=>⟨Nat.le_trans HB.out.size hk,fun he=>by have:=Kd.R_lt HO2.out k he.symm;omega⟩);(case aL=>have:=HL1.out;omega);intro v1 w7 ho hb hg hat;have n1:=am ho;have n2:=am hb;have n3:=am (Kd.R_grown2 HO2.out rfl hg (fun k hk=>(HS2.out.1 k hk).2));clear ho hb hg hat HB HS2 HO2 HLT HV NB;have HS2:=n1;have HB:=n2;have HO2:=n3;clear n1 n2 n3) | ((with_reducible refine zqy (b:=.append) (xs:=#[.tmp 56,.tmp 58]) rfl ?_);at_builtin;refine Kd.R_append (Kd.int .i64) (w0:=w) w.heap.size rfl (.tmp 56) (.tmp 58) 28 3 (.int .i64 0) 8 rfl Tryz.underlying28 infoInt rfl (by decide) (by omega) (.slice (some ad9) ys.length c9) ys t2 [.int .i64 t2] (fun _=>True) (fun _=>False) rfl rfl ?aP (fun _ hk=>hk.elim) (fun _ _=>trivial) HO2.out HB.out HB.out.size ?aL ?_;(case aP=>exact rfl);(case aL=>have:=HL2.out;omega);intro v2 w8 ho hb hg hat;have n1:=am ho;have n2:=am hb;have n3:=am (zpc HS2.out hg hat);clear ho hb hg hat HB HS2 HO2;have HO2:=n1;have HB:=n2;have HS2:=n3;clear n1 n2 n3))
  go_roundw
  case rel=>exact ⟨rd row fn,i + 1,xs ++ [t1],ys ++ [t2],by omega,by omega,rfl,by go_num,HQ,HS2,HO2,HB⟩
  case measure=>simp [intOf];omega
def enough.f (k : Nat) (fs : List S110) (lC : List S66) (a1 a2 a3 cups : Int) : Option Bool:=
 (ca_flow.f k fs lC cups).bind fun x=>if 0≤a1 then (if a1 < (x.1.length : Int) then (if 0≤a2 then (if a2 < ((rd_L3 x.1 a1).length : Int) then some (decide (a3≤rd (rd_L3 x.1 a1) a2)) else none) else none) else none) else none
theorem ca_Least_1.calls (k : Nat) (ga gc g1 g2 g3 : Nat) (Af : Option Addr) (cf : Nat) (fs : List S110) (AX : Option Addr) (c0_0 : Nat) (lA : List S27) (AZ : Option Addr) (cC : Nat) (lC : List S66) (a1 a2 a3 cups : Int) (r : Bool) (w : World)
 (ba : w.heap[ga]? = some (.cells #[.slice Af fs.length cf] 122 (0,0))) (bc : w.heap[gc]? = some (.cells #[.slice AX lA.length c0_0,.slice AZ lC.length cC] 59 (0,0))) (b1 : w.heap[g1]? = some (.cells #[.int .i64 a1] 3 (0,0))) (b2 : w.heap[g2]? = some (.cells #[.int .i64 a2] 3 (0,0))) (b3 : w.heap[g3]? = some (.cells #[.int .i64 a3] 3 (0,0)))
 (hf : Kd.C k110 w Af fs.length fs) (h1 : Kd.C k66 w AZ lC.length lC) (h : enough.f k fs lC a1 a2 a3 cups = some r) :
 Calls Tryz.prog 83 #[.int .i64 cups,.pointer (some ⟨ga,0,none⟩),.pointer (some ⟨gc,0,none⟩),.pointer (some ⟨g1,0,none⟩),.pointer (some ⟨g2,0,none⟩),.pointer (some ⟨g3,0,none⟩)] w fun e w'=>e = .returned (.bool r)∧Below w.heap.size w w':=by
 have hu:=Tryz.underlying59
 have HF:=am hf
 have HR1:=am h1
 unfold enough.f at h
 obtain ⟨⟨x1,x2⟩,hx,h⟩:=obm h
 have HX:=am hx
 dsimp only at h
 clear hf h1 hx
 by_cases p1 : 0≤a1
 case neg=>rw [if_neg p1] at h;cases h
 rw [if_pos p1] at h
 by_cases p2 : a1 < (x1.length : Int)
 case neg=>rw [if_neg p2] at h;cases h
 rw [if_pos p2] at h
 by_cases p3 : 0≤a2
 case neg=>rw [if_neg p3] at h;cases h
 rw [if_pos p3] at h
 by_cases p4 : a2 < ((rd_L3 x1 a1).length : Int)
 case neg=>rw [if_neg p4] at h;cases h
 rw [if_pos p4] at h
 obtain rfl:=Option.some.inj h
 clear h
 have HB:=am (Below.refl w.heap.size w)
 have BKga:=am ba
 have BKgc:=am bc
 have BKg1:=am b1
 have BKg2:=am b2
 have BKg3:=am b3
 clear ba bc b1 b2 b3
 have hczga_0:=cO1 BKga.out
 obtain ⟨hczgc_0,hczgc_1⟩:=cO2 BKgc.out
 have hczg1_0:=cO1 BKg1.out
 have hczg2_0:=cO1 BKg2.out
 have hczg3_0:=cO1 BKg3.out
 go_enter Tryz.func83,Tryz.ntmps83
 go_wp2_with (go_at_call 81;(refine (ca_flow.calls k Af cf fs AZ cC lC cups x1 x2 _ (kC HF.out HB.out) (kC HR1.out HB.out) HX.out).mono ?_);rintro e wf ⟨v0_,v1_,rfl,hn,hr,hb⟩;(try clear hczga_0 hczgc_0 hczgc_1 hczg1_0 hczg2_0 hczg3_0);have n1:=(bmv HB hb);have nga:=(kmv hb BKga);have ngc:=(kmv hb BKgc);have ng1:=(kmv hb BKg1);have ng2:=(kmv hb BKg2);have ng3:=(kmv hb BKg3);clear HB hr BKga BKgc BKg1 BKg2 BKg3;have HB:=n1;clear n1;have BKga:=nga;clear nga;have BKgc:=ngc;clear ngc;have BKg1:=ng1;clear ng1;have BKg2:=ng2;clear ng2;have BKg3:=ng3;clear ng3;obtain ⟨A8,c8,e8⟩:=Kd.N_slice hn;subst e8;obtain ⟨ad8,A7,c7,e8,hz,hz_,hzc⟩:=at_L3 (Kd.N_reads' hn).2.2 a1 p1 p2;cases e8;obtain ⟨adz,ez,hz2⟩:=Kd.at_int hzc a2 p3 p4;cases ez;have hczga_0:=cO1 BKga.out;obtain ⟨hczgc_0,hczgc_1⟩:=cO2 BKgc.out;have hczg1_0:=cO1 BKg1.out;have hczg2_0:=cO1 BKg2.out;have hczg3_0:=cO1 BKg3.out;clear hn hb hz_ hzc)
 go_quiet (fail)
 go_wp2
 go_ret
 exact ⟨rfl,zqa HB.out _⟩
section
attribute [local go_sem] zwg zwf zwm zwl
def ca_isFlow.f (a0 : Int) : Option (Bool):=(ca_in.f a0 0 10000).bind fun t137=>(some t137)
theorem ca_isFlow.calls (a0 : Int) (r : Bool) (w : World) (h : ca_isFlow.f a0 = some r) :
 Calls Tryz.prog 67 #[.int .i64 a0] w fun e w'=>e = .returned (.bool r)∧zq0 w w':=by
 have H : ((ca_in.f a0 0 10000).bind fun t137=>(some t137)) = some r:=h
 clear h
 replace H:=obm H
 obtain ⟨t137,A20,H⟩:=H
 replace H : (some t137) = some r:=H
 have A2:=am A20
 clear A20
 obtain rfl:=Option.some.inj H
 go_enter Tryz.func67,Tryz.ntmps67
 go_wp2_with (first | ((with_reducible refine zqq (f:=79) rfl ?_);refine zq8 (some 4) rfl rfl Tryz.func79 (by kernel_rfl) rfl #[.int .i64 a0,.int .i64 0,.int .i64 10000] rfl (by (try simp only [List.map_toArray,List.map_cons,List.map_nil]);first | done | rfl | (simp only [List.length_drop,List.length_take];rfl)) ?_;(with_reducible refine (ca_in.calls a0 0 10000 t137 _ A2.out).mono ?_);rintro e w' ⟨rfl,⟨nd,rfl⟩⟩;refine ⟨_,rfl,?_⟩))
 go_ret
 exact ⟨by first | rfl | (simp;done) | (simp [*];done),by repeat (first | exact zq0.refl _ | apply zq0.step)⟩
end
def fillK (n : Nat) : Nat:=50 * (n + 2) + 100
end Go.Proofs.YtnnmnhpeblhiiaaGreatDoor.C

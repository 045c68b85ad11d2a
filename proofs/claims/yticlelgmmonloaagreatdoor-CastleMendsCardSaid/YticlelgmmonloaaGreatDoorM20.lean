/- A part of the proof: the walks of the functions that it reaches. TIGHT. -/
import Derived.Test.YticlelgmmonloaaGreatDoorM19
import Derived.BigQuiet
import Derived.Laws.EntriesVeiled
set_option linter.unusedVariables false
set_option linter.unusedSimpArgs false
namespace Go.Proofs.YticlelgmmonloaaGreatDoor.C
open Go.RowKit Go.Proofs.YticlelgmmonloaaGreatDoorW.PrintWords Go.Proofs.YticlelgmmonloaaGreatDoorW.PrintLast Go.Proofs.YticlelgmmonloaaGreatDoorW.PrintMore
set_option linter.unusedVariables false
set_option linter.unusedSimpArgs false
set_option maxHeartbeats 16000000
set_option maxRecDepth 100000
section
attribute [local go_sem] max2_int min2_int max_two min_two
def nz_Check.f (l0_0 : List (S126)) (a0_1 : Int) : Option (Int) := (nz_isTable.f l0_0 a0_1).bind fun t108 => (if t108 = true then (some 0) else (some 2))
theorem nz_Check.calls (A0_0 : Option Addr) (c0_0 : Nat) (l0_0 : List (S126)) (a0_1 : Int) (r : Int) (w : World) (hr0_0 : Kd.C k126 w A0_0 l0_0.length l0_0) (hc0_0 : l0_0.length ≤ c0_0) (h : nz_Check.f l0_0 a0_1 = some r) :
 Calls Tryz.prog 95 #[.agg #[.slice A0_0 l0_0.length c0_0,.int .i64 a0_1]] w fun e w' => e = .returned (.int .i64 r) ∧ Below w.heap.size w w' := by
 have hu24 := Tryz.underlying24
 have HR0_0 := am hr0_0
 have HC0_0 := am hc0_0
 clear hr0_0 hc0_0
 have HB := am (Below.refl w.heap.size w)
 have H : ((nz_isTable.f l0_0 a0_1).bind fun t108 => (if t108 = true then (some 0) else (some 2))) = some r := h
 clear h
 replace H := obm H
 obtain ⟨t108,A20,H⟩ := H
 replace H : (if t108 = true then (some 0) else (some 2)) = some r := H
 have A2 := am A20
 clear A20
 by_cases c3 : t108 = true
 · subst c3
   replace H : (some 0) = some r := by rw [if_pos rfl] at H;exact H
   obtain rfl := Option.some.inj H
   go_enter Tryz.func95,Tryz.ntmps95
   go_wp2_with (first | ((refine gate_dst (N := 1) rfl ?_);refine box_event rfl (N := 1) rfl (cs := #[.slice A0_0 l0_0.length c0_0,.int .i64 a0_1]) (t := 24) ?hr ?_;(case hr => go_simp;try rfl);intro gb107 hg w4 hbox hb;have BK107 := am (hbox);have GW107 := am (ge_new (HB.out) hg);have GE107 := am (ge_new (HB.out) hg);replace HB := am (below_step (HB.out) hb);clear hb hbox hg;obtain ⟨hcz5_0,hcz5_1⟩ := cO2 BK107.out) | ((with_reducible refine gate_callee (f := 115) rfl ?_);refine goesL_ (some 4) rfl rfl Tryz.func115 (by kernel_rfl) rfl #[.agg #[.slice A0_0 l0_0.length c0_0,.int .i64 a0_1]] rfl (by (try simp only [List.map_toArray,List.map_cons,List.map_nil]);first | done | rfl | (simp only [List.length_drop,List.length_take];rfl)) ?_;(refine (nz_isTable.calls _ _ l0_0 a0_1 true _ ?side1 ?side2 A2.out).mono ?_);(case side1 => exact kC HR0_0.out HB.out);(case side2 => exact HC0_0.out);rintro e w6 ⟨rfl,hb⟩;refine ⟨_,rfl,?_⟩;replace BK107 := (kmv hb BK107);replace HB := am (below_step (HB.out) hb);(try clear hb);(try clear hb2);(try clear hk);(try clear hi)))
   go_ret
   exact ⟨by first | rfl | (simp [*] <;> rfl),HB.out⟩
 · replace c3 := Bool.eq_false_iff.mpr c3
   subst c3
   replace H : (some 2) = some r := by rw [if_neg (show ¬ (false = true) by decide)] at H;exact H
   obtain rfl := Option.some.inj H
   go_enter Tryz.func95,Tryz.ntmps95
   go_wp2_with (first | ((refine gate_dst (N := 1) rfl ?_);refine box_event rfl (N := 1) rfl (cs := #[.slice A0_0 l0_0.length c0_0,.int .i64 a0_1]) (t := 24) ?hr ?_;(case hr => go_simp;try rfl);intro gb107 hg w7 hbox hb;have BK107 := am (hbox);have GW107 := am (ge_new (HB.out) hg);have GE107 := am (ge_new (HB.out) hg);replace HB := am (below_step (HB.out) hb);clear hb hbox hg;obtain ⟨hcz8_0,hcz8_1⟩ := cO2 BK107.out) | ((with_reducible refine gate_callee (f := 115) rfl ?_);refine goesL_ (some 4) rfl rfl Tryz.func115 (by kernel_rfl) rfl #[.agg #[.slice A0_0 l0_0.length c0_0,.int .i64 a0_1]] rfl (by (try simp only [List.map_toArray,List.map_cons,List.map_nil]);first | done | rfl | (simp only [List.length_drop,List.length_take];rfl)) ?_;(refine (nz_isTable.calls _ _ l0_0 a0_1 false _ ?side1 ?side2 A2.out).mono ?_);(case side1 => exact kC HR0_0.out HB.out);(case side2 => exact HC0_0.out);rintro e w9 ⟨rfl,hb⟩;refine ⟨_,rfl,?_⟩;replace BK107 := (kmv hb BK107);replace HB := am (below_step (HB.out) hb);(try clear hb);(try clear hb2);(try clear hk);(try clear hi)))
   go_ret
   exact ⟨by first | rfl | (simp [*] <;> rfl),HB.out⟩
end
def ca_isBasin_1.f (l0_0 : List S126) (x : S64) : Option Bool := (ca_in.f x.f0 0 (wrap64 ((l0_0.length : Int) - 1))).bind fun t => if t = true then (ca_isHeight.f x.f1).bind fun u => some (!u) else some true
theorem ca_isBasin_1.calls (g : Nat) (A0_0 : Option Addr) (c0_0 : Nat) (l0_0 : List S126) (a0_1 : Int) (A0_2 : Option Addr) (c0_2 : Nat) (l0_2 : List S64) (a0_3 a0_4 : Int) (x : S64) (r : Bool) (w : World) (hb : w.heap[g]? = some (.cells #[.slice A0_0 l0_0.length c0_0,.int .i64 a0_1,.slice A0_2 l0_2.length c0_2,.int .i64 a0_3,.int .i64 a0_4] 27 (0,0))) (h : ca_isBasin_1.f l0_0 x = some r) :
 Calls Tryz.prog 94 #[.agg #[.int .i64 x.f0,.int .i64 x.f1],.pointer (some ⟨g,0,none⟩)] w fun e w' => e = .returned (.bool r) ∧ Below w.heap.size w w' := by
 have hu := Tryz.underlying27
 have huz := Tryz.underlying64
 have hut := Tryz.underlying24
 have HB := am (Below.refl w.heap.size w)
 have BKg := am hb
 clear hb
 unfold ca_isBasin_1.f at h
 obtain ⟨t,ht,h⟩ := obm h
 have H1 := am ht
 clear ht
 cases t with
 | true =>
  rw [if_pos rfl] at h
  obtain ⟨u,hu2,h⟩ := obm h
  obtain rfl := Option.some.inj h
  have H2 := am hu2
  clear hu2 h
  go_enter Tryz.func94,Tryz.ntmps94
  go_wp2_with (first | ((refine gate_dst (N := 2) rfl ?_);(try (refine gate_guard (by rfl) ?_;dsimp only));refine box_event rfl (N := 2) rfl (cs := #[.int .i64 x.f0,.int .i64 x.f1]) (t := 64) ?hr ?_;(case hr => go_simp;try rfl);intro q hg w2 hbox hb;replace HB := (bmv HB hb);replace BKg := (kmv hb BKg);clear hg;have BKq := am hbox;clear hbox;(try clear hczg_0 hczg_1 hczg_2 hczg_3 hczg_4);obtain ⟨hczg_0,hczg_1,hczg_2,hczg_3,hczg_4⟩ := cO5 BKg.out;(try clear hczq_0 hczq_1);obtain ⟨hczq_0,hczq_1⟩ := cO2 BKq.out;clear hb) | (go_at_call 73;(with_reducible refine (ca_in.calls x.f0 0 (wrap64 ((l0_0.length : Int) - 1)) true _ H1.out).mono ?_);rintro e w1 ⟨rfl,hd⟩;have hb := hd.below;clear hd;replace HB := (bmv HB hb);replace BKg := (kmv hb BKg);replace BKq := (kmv hb BKq);(try clear hczg_0 hczg_1 hczg_2 hczg_3 hczg_4);obtain ⟨hczg_0,hczg_1,hczg_2,hczg_3,hczg_4⟩ := cO5 BKg.out;(try clear hczq_0 hczq_1);obtain ⟨hczq_0,hczq_1⟩ := cO2 BKq.out;clear hb) | (go_at_call 68;(with_reducible refine (ca_isHeight.calls x.f1 u _ H2.out).mono ?_);rintro e w1 ⟨rfl,hd⟩;have hb := hd.below;clear hd;replace HB := (bmv HB hb);replace BKg := (kmv hb BKg);replace BKq := (kmv hb BKq);(try clear hczg_0 hczg_1 hczg_2 hczg_3 hczg_4);obtain ⟨hczg_0,hczg_1,hczg_2,hczg_3,hczg_4⟩ := cO5 BKg.out;(try clear hczq_0 hczq_1);obtain ⟨hczq_0,hczq_1⟩ := cO2 BKq.out;clear hb))
  go_ret
  exact ⟨rfl,HB.out⟩
 | false =>
  rw [if_neg (by decide)] at h
  obtain rfl := Option.some.inj h
  clear h
  go_enter Tryz.func94,Tryz.ntmps94
  go_wp2_with (first | ((refine gate_dst (N := 2) rfl ?_);(try (refine gate_guard (by rfl) ?_;dsimp only));refine box_event rfl (N := 2) rfl (cs := #[.int .i64 x.f0,.int .i64 x.f1]) (t := 64) ?hr ?_;(case hr => go_simp;try rfl);intro q hg w2 hbox hb;replace HB := (bmv HB hb);replace BKg := (kmv hb BKg);clear hg;have BKq := am hbox;clear hbox;(try clear hczg_0 hczg_1 hczg_2 hczg_3 hczg_4);obtain ⟨hczg_0,hczg_1,hczg_2,hczg_3,hczg_4⟩ := cO5 BKg.out;(try clear hczq_0 hczq_1);obtain ⟨hczq_0,hczq_1⟩ := cO2 BKq.out;clear hb) | (go_at_call 73;(with_reducible refine (ca_in.calls x.f0 0 (wrap64 ((l0_0.length : Int) - 1)) false _ H1.out).mono ?_);rintro e w1 ⟨rfl,hd⟩;have hb := hd.below;clear hd;replace HB := (bmv HB hb);replace BKg := (kmv hb BKg);replace BKq := (kmv hb BKq);(try clear hczg_0 hczg_1 hczg_2 hczg_3 hczg_4);obtain ⟨hczg_0,hczg_1,hczg_2,hczg_3,hczg_4⟩ := cO5 BKg.out;(try clear hczq_0 hczq_1);obtain ⟨hczq_0,hczq_1⟩ := cO2 BKq.out;clear hb))
  go_ret
  exact ⟨rfl,HB.out⟩
def ca_isBasin.f (l0_0 : List S126) (a0_1 : Int) (l0_2 : List S64) (a0_3 a0_4 : Int) : Option Bool :=
 (nz_Check.f l0_0 a0_1).bind fun t1 => if t1 = 0 then (ca_in.f (l0_2.length : Int) 1 6).bind fun t2 => (if t2 = true then (ca_isHeight.f a0_3).bind fun t3 => (if t3 = true then (ca_in.f a0_4 0 100).bind fun t4 => (if t4 = true then (anyM (ca_isBasin_1.f l0_0) l0_2).bind fun u => some (!u) else some false) else some false) else some false) else some false
theorem ca_isBasin.calls (A0_0 : Option Addr) (c0_0 : Nat) (l0_0 : List S126) (a0_1 : Int) (A0_2 : Option Addr) (c0_2 : Nat) (l0_2 : List S64) (a0_3 a0_4 : Int) (r : Bool) (w : World) (hr0_0 : Kd.C k126 w A0_0 l0_0.length l0_0) (hc0_0 : l0_0.length ≤ c0_0) (hr0_2 : Kd.C k64 w A0_2 l0_2.length l0_2) (hc0_2 : l0_2.length ≤ c0_2) (h : ca_isBasin.f l0_0 a0_1 l0_2 a0_3 a0_4 = some r) :
 Calls Tryz.prog 57 #[.agg #[.slice A0_0 l0_0.length c0_0,.int .i64 a0_1,.slice A0_2 l0_2.length c0_2,.int .i64 a0_3,.int .i64 a0_4]] w fun e w' => e = .returned (.bool r) ∧ Below w.heap.size w w' := by
 have hu := Tryz.underlying27
 have hut := Tryz.underlying24
 have hm : l0_2.length ≤ 9223372036854775807 := Kd.C_max hr0_2
 have HR := am hr0_0
 have HC := am hc0_0
 have HR2 := am hr0_2
 have HC2 := am hc0_2
 have HB := am (Below.refl w.heap.size w)
 clear hr0_0 hc0_0 hr0_2 hc0_2
 unfold ca_isBasin.f at h
 obtain ⟨t1,ht,h⟩ := obm h
 have H1 := am ht
 clear ht
 by_cases h1 : t1 = 0
 case neg =>
  rw [if_neg h1] at h
  obtain rfl := Option.some.inj h
  clear h
  have b1 : (t1 == 0) = false := beq_eq_false_iff_ne.2 h1
  clear h1
  go_enter Tryz.func57,Tryz.ntmps57
  go_wp2_with (first | ((refine gate_dst (N := 1) rfl ?_);(try (refine gate_guard (by rfl) ?_;dsimp only));refine box_event rfl (N := 1) rfl (cs := #[.slice A0_0 l0_0.length c0_0,.int .i64 a0_1,.slice A0_2 l0_2.length c0_2,.int .i64 a0_3,.int .i64 a0_4]) (t := 27) ?hr ?_;(case hr => go_simp;try rfl);intro g hg w2 hbox hb;replace HR := (cmv HR hb);replace HR2 := (cmv HR2 hb);replace HB := (bmv HB hb);clear hg;have BKg := am hbox;clear hbox;(try clear hczg_0 hczg_1 hczg_2 hczg_3 hczg_4);obtain ⟨hczg_0,hczg_1,hczg_2,hczg_3,hczg_4⟩ := cO5 BKg.out;clear hb) | (go_at_call 95;(with_reducible refine (nz_Check.calls A0_0 c0_0 l0_0 a0_1 t1 _ HR.out HC.out H1.out).mono ?_);rintro e w1 ⟨rfl,hb⟩;replace HR := (cmv HR hb);replace HR2 := (cmv HR2 hb);replace HB := (bmv HB hb);replace BKg := (kmv hb BKg);(try clear hczg_0 hczg_1 hczg_2 hczg_3 hczg_4);obtain ⟨hczg_0,hczg_1,hczg_2,hczg_3,hczg_4⟩ := cO5 BKg.out;clear hb))
  go_ret
  exact ⟨rfl,HB.out⟩
 subst h1
 rw [if_pos rfl] at h
 obtain ⟨t2,ht,h⟩ := obm h
 have H2 := am ht
 clear ht
 cases t2 with
 | false =>
  rw [if_neg (by decide)] at h
  obtain rfl := Option.some.inj h
  clear h
  go_enter Tryz.func57,Tryz.ntmps57
  go_wp2_with (first | ((refine gate_dst (N := 1) rfl ?_);(try (refine gate_guard (by rfl) ?_;dsimp only));refine box_event rfl (N := 1) rfl (cs := #[.slice A0_0 l0_0.length c0_0,.int .i64 a0_1,.slice A0_2 l0_2.length c0_2,.int .i64 a0_3,.int .i64 a0_4]) (t := 27) ?hr ?_;(case hr => go_simp;try rfl);intro g hg w2 hbox hb;replace HR := (cmv HR hb);replace HR2 := (cmv HR2 hb);replace HB := (bmv HB hb);clear hg;have BKg := am hbox;clear hbox;(try clear hczg_0 hczg_1 hczg_2 hczg_3 hczg_4);obtain ⟨hczg_0,hczg_1,hczg_2,hczg_3,hczg_4⟩ := cO5 BKg.out;clear hb) | (go_at_call 95;(with_reducible refine (nz_Check.calls A0_0 c0_0 l0_0 a0_1 0 _ HR.out HC.out H1.out).mono ?_);rintro e w1 ⟨rfl,hb⟩;replace HR := (cmv HR hb);replace HR2 := (cmv HR2 hb);replace HB := (bmv HB hb);replace BKg := (kmv hb BKg);(try clear hczg_0 hczg_1 hczg_2 hczg_3 hczg_4);obtain ⟨hczg_0,hczg_1,hczg_2,hczg_3,hczg_4⟩ := cO5 BKg.out;clear hb) | (go_at_call 73;(with_reducible refine (ca_in.calls (l0_2.length : Int) 1 6 false _ H2.out).mono ?_);rintro e w1 ⟨rfl,hd⟩;have hb := hd.below;clear hd;replace HR := (cmv HR hb);replace HR2 := (cmv HR2 hb);replace HB := (bmv HB hb);replace BKg := (kmv hb BKg);(try clear hczg_0 hczg_1 hczg_2 hczg_3 hczg_4);obtain ⟨hczg_0,hczg_1,hczg_2,hczg_3,hczg_4⟩ := cO5 BKg.out;clear hb))
  go_ret
  exact ⟨rfl,HB.out⟩
 | true =>
  rw [if_pos rfl] at h
  obtain ⟨t3,ht,h⟩ := obm h
  have H3 := am ht
  clear ht
  cases t3 with
  | false =>
   rw [if_neg (by decide)] at h
   obtain rfl := Option.some.inj h
   clear h
   go_enter Tryz.func57,Tryz.ntmps57
   go_wp2_with (first | ((refine gate_dst (N := 1) rfl ?_);(try (refine gate_guard (by rfl) ?_;dsimp only));refine box_event rfl (N := 1) rfl (cs := #[.slice A0_0 l0_0.length c0_0,.int .i64 a0_1,.slice A0_2 l0_2.length c0_2,.int .i64 a0_3,.int .i64 a0_4]) (t := 27) ?hr ?_;(case hr => go_simp;try rfl);intro g hg w2 hbox hb;replace HR := (cmv HR hb);replace HR2 := (cmv HR2 hb);replace HB := (bmv HB hb);clear hg;have BKg := am hbox;clear hbox;(try clear hczg_0 hczg_1 hczg_2 hczg_3 hczg_4);obtain ⟨hczg_0,hczg_1,hczg_2,hczg_3,hczg_4⟩ := cO5 BKg.out;clear hb) | (go_at_call 95;(with_reducible refine (nz_Check.calls A0_0 c0_0 l0_0 a0_1 0 _ HR.out HC.out H1.out).mono ?_);rintro e w1 ⟨rfl,hb⟩;replace HR := (cmv HR hb);replace HR2 := (cmv HR2 hb);replace HB := (bmv HB hb);replace BKg := (kmv hb BKg);(try clear hczg_0 hczg_1 hczg_2 hczg_3 hczg_4);obtain ⟨hczg_0,hczg_1,hczg_2,hczg_3,hczg_4⟩ := cO5 BKg.out;clear hb) | (go_at_call 73;(with_reducible refine (ca_in.calls (l0_2.length : Int) 1 6 true _ H2.out).mono ?_);rintro e w1 ⟨rfl,hd⟩;have hb := hd.below;clear hd;replace HR := (cmv HR hb);replace HR2 := (cmv HR2 hb);replace HB := (bmv HB hb);replace BKg := (kmv hb BKg);(try clear hczg_0 hczg_1 hczg_2 hczg_3 hczg_4);obtain ⟨hczg_0,hczg_1,hczg_2,hczg_3,hczg_4⟩ := cO5 BKg.out;clear hb) | (go_at_call 68;(with_reducible refine (ca_isHeight.calls a0_3 false _ H3.out).mono ?_);rintro e w1 ⟨rfl,hd⟩;have hb := hd.below;clear hd;replace HR := (cmv HR hb);replace HR2 := (cmv HR2 hb);replace HB := (bmv HB hb);replace BKg := (kmv hb BKg);(try clear hczg_0 hczg_1 hczg_2 hczg_3 hczg_4);obtain ⟨hczg_0,hczg_1,hczg_2,hczg_3,hczg_4⟩ := cO5 BKg.out;clear hb))
   go_ret
   exact ⟨rfl,HB.out⟩
  | true =>
   rw [if_pos rfl] at h
   obtain ⟨t4,ht,h⟩ := obm h
   have H4 := am ht
   clear ht
   cases t4 with
   | false =>
    rw [if_neg (by decide)] at h
    obtain rfl := Option.some.inj h
    clear h
    go_enter Tryz.func57,Tryz.ntmps57
    go_wp2_with (first | ((refine gate_dst (N := 1) rfl ?_);(try (refine gate_guard (by rfl) ?_;dsimp only));refine box_event rfl (N := 1) rfl (cs := #[.slice A0_0 l0_0.length c0_0,.int .i64 a0_1,.slice A0_2 l0_2.length c0_2,.int .i64 a0_3,.int .i64 a0_4]) (t := 27) ?hr ?_;(case hr => go_simp;try rfl);intro g hg w2 hbox hb;replace HR := (cmv HR hb);replace HR2 := (cmv HR2 hb);replace HB := (bmv HB hb);clear hg;have BKg := am hbox;clear hbox;(try clear hczg_0 hczg_1 hczg_2 hczg_3 hczg_4);obtain ⟨hczg_0,hczg_1,hczg_2,hczg_3,hczg_4⟩ := cO5 BKg.out;clear hb) | (go_at_call 95;(with_reducible refine (nz_Check.calls A0_0 c0_0 l0_0 a0_1 0 _ HR.out HC.out H1.out).mono ?_);rintro e w1 ⟨rfl,hb⟩;replace HR := (cmv HR hb);replace HR2 := (cmv HR2 hb);replace HB := (bmv HB hb);replace BKg := (kmv hb BKg);(try clear hczg_0 hczg_1 hczg_2 hczg_3 hczg_4);obtain ⟨hczg_0,hczg_1,hczg_2,hczg_3,hczg_4⟩ := cO5 BKg.out;clear hb) | (go_at_call 73;(with_reducible refine (ca_in.calls (l0_2.length : Int) 1 6 true _ H2.out).mono ?_);rintro e w1 ⟨rfl,hd⟩;have hb := hd.below;clear hd;replace HR := (cmv HR hb);replace HR2 := (cmv HR2 hb);replace HB := (bmv HB hb);replace BKg := (kmv hb BKg);(try clear hczg_0 hczg_1 hczg_2 hczg_3 hczg_4);obtain ⟨hczg_0,hczg_1,hczg_2,hczg_3,hczg_4⟩ := cO5 BKg.out;clear hb) | (go_at_call 68;(with_reducible refine (ca_isHeight.calls a0_3 true _ H3.out).mono ?_);rintro e w1 ⟨rfl,hd⟩;have hb := hd.below;clear hd;replace HR := (cmv HR hb);replace HR2 := (cmv HR2 hb);replace HB := (bmv HB hb);replace BKg := (kmv hb BKg);(try clear hczg_0 hczg_1 hczg_2 hczg_3 hczg_4);obtain ⟨hczg_0,hczg_1,hczg_2,hczg_3,hczg_4⟩ := cO5 BKg.out;clear hb) | (go_at_call 73;(with_reducible refine (ca_in.calls a0_4 0 100 false _ H4.out).mono ?_);rintro e w1 ⟨rfl,hd⟩;have hb := hd.below;clear hd;replace HR := (cmv HR hb);replace HR2 := (cmv HR2 hb);replace HB := (bmv HB hb);replace BKg := (kmv hb BKg);(try clear hczg_0 hczg_1 hczg_2 hczg_3 hczg_4);obtain ⟨hczg_0,hczg_1,hczg_2,hczg_3,hczg_4⟩ := cO5 BKg.out;clear hb))
    go_ret
    exact ⟨rfl,HB.out⟩
   | true =>
    rw [if_pos rfl] at h
    obtain ⟨u,ht,h⟩ := obm h
    obtain rfl := Option.some.inj h
    have H5 := am ht
    clear ht h
    go_enter Tryz.func57,Tryz.ntmps57
    go_wp2_with (first | ((refine gate_dst (N := 1) rfl ?_);(try (refine gate_guard (by rfl) ?_;dsimp only));refine box_event rfl (N := 1) rfl (cs := #[.slice A0_0 l0_0.length c0_0,.int .i64 a0_1,.slice A0_2 l0_2.length c0_2,.int .i64 a0_3,.int .i64 a0_4]) (t := 27) ?hr ?_;(case hr => go_simp;try rfl);intro g hg w2 hbox hb;replace HR := (cmv HR hb);replace HR2 := (cmv HR2 hb);replace HB := (bmv HB hb);clear hg;have BKg := am hbox;clear hbox;(try clear hczg_0 hczg_1 hczg_2 hczg_3 hczg_4);obtain ⟨hczg_0,hczg_1,hczg_2,hczg_3,hczg_4⟩ := cO5 BKg.out;clear hb) | (go_at_call 95;(with_reducible refine (nz_Check.calls A0_0 c0_0 l0_0 a0_1 0 _ HR.out HC.out H1.out).mono ?_);rintro e w1 ⟨rfl,hb⟩;replace HR := (cmv HR hb);replace HR2 := (cmv HR2 hb);replace HB := (bmv HB hb);replace BKg := (kmv hb BKg);(try clear hczg_0 hczg_1 hczg_2 hczg_3 hczg_4);obtain ⟨hczg_0,hczg_1,hczg_2,hczg_3,hczg_4⟩ := cO5 BKg.out;clear hb) | (go_at_call 73;(with_reducible refine (ca_in.calls (l0_2.length : Int) 1 6 true _ H2.out).mono ?_);rintro e w1 ⟨rfl,hd⟩;have hb := hd.below;clear hd;replace HR := (cmv HR hb);replace HR2 := (cmv HR2 hb);replace HB := (bmv HB hb);replace BKg := (kmv hb BKg);(try clear hczg_0 hczg_1 hczg_2 hczg_3 hczg_4);obtain ⟨hczg_0,hczg_1,hczg_2,hczg_3,hczg_4⟩ := cO5 BKg.out;clear hb) | (go_at_call 68;(with_reducible refine (ca_isHeight.calls a0_3 true _ H3.out).mono ?_);rintro e w1 ⟨rfl,hd⟩;have hb := hd.below;clear hd;replace HR := (cmv HR hb);replace HR2 := (cmv HR2 hb);replace HB := (bmv HB hb);replace BKg := (kmv hb BKg);(try clear hczg_0 hczg_1 hczg_2 hczg_3 hczg_4);obtain ⟨hczg_0,hczg_1,hczg_2,hczg_3,hczg_4⟩ := cO5 BKg.out;clear hb) | (go_at_call 73;(with_reducible refine (ca_in.calls a0_4 0 100 true _ H4.out).mono ?_);rintro e w1 ⟨rfl,hd⟩;have hb := hd.below;clear hd;replace HR := (cmv HR hb);replace HR2 := (cmv HR2 hb);replace HB := (bmv HB hb);replace BKg := (kmv hb BKg);(try clear hczg_0 hczg_1 hczg_2 hczg_3 hczg_4);obtain ⟨hczg_0,hczg_1,hczg_2,hczg_3,hczg_4⟩ := cO5 BKg.out;clear hb) | (go_at_call 96;refine (any_isBasin g (ca_isBasin_1.f l0_0) A0_2 c0_2 l0_2 u _ HR2.out (fun x b W hx hq hb => ca_isBasin_1.calls g A0_0 c0_0 l0_0 a0_1 A0_2 c0_2 l0_2 a0_3 a0_4 x b W (blk_below BKg.out hb) hq) H5.out).mono ?_;rintro e w1 ⟨rfl,hb⟩;replace HR := (cmv HR hb);replace HR2 := (cmv HR2 hb);replace HB := (bmv HB hb);replace BKg := (kmv hb BKg);(try clear hczg_0 hczg_1 hczg_2 hczg_3 hczg_4);obtain ⟨hczg_0,hczg_1,hczg_2,hczg_3,hczg_4⟩ := cO5 BKg.out;clear hb))
    go_ret
    exact ⟨rfl,HB.out⟩
def fillK (n : Nat) : Nat := 50 * (n + 2) + 100
section
attribute [local go_sem] max2_int min2_int max_two min_two
set_option linter.unusedSimpArgs false
end
set_option linter.unusedSimpArgs false
set_option linter.unusedSimpArgs false
section
attribute [local go_sem] max2_int min2_int max_two min_two
def ca_moved.l0 : Nat → List Int → Int → Int → List (S126) → Int → List (S64) → Int → Int → Option (Int × (List (S64)) × Int × Int)
 | 0,_,_,_,_,_,_,_,_ => none
 | k + 1,x11,x12,x13,x1032000,x1032001,x1032002,x1032003,x1032004 => if x13 < x12 then (if 0 ≤ x13 then (if x13 < (x11.length : Int) then (if x13 < (x1032002.length : Int) then (ca_moved.l0 k x11 x12 (wrap64 (x13 + 1)) x1032000 x1032001 (x1032002.set (x13 : Int).toNat (⟨(rd_T64 x1032002 x13).f0,rd x11 x13⟩ : S64)) x1032003 x1032004) else (none)) else (none)) else (none)) else (some (x1032001,x1032002,x1032003,x1032004))
def ca_moved.f (k : Nat) (l0_0 : List (S126)) (a0_1 : Int) (l0_2 : List (S64)) (a0_3 : Int) (a0_4 : Int) (l1 : List Int) : Option (Int × (List (S64)) × Int × Int) := (sl_Clone_Z.f l0_2).bind fun t1033 => (ca_moved.l0 k l1 (l1.length : Int) 0 l0_0 a0_1 t1033 a0_3 a0_4)
theorem ca_moved.calls (k : Nat) (A0_0 : Option Addr) (c0_0 : Nat) (l0_0 : List (S126)) (a0_1 : Int) (A0_2 : Option Addr) (c0_2 : Nat) (l0_2 : List (S64)) (a0_3 : Int) (a0_4 : Int) (A1 : Option Addr) (c1 : Nat) (l1 : List Int) (r1 : Int) (r2 : List (S64)) (r3 : Int) (r4 : Int) (w : World) (hr0_0 : Kd.C k126 w A0_0 l0_0.length l0_0) (hc0_0 : l0_0.length ≤ c0_0) (hr0_2 : Kd.C k64 w A0_2 l0_2.length l0_2) (hc0_2 : l0_2.length ≤ c0_2) (hr1 : Kd.C (Kd.int .i64) w A1 l1.length l1) (hc1 : l1.length ≤ c1) (h : ca_moved.f k l0_0 a0_1 l0_2 a0_3 a0_4 l1 = some (r1,r2,r3,r4)) :
 Calls Tryz.prog 78 #[.agg #[.slice A0_0 l0_0.length c0_0,.int .i64 a0_1,.slice A0_2 l0_2.length c0_2,.int .i64 a0_3,.int .i64 a0_4],.slice A1 l1.length c1] w fun e w' => ∃ v1_ : Value,e = .returned (.agg #[.slice A0_0 l0_0.length c0_0,.int .i64 r1,v1_,.int .i64 r3,.int .i64 r4]) ∧ Kd.R k64 64 w' w.heap.size (fun _ => True) v1_ r2 ∧ Below w.heap.size w w' := by
 have hu27 := Tryz.underlying27
 have HR0_0 := am hr0_0
 have HC0_0 := am hc0_0
 clear hr0_0 hc0_0
 have HR0_2 := am hr0_2
 have HC0_2 := am hc0_2
 clear hr0_2 hc0_2
 have HR1 := am hr1
 have HC1 := am hc1
 clear hr1 hc1
 have HB := am (Below.refl w.heap.size w)
 have H : ((sl_Clone_Z.f l0_2).bind fun t1033 => (ca_moved.l0 k l1 (l1.length : Int) 0 l0_0 a0_1 t1033 a0_3 a0_4)) = some (r1,r2,r3,r4) := h
 clear h
 replace H := obm H
 obtain ⟨t1033,A30,H⟩ := H
 replace H : (ca_moved.l0 k l1 (l1.length : Int) 0 l0_0 a0_1 t1033 a0_3 a0_4) = some (r1,r2,r3,r4) := H
 have A3 := am A30
 clear A30
 replace H' := am H
 go_enter Tryz.func78,Tryz.ntmps78
 go_wp2_with (first | ((refine gate_dst (N := 2) rfl ?_);refine box_event rfl (N := 2) rfl (cs := #[.slice A0_0 l0_0.length c0_0,.int .i64 a0_1,.slice A0_2 l0_2.length c0_2,.int .i64 a0_3,.int .i64 a0_4]) (t := 27) ?hr ?_;(case hr => go_simp;try rfl);intro gb1031 hg w4 hbox hb;have BK1031 := am (hbox);have GW1031 := am (ge_new (HB.out) hg);have GE1031 := am (ge_new (HB.out) hg);replace HB := am (below_step (HB.out) hb);clear hb hbox hg) | ((refine gate_dst (N := 4) rfl ?_);refine box_event rfl (N := 4) rfl (cs := #[.slice none 0 0,.int .i64 0,.slice none 0 0,.int .i64 0,.int .i64 0]) (t := 27) ?hr ?_;(case hr => go_simp;try rfl);intro gb1032 hg w5 hbox hb;have BK1032 := am (hbox);have GW1032 := am (ge_new (HB.out) hg);have GE1032 := am (ge_new (HB.out) hg);have NB1031_1032 := am (ne_new BK1031.out hg);have NB1032_1031 := am (ne_new2 BK1031.out hg);replace BK1031 := (kmv hb BK1031);replace HB := am (below_step (HB.out) hb);clear hb hbox hg;have hnb6 := NB1031_1032.out;have hnc6 := NB1032_1031.out;obtain ⟨hcz7_0,hcz7_1,hcz7_2,hcz7_3,hcz7_4⟩ := cO5 BK1031.out;have hfz7_0 := blk_frozen BK1031.out 0;have hfz7_1 := blk_frozen BK1031.out 1;have hfz7_2 := blk_frozen BK1031.out 2;have hfz7_3 := blk_frozen BK1031.out 3;have hfz7_4 := blk_frozen BK1031.out 4) | ((with_reducible refine gate_callee (f := 103) rfl ?_);refine goesL_ (some 9) rfl rfl Tryz.func103 (by kernel_rfl) rfl #[.slice A0_2 l0_2.length c0_2] rfl (by (try simp only [List.map_toArray,List.map_cons,List.map_nil]);first | done | rfl | (simp only [List.length_drop,List.length_take];rfl)) ?_;(refine (sl_Clone_Z.calls _ _ l0_2 t1033 _ ?side1 ?side2 A3.out).mono ?_);(case side1 => exact kC HR0_2.out HB.out);(case side2 => exact HC0_2.out);rintro e w8 ⟨v1034,rfl,ho0,hb⟩;refine ⟨_,rfl,?_⟩;have HO1035 := am (Kd.R_lower ho0 (below_size (HB.out)));replace BK1031 := (kmv hb BK1031);replace BK1032 := (kmv hb BK1032);replace HB := am (below_step (HB.out) hb);(try clear hb);(try clear hb2);(try clear hk);(try clear hi);(try clear ho0);obtain ⟨Ao9,co9,eo9⟩ := Kd.R_slice HO1035.out;subst eo9;obtain ⟨hcz10_0,hcz10_1,hcz10_2,hcz10_3,hcz10_4⟩ := cO5 BK1031.out;have hfz10_0 := blk_frozen BK1031.out 0;have hfz10_1 := blk_frozen BK1031.out 1;have hfz10_2 := blk_frozen BK1031.out 2;have hfz10_3 := blk_frozen BK1031.out 3;have hfz10_4 := blk_frozen BK1031.out 4))
 go_loopg [13] k (fun kq v13 w' => ∃ (x13_1 : Int) (x1032002_1 : List (S64)) (u1032002 : Value),v13 = .int .i64 x13_1 ∧ Aside0 (ca_moved.l0 kq l1 (l1.length : Int) x13_1 l0_0 a0_1 x1032002_1 a0_3 a0_4 = some (r1,r2,r3,r4)) ∧ Aside0 (kq ≤ k) ∧ Aside0 (Kd.R k64 64 w' w.heap.size (fun _ => True) u1032002 x1032002_1) ∧ Aside0 (w'.heap[gb1031]? = some (.cells #[(.slice A0_0 l0_0.length c0_0),.int .i64 a0_1,u1032002,.int .i64 a0_3,.int .i64 a0_4] 27 (0,0))) ∧ Aside0 (w'.heap[gb1032]? = some (.cells #[(.slice none 0 0),.int .i64 0,(.slice none 0 0),.int .i64 0,.int .i64 0] 27 (0,0))) ∧ Aside0 (Below w.heap.size w w'))
 case atStart => exact ⟨(0),(t1033),(.slice Ao9 t1033.length co9),(by first | rfl | (simp;done) | (simp [*];done)),H',⟨Nat.le_refl _⟩,⟨by (with_reducible repeat (first | apply Kd.R_alloc | apply Kd.R_drewN | apply Kd.R_drew));exact Kd.R_mono (Kd.R_far (p := ⟨gb1031,2,none⟩) (Kd.R_types HO1035.out BK1031.out (by decide)) (fun _ hk => hk.2) (.slice Ao9 t1033.length co9)) (fun _ hk => trivial)⟩,⟨(blk_put (cs := #[.slice A0_0 l0_0.length c0_0,.int .i64 a0_1,.slice A0_2 l0_2.length c0_2,.int .i64 a0_3,.int .i64 a0_4]) BK1031.out 2 _ rfl)⟩,⟨(blk_far BK1032.out NB1032_1031.out _)⟩,⟨by repeat (first | (with_reducible first | exact HB.out | refine below_set ?_ (Aside0.out (by assumption)) | apply below_alloc | apply pw_below_drewN) | exact HB.out)⟩⟩
 case round =>
  clear H'
  obtain ⟨x13_1,x1032002_1,u1032002,rfl,HA,HK1,HO_1032002,BK1031,BK1032,HB⟩ := hrel
  cases gk with
  | zero => exact absurd HA.out (by simp [ca_moved.l0])
  | succ k1 =>
   have H := HA.out
   clear HA
   simp only [ca_moved.l0] at H
   by_cases c11 : x13_1 < (l1.length : Int)
   case neg =>
    rw [if_neg c11] at H
    have c11b0 : decide (x13_1 < (l1.length : Int)) = false := decide_eq_false c11
    clear c11
    simp only [Option.some.injEq,Prod.mk.injEq] at H
    obtain ⟨rfl,rfl,rfl,rfl⟩ := H
    have hnb20 := NB1031_1032.out
    have hnc20 := NB1032_1031.out
    obtain ⟨hcz21_0,hcz21_1,hcz21_2,hcz21_3,hcz21_4⟩ := cO5 BK1031.out
    have hfz21_0 := blk_frozen BK1031.out 0
    have hfz21_1 := blk_frozen BK1031.out 1
    have hfz21_2 := blk_frozen BK1031.out 2
    have hfz21_3 := blk_frozen BK1031.out 3
    have hfz21_4 := blk_frozen BK1031.out 4
    obtain ⟨hcz22_0,hcz22_1,hcz22_2,hcz22_3,hcz22_4⟩ := cO5 BK1032.out
    have hfz22_0 := blk_frozen BK1032.out 0
    have hfz22_1 := blk_frozen BK1032.out 1
    have hfz22_2 := blk_frozen BK1032.out 2
    have hfz22_3 := blk_frozen BK1032.out 3
    have hfz22_4 := blk_frozen BK1032.out 4
    obtain ⟨Ao23,co23,eo23⟩ := Kd.R_slice HO_1032002.out
    subst eo23
    go_wp2
    refine bodyPost_ret (results_cell_row rfl _ _ gb1032 27 #[.slice A0_0 l0_0.length c0_0,.int .i64 a0_1,.slice Ao23 x1032002_1.length co23,.int .i64 a0_3,.int .i64 a0_4] (0,0) _ rfl (blk_put (cs := #[.slice A0_0 l0_0.length c0_0,.int .i64 a0_1,.slice Ao23 x1032002_1.length co23,.int .i64 a0_3,.int .i64 0]) (blk_put (cs := #[.slice A0_0 l0_0.length c0_0,.int .i64 a0_1,.slice Ao23 x1032002_1.length co23,.int .i64 0,.int .i64 0]) (blk_put (cs := #[.slice A0_0 l0_0.length c0_0,.int .i64 a0_1,.slice none 0 0,.int .i64 0,.int .i64 0]) (blk_put (cs := #[.slice A0_0 l0_0.length c0_0,.int .i64 0,.slice none 0 0,.int .i64 0,.int .i64 0]) (blk_put (cs := #[.slice none 0 0,.int .i64 0,.slice none 0 0,.int .i64 0,.int .i64 0]) BK1032.out 0 _ rfl) 1 _ rfl) 2 _ rfl) 3 _ rfl) 4 _ rfl) Tryz.underlying27 rfl (by kernel_rfl)) rfl ?_
    exact ⟨_,by first | rfl | (simp [*] <;> rfl),by (with_reducible repeat (first | apply Kd.R_alloc | apply Kd.R_drewN | apply Kd.R_drew));exact Kd.R_mono (Kd.R_far (p := ⟨gb1032,4,none⟩) (Kd.R_far (p := ⟨gb1032,3,none⟩) (Kd.R_far (p := ⟨gb1032,2,none⟩) (Kd.R_far (p := ⟨gb1032,1,none⟩) (Kd.R_far (p := ⟨gb1032,0,none⟩) (Kd.R_types HO_1032002.out BK1032.out (by decide)) (fun _ hk => hk.2) (.slice A0_0 l0_0.length c0_0)) (fun _ hk => hk.2) (.int .i64 a0_1)) (fun _ hk => hk.2) (.slice Ao23 x1032002_1.length co23)) (fun _ hk => hk.2) (.int .i64 a0_3)) (fun _ hk => hk.2) (.int .i64 a0_4)) (fun _ hk => trivial),by repeat (first | (with_reducible first | exact HB.out | refine below_set ?_ (Aside0.out (by assumption)) | apply below_alloc | apply pw_below_drewN) | exact HB.out)⟩
   rw [if_pos c11] at H
   have c11b0 : decide (x13_1 < (l1.length : Int)) = true := decide_eq_true c11
   clear c11
   by_cases c12 : 0 ≤ x13_1
   case neg =>
    rw [if_neg c12] at H
    exact absurd H (by simp)
   rw [if_pos c12] at H
   have c12b0 : decide (0 ≤ x13_1) = true := decide_eq_true c12
   clear c12
   by_cases c13 : x13_1 < (l1.length : Int)
   case neg =>
    rw [if_neg c13] at H
    exact absurd H (by simp)
   rw [if_pos c13] at H
   have c13b0 : decide (x13_1 < (l1.length : Int)) = true := decide_eq_true c13
   clear c13
   by_cases c14 : x13_1 < (x1032002_1.length : Int)
   case neg =>
    rw [if_neg c14] at H
    exact absurd H (by simp)
   rw [if_pos c14] at H
   have c14b0 : decide (x13_1 < (x1032002_1.length : Int)) = true := decide_eq_true c14
   clear c14
   obtain ⟨y1037,hy1037⟩ : ∃ y_ : List (S64),y_ = (x1032002_1.set (x13_1 : Int).toNat (⟨(rd_T64 x1032002_1 x13_1).f0,rd l1 x13_1⟩ : S64)) := ⟨_,rfl⟩
   replace H : (ca_moved.l0 k1 l1 (l1.length : Int) (wrap64 (x13_1 + 1)) l0_0 a0_1 y1037 a0_3 a0_4) = some (r1,r2,r3,r4) := by first | (rw [hy1037];with_reducible exact H) | (have H2_ := (Option.bind_some _ _).symm.trans H;rw [hy1037];with_reducible exact H2_) | (have H2_ := (Option.bind_some _ _).symm.trans H;with_reducible exact H2_) | with_reducible exact H | (rw [hy1037];exact H) | exact H
   have Ny1037 := am hy1037
   clear hy1037
   replace H' := am H
   have p1036 : 0 ≤ (x13_1 : Int) := of_decide_eq_true (by assumption)
   have q1036 : x13_1 < (l1.length : Int) := of_decide_eq_true (by assumption)
   obtain ⟨ad1036,e1036,hx1036_0⟩ := Kd.at_int HR1.out x13_1 p1036 q1036
   cases e1036
   replace hx1036_0 := (HB.out.cell (wbl hx1036_0)).trans hx1036_0
   replace p1036 := eq_true p1036
   replace q1036 := eq_true q1036
   have hnb16 := NB1031_1032.out
   have hnc16 := NB1032_1031.out
   obtain ⟨hcz17_0,hcz17_1,hcz17_2,hcz17_3,hcz17_4⟩ := cO5 BK1031.out
   have hfz17_0 := blk_frozen BK1031.out 0
   have hfz17_1 := blk_frozen BK1031.out 1
   have hfz17_2 := blk_frozen BK1031.out 2
   have hfz17_3 := blk_frozen BK1031.out 3
   have hfz17_4 := blk_frozen BK1031.out 4
   have p15 : 0 ≤ (x13_1 : Int) := of_decide_eq_true (by assumption)
   have q15 : (x13_1 : Int) < ((x1032002_1.length : Int) : Int) := of_decide_eq_true (by assumption)
   obtain ⟨go15,co15,eo15,gb15,gl15,cl15,HG15⟩ := Kd.R_form HO_1032002.out (by omega)
   (first | cases eo15 | (injection eo15 with ea_ en_ ec_;(first | subst ea_ | (injection ea_ with ea_;subst ea_));subst ec_;clear en_))
   have GB15 := am gb15
   have GG15 := am HG15
   clear gb15 gl15 HG15
   obtain ⟨ce15,hcl15,hM15,hcc15,hfr15⟩ := Kd.R_elem HO_1032002.out z64 (x13_1 : Int) p15 q15
   obtain rfl := k64_openM hM15
   have hx15_0 : wr.cell? ⟨go15,(x13_1 : Int).toNat * 2,none⟩ = some (.int .i64 ((rd_T64 x1032002_1 x13_1).f0)) := hcc15 0 _ rfl
   have hx15_1 : wr.cell? ⟨go15,(x13_1 : Int).toNat * 2 + 1,none⟩ = some (.int .i64 ((rd_T64 x1032002_1 x13_1).f1)) := hcc15 1 _ rfl
   have hf15_0 : wr.frozen? ⟨go15,(x13_1 : Int).toNat * 2,none⟩ = false := hfr15 0
   have hf15_1 : wr.frozen? ⟨go15,(x13_1 : Int).toNat * 2 + 1,none⟩ = false := hfr15 1
   clear hcl15 hcc15 hfr15 hM15
   replace p15 := eq_true p15
   replace q15 := eq_true q15
   have HX18 := am (show Kd.R k64 64 wr w.heap.size (fun _ => True) (.slice (some ⟨go15,0,none⟩) x1032002_1.length co15) x1032002_1 from HO_1032002.out)
   obtain ⟨ce18,hcl18,hM18,hcc18,hfr18⟩ := Kd.R_elem HX18.out z64 (x13_1 : Int) (of_decide_eq_true (by assumption)) (by have h_ : (x13_1 : Int) < ((x1032002_1.length : Int) : Int) := of_decide_eq_true (by assumption);first | exact h_ | (have e_ := (Kd.R_reads' HO_1032002.out).1;omega) | simpa using h_)
   obtain rfl := k64_openM hM18
   have HP18 := Kd.R_seg HX18.out (x13_1 : Int) (of_decide_eq_true (by assumption)) (by have h_ : (x13_1 : Int) < ((x1032002_1.length : Int) : Int) := of_decide_eq_true (by assumption);first | exact h_ | (have e_ := (Kd.R_reads' HO_1032002.out).1;omega) | simpa using h_) (seg := [.int .i64 (rd l1 x13_1)]) (j := 1) hcl18 hcc18 (show 2 ≤ 2 from by decide) (x' := (⟨(rd_T64 x1032002_1 x13_1).f0,rd l1 x13_1⟩ : S64)) (k64_mkM _ _ _ (⟨(rd_T64 x1032002_1 x13_1).f0,rd l1 x13_1⟩ : S64) ) (fun _ hk => hk)
   have hx18_1 := hcc18 1 _ rfl
   (try simp only [show (k64).sz = 2 from rfl,Nat.mul_one,Nat.add_zero] at hx18_1)
   have hf18_1 := hfr18 1
   (try simp only [show (k64).sz = 2 from rfl,Nat.mul_one,Nat.add_zero] at hf18_1)
   clear hcl18 hcc18 hfr18 hM18
   go_wp2_with (first | ((with_reducible refine gate_store (t := 3) (p := 23) rfl ?_);refine store_event (t := 3) (p := 23) (v := ?vo_w19) (w1 := (wr.setCell ⟨go15,(x13_1 : Int).toNat * 2 + 1,none⟩ (.int .i64 (rd l1 x13_1)))) ?hg ?ho ?hn ?hr ?_;(case ho => rfl);(case hg => rfl);(case hn => rfl);(case hr => go_simp;try rfl);intro w19 hw;have hg : wr.grownBy w19 (some go15) := (by rw [hw];exact HP18.2);have hp_ : Kd.R k64 64 w19 w.heap.size (fun _ => True) (.slice (some ⟨go15,0,none⟩) x1032002_1.length co15) y1037 := (by rw [hw,Ny1037.out];exact HP18.1);clear HP18;have n0_ := am (hp_);have n1_ := am (blk_grown (g := gb1031) (o := .cells #[.slice A0_0 l0_0.length c0_0,.int .i64 a0_1,.slice (some ⟨go15,0,none⟩) x1032002_1.length co15,.int .i64 a0_3,.int .i64 a0_4] 27 (0,0)) BK1031.out hg (Kd.R_ne HO_1032002.out BK1031.out (by decide)));have n2_ := am (blk_grown (g := gb1032) (o := .cells #[.slice none 0 0,.int .i64 0,.slice none 0 0,.int .i64 0,.int .i64 0] 27 (0,0)) BK1032.out hg (Kd.R_ne HO_1032002.out BK1032.out (by decide)));have n3_ := am ((by rw [hw];exact below_set (HB.out) GB15.out : Below w.heap.size w w19));clear HO_1032002;clear BK1031;clear BK1032;clear HB;have HO_1032002 := n0_;have BK1031 := n1_;have BK1032 := n2_;have HB := n3_;clear n0_ n1_ n2_ n3_;clear hg hw hp_))
   go_roundg k1
   case measure => have := HK1.out;omega
   case rel => exact ⟨(wrap64 (x13_1 + 1)),(y1037),(.slice (some ⟨go15,0,none⟩) x1032002_1.length co15),(by first | rfl | (simp;done) | (simp [*];done)),H',⟨by have := HK1.out;omega⟩,⟨by (with_reducible repeat (first | apply Kd.R_alloc | apply Kd.R_drewN | apply Kd.R_drew));exact HO_1032002.out⟩,⟨BK1031.out⟩,⟨BK1032.out⟩,⟨HB.out⟩⟩
end
def sufGo (shares : List Int) : List Int → Int → Option Bool
 | [],_ => some true
 | n :: rest,i => if i < (shares.length : Int) then (if rd shares i < n then some false else sufGo shares rest (i + 1)) else none
def suffice.f (k : Nat) (l0_0 : List S126) (a0_1 : Int) (l0_2 : List S64) (a0_3 a0_4 : Int) (cups : Int) (claims l1 : List Int) : Option Bool :=
 (ca_moved.f k l0_0 a0_1 l0_2 a0_3 a0_4 l1).bind fun x => (ca_fill.f (fillK x.2.1.length) l0_0 x.1 x.2.1 x.2.2.1 x.2.2.2).bind fun y => (gf_shares.f k l0_0 y.1 x.2.1 y.2.1 y.2.2.1 y.2.2.2 cups).bind fun z => sufGo z.1 claims 0
theorem suffice.calls (k : Nat) (gb gq gc : Nat) (A0_0 : Option Addr) (c0_0 : Nat) (l0_0 : List S126) (a0_1 : Int) (A0_2 : Option Addr) (c0_2 : Nat) (l0_2 : List S64) (a0_3 a0_4 cups : Int) (A3 : Option Addr) (c3 : Nat) (claims : List Int) (A1 : Option Addr) (c1 : Nat) (l1 : List Int) (r : Bool) (w : World)
 (bb : w.heap[gb]? = some (.cells #[.slice A0_0 l0_0.length c0_0,.int .i64 a0_1,.slice A0_2 l0_2.length c0_2,.int .i64 a0_3,.int .i64 a0_4] 27 (0,0))) (bq : w.heap[gq]? = some (.cells #[.int .i64 cups] 3 (0,0))) (bc : w.heap[gc]? = some (.cells #[.slice A3 claims.length c3] 30 (0,0)))
 (hr0_0 : Kd.C k126 w A0_0 l0_0.length l0_0) (hc0_0 : l0_0.length ≤ c0_0) (hr0_2 : Kd.C k64 w A0_2 l0_2.length l0_2) (hc0_2 : l0_2.length ≤ c0_2) (hr3 : Kd.C (Kd.int .i64) w A3 claims.length claims) (hr1 : Kd.C (Kd.int .i64) w A1 l1.length l1) (hc1 : l1.length ≤ c1)
 (h : suffice.f k l0_0 a0_1 l0_2 a0_3 a0_4 cups claims l1 = some r) :
 Calls Tryz.prog 77 #[.slice A1 l1.length c1,.pointer (some ⟨gb,0,none⟩),.pointer (some ⟨gq,0,none⟩),.pointer (some ⟨gc,0,none⟩)] w fun e w' => e = .returned (.bool r) ∧ Below w.heap.size w w' := by
 have hu := Tryz.underlying27
 have hm := am (Kd.C_max hr3)
 unfold suffice.f at h
 obtain ⟨⟨x1,x2,x3,x4⟩,hx,h⟩ := obm h
 obtain ⟨⟨y1,y2,y3,y4⟩,hy,h⟩ := obm h
 obtain ⟨⟨z1,z2⟩,hz,h⟩ := obm h
 dsimp only at h hx hy hz
 have H1 := am hx
 have H2 := am hy
 have H3 := am hz
 have HQ := am h
 clear hx hy hz h
 have HR0 := am hr0_0
 have HC0 := am hc0_0
 have HR2 := am hr0_2
 have HC2 := am hc0_2
 have HR3 := am hr3
 have HR1 := am hr1
 have HC1 := am hc1
 clear hr0_0 hc0_0 hr0_2 hc0_2 hr3 hr1 hc1
 have HB := am (Below.refl w.heap.size w)
 have BKb := am bb
 have BKq := am bq
 have BKc := am bc
 clear bb bq bc
 obtain ⟨hczb_0,hczb_1,hczb_2,hczb_3,hczb_4⟩ := cO5 BKb.out
 have hczq_0 := cO1 BKq.out
 have hczc_0 := cO1 BKc.out
 go_enter Tryz.func77,Tryz.ntmps77
 go_wp2
 go_region_held3 (fun W => W.cell? ⟨gb,0,none⟩ = some (.slice A0_0 l0_0.length c0_0) ∧ W.cell? ⟨gb,1,none⟩ = some (.int .i64 a0_1) ∧ W.cell? ⟨gb,2,none⟩ = some (.slice A0_2 l0_2.length c0_2) ∧ W.cell? ⟨gb,3,none⟩ = some (.int .i64 a0_3) ∧ W.cell? ⟨gb,4,none⟩ = some (.int .i64 a0_4) ∧ W.cell? ⟨gq,0,none⟩ = some (.int .i64 cups)) (first | go_keep | (exact ⟨(blk_cell BKb.out 0).trans rfl,(blk_cell BKb.out 1).trans rfl,(blk_cell BKb.out 2).trans rfl,(blk_cell BKb.out 3).trans rfl,(blk_cell BKb.out 4).trans rfl,(blk_cell BKq.out 0).trans rfl⟩)) ((first | (go_at_call 78;refine (ca_moved.calls k A0_0 c0_0 l0_0 a0_1 A0_2 c0_2 l0_2 a0_3 a0_4 A1 c1 l1 x1 x2 x3 x4 _ (kC HR0.out (below_drew HB.out)) HC0.out (kC HR2.out (below_drew HB.out)) HC2.out (kC HR1.out (below_drew HB.out)) HC1.out H1.out).mono ?_;rintro e wm ⟨vm,rfl,hr,hb⟩;have n0 := am (below_then (below_drew HB.out) ((below_drew HB.out)).size hb);have nb := am (blk_below (blk_drew BKb.out) hb);have nq := am (blk_below (blk_drew BKq.out) hb);have nc := am (blk_below (blk_drew BKc.out) hb);obtain ⟨Am,cm,rfl,hlm,hcm⟩ := Kd.R_reads hr;have HRm := am hcm;have HCm := am hlm;clear hr hcm hlm;clear HB hb BKb BKq BKc;have HB := n0;have BKb := nb;clear nb;have BKq := nq;clear nq;have BKc := nc;clear nc;clear n0;(try clear hczb_0 hczb_1 hczb_2 hczb_3 hczb_4 hczq_0 hczc_0);obtain ⟨hczb_0,hczb_1,hczb_2,hczb_3,hczb_4⟩ := cO5 BKb.out;have hczq_0 := cO1 BKq.out;have hczc_0 := cO1 BKc.out) | (go_at_call 59;refine (ca_fill.calls (fillK x2.length) A0_0 c0_0 l0_0 x1 Am cm x2 x3 x4 y1 y2 y3 y4 _ (kC HR0.out HB.out) HC0.out HRm.out HCm.out H2.out).mono ?_;rintro e wg ⟨vf,rfl,hs,hb⟩;have n0 := am (below_then HB.out (HB.out).size hb);have nb := (kmv hb BKb);have nq := (kmv hb BKq);have nc := (kmv hb BKc);obtain ⟨Af,cf,rfl,hlf,hcf⟩ := Kd.S_reads hs;have HRf := am hcf;have HCf := am hlf;have nm := (cmv HRm hb);clear hs hcf hlf HRm;have HRm := nm;clear nm;clear HB hb BKb BKq BKc;have HB := n0;have BKb := nb;clear nb;have BKq := nq;clear nq;have BKc := nc;clear nc;clear n0;(try clear hczb_0 hczb_1 hczb_2 hczb_3 hczb_4 hczq_0 hczc_0);obtain ⟨hczb_0,hczb_1,hczb_2,hczb_3,hczb_4⟩ := cO5 BKb.out;have hczq_0 := cO1 BKq.out;have hczc_0 := cO1 BKc.out) | (go_at_call 60;refine (gf_shares.calls k A0_0 c0_0 l0_0 y1 Am cm x2 y2 y3 Af cf y4 cups z1 z2 _ (kC HR0.out HB.out) HC0.out HRm.out HCm.out HRf.out HCf.out H3.out).mono ?_;rintro e ws ⟨vs,rfl,hr,hb⟩;have n0 := am (below_then HB.out (HB.out).size hb);have nb := (kmv hb BKb);have nq := (kmv hb BKq);have nc := (kmv hb BKc);obtain ⟨As,cs,rfl,hls,hcs⟩ := Kd.R_reads hr;have HRs := am hcs;clear hr hcs hls;clear HB hb BKb BKq BKc;have HB := n0;have BKb := nb;clear nb;have BKq := nq;clear nq;have BKc := nc;clear nc;clear n0;(try clear hczb_0 hczb_1 hczb_2 hczb_3 hczb_4 hczq_0 hczc_0);obtain ⟨hczb_0,hczb_1,hczb_2,hczb_3,hczb_4⟩ := cO5 BKb.out;have hczq_0 := cO1 BKq.out;have hczc_0 := cO1 BKc.out)))
 have NB := am (Below.refl ws.heap.size ws)
 go_wp2
 go_loopw [21] (fun v21 w' => ∃ i : Int,0 ≤ i ∧ i ≤ claims.length ∧ v21 = .int .i64 i ∧ Aside0 (sufGo z1 (claims.drop i.toNat) i = some r) ∧ Aside0 (Below w.heap.size w w') ∧ Aside0 (Below ws.heap.size ws w')) (fun v21 _ => claims.length - (intOf v21).toNat)
 case atStart => exact ⟨0,by omega,by omega,rfl,HQ,(by first | exact HB | exact ⟨by repeat (first | exact HB.out | apply below_drew1 | apply pw_below_drewN)⟩),(by first | exact NB | exact ⟨by repeat (first | exact NB.out | apply below_drew1 | apply pw_below_drewN)⟩)⟩
 case round =>
  clear HQ HB NB
  (try clear hczb_0 hczb_1 hczb_2 hczb_3 hczb_4 hczq_0 hczc_0)
  obtain ⟨i,p1,hi,rfl,HQ,HB,NB⟩ := hrel
  have hmm := hm.out
  by_cases hlt : i < (claims.length : Int)
  case neg =>
   go_wp2
   go_ret
   have hq := HQ.out
   rw [List.drop_of_length_le (by omega)] at hq
   exact ⟨ret_bool_eq (Option.some.inj hq),HB.out⟩
  obtain ⟨ad,e1,hx0⟩ := Kd.at_int HR3.out i p1 hlt
  cases e1
  replace hx0 := (HB.out.cell (wbl hx0)).trans hx0
  have hq := HQ.out
  rw [drop_at 0 claims i p1 hlt,show claims.getD i.toNat 0 = rd claims i from rfl] at hq
  simp only [sufGo] at hq
  clear HQ
  generalize rd claims i = n at *
  by_cases h2 : i < (z1.length : Int)
  case neg => rw [if_neg h2] at hq;cases hq
  rw [if_pos h2] at hq
  obtain ⟨ads,e2,hy0⟩ := Kd.at_int HRs.out i p1 h2
  cases e2
  replace hy0 := (NB.out.cell (World.block_lt_of_cell? ws _ hy0)).trans hy0
  generalize rd z1 i = s at *
  by_cases h3 : s < n
  · rw [if_pos h3] at hq
    have hd := decide_eq_true h3
    obtain rfl := Option.some.inj hq
    clear hq h3
    go_wp2
    go_ret
    exact ⟨rfl,HB.out⟩
  · rw [if_neg h3] at hq
    have hd := decide_eq_false h3
    have HQ := am hq
    clear hq h3
    go_wp2
    go_roundw
    case rel => exact ⟨i + 1,by omega,by omega,by go_num,HQ,HB,NB⟩
    case measure => simp [intOf];omega
end Go.Proofs.YticlelgmmonloaaGreatDoor.C
namespace Go.Proofs.YticlelgmmonloaaGreatDoor.C
open Go Go.RowKit Go.Shelf Go.Proofs.YticlelgmmonloaaGreatDoorW.PrintWords Go.Proofs.YticlelgmmonloaaGreatDoorW.PrintLast Go.Proofs.YticlelgmmonloaaGreatDoorW.PrintMore
set_option linter.unusedVariables false
set_option linter.unusedSimpArgs false
set_option maxHeartbeats 16000000
set_option maxRecDepth 100000
section
attribute [local go_sem] Oper.semAt_some
def firstM (q : List Int → Option Bool) : List (List Int) → Option (Option (List Int))
 | [] => some none
 | x :: xs => (q x).bind fun b => if b = true then some (some x) else firstM q xs
theorem firstM_app (q : List Int → Option Bool) : ∀ (pre rest : List (List Int)),(∀ y ∈ pre,q y = some false) → firstM q (pre ++ rest) = firstM q rest
 | [],_,_ => rfl
 | y :: pre,rest,h => by
  rw [List.cons_append,firstM,h y List.mem_cons_self]
  exact firstM_app q pre rest fun z hz => h z (List.mem_cons_of_mem _ hz)
theorem firstM_none {q : List Int → Option Bool} {hs : List (List Int)} {r : Option (List Int)} (h : firstM q hs = some r) (hp : ∀ y ∈ hs,q y = some false) : r = none := by
 have h2 := firstM_app q hs [] hp
 rw [List.append_nil,h] at h2
 exact Option.some.inj h2
theorem firstM_some {q : List Int → Option Bool} {hs pre : List (List Int)} {x : List Int} {r : Option (List Int)} (h : firstM q hs = some r) (hp : ∀ y ∈ pre,q y = some false) (hx : q x = some true) (hs2 : pre ++ [x] <+: hs) : r = some x := by
 obtain ⟨rest,rfl⟩ := hs2
 rw [List.append_assoc,firstM_app q pre _ hp,List.singleton_append,firstM,hx] at h
 exact (Option.some.inj h).symm
theorem blk_grownO {W W' : World} {row : Option Nat} {B b : Nat} {o : Obj} (h : W.heap[b]? = some o) (hg : W.grownBy W' row) (hr : ∀ r,row = some r → B ≤ r) (hb : b < B) : W'.heap[b]? = some o :=
 (hg.block b (Array.getElem?_eq_some_iff.1 h).1 (fun e => by have := hr b e.symm;omega)).trans h
theorem blk_putO {W : World} {l b : Nat} {o o' p : Obj} (h : W.heap[b]? = some o) (hc : o.isCells = true) (hl : W.heap[l]? = some p) (hp : p.isCells = false) : (W.putObj l o').heap[b]? = some o :=
 (World.putObj_heap_other (fun e => by subst e;rw [hl] at h;injection h with h;subst h;rw [hc] at hp;cases hp)).trans h
theorem kept_below {W W' : World} (h : Below W.heap.size W W') : KeepsOthers W W' := KeepsOthers.of_grownBy (grown_of_belowN h) (fun j o e => by cases e)
theorem blkF_set {W : World} {b g i : Nat} {o : Obj} {v : Value} (h : W.heap[b]? = some o) (hne : b ≠ g) : (W.setCell ⟨g,i,none⟩ v).heap[b]? = some o :=
 (obj_far (p := ⟨g,i,none⟩) h (fun e => hne e) _)
theorem blkF_set1 {W : World} {g t : Nat} {v0 v : Value} (h : W.heap[g]? = some (.cells #[v0] t (0,0))) : (W.setCell ⟨g,0,none⟩ v).heap[g]? = some (.cells #[v] t (0,0)) := by
 have hlt := (Array.getElem?_eq_some_iff.1 h).1
 simp [World.setCell,Array.getElem?_modify,h]
theorem C_int_set {W : World} {A : Option Addr} {n : Nat} {xs : List Int} {g t : Nat} {v0 v : Value} (hg : W.heap[g]? = some (.cells #[v0] t (0,0))) (hv : ∀ p,v0 ≠ .int .i64 p) (h : (Kd.int .i64).C W A n xs) : (Kd.int .i64).C (W.setCell ⟨g,0,none⟩ v) A n xs :=
 ⟨h.1,h.2.1,fun hn => by
  obtain ⟨ad,e,hc⟩ := h.2.2 hn
  refine ⟨ad,e,fun j p hj => ?_⟩
  obtain ⟨c,hl,hK,hcc⟩ := hc j p hj
  refine ⟨c,hl,hK,fun i u hu => ?_⟩
  have h3 := hcc i u hu
  have hK2 : c = [.int .i64 p] := hK
  rw [World.cell?_setCell_far _ _ _ _ ?_]
  · exact h3
  · intro e2
    have e2 : g = (ad.add (j * (Kd.int .i64).sz + i)).block := e2
    have h4 := h3
    unfold World.cell? at h4
    rw [← e2,hg] at h4
    simp only at h4
    split at h4
    · cases h4
    · subst hK2
      cases i with
      | succ i => simp at hu
      | zero =>
       have hu2 : Value.int .i64 p = u := by simpa using hu
       obtain ⟨hlt,h5⟩ := Array.getElem?_eq_some_iff.1 h4
       have h6 : v0 = u := by
        have : (ad.add (j * (Kd.int .i64).sz + 0)).off = 0 := by simpa using hlt
        simpa [this] using h5
       exact hv p (h6.trans hu2.symm)⟩
theorem ca_first.calls (k gb gch sb sq sc : Nat) (A0_0 : Option Addr) (c0_0 : Nat) (l0_0 : List S126) (a0_1 : Int) (A0_2 : Option Addr) (c0_2 : Nat) (l0_2 : List S64) (a0_3 a0_4 change cups : Int) (A3 : Option Addr) (c3 : Nat) (claims : List Int) (r : Option (List Int)) (w : World)
 (bb : w.heap[gb]? = some (.cells #[.slice A0_0 l0_0.length c0_0,.int .i64 a0_1,.slice A0_2 l0_2.length c0_2,.int .i64 a0_3,.int .i64 a0_4] 27 (0,0))) (bch : w.heap[gch]? = some (.cells #[.int .i64 change] 3 (0,0)))
 (sbb : w.heap[sb]? = some (.cells #[.slice A0_0 l0_0.length c0_0,.int .i64 a0_1,.slice A0_2 l0_2.length c0_2,.int .i64 a0_3,.int .i64 a0_4] 27 (0,0))) (sbq : w.heap[sq]? = some (.cells #[.int .i64 cups] 3 (0,0))) (sbc : w.heap[sc]? = some (.cells #[.slice A3 claims.length c3] 30 (0,0)))
 (hr0_0 : Kd.C k126 w A0_0 l0_0.length l0_0) (hc0_0 : l0_0.length ≤ c0_0) (hr0_2 : Kd.C k64 w A0_2 l0_2.length l0_2) (hc0_2 : l0_2.length ≤ c0_2) (hr3 : Kd.C (Kd.int .i64) w A3 claims.length claims)
 (h0 : 0 ≤ change) (h1 : change ≤ 1000) (hh : ∀ h ∈ l0_2.map (·.f1),0 ≤ h ∧ h ≤ 40) (hnl : l0_2.length ≤ 1000000)
 (hq : ∀ l : List Int,l.length = l0_2.length → (∀ z ∈ l,0 ≤ z ∧ z ≤ 40) → ∃ b,suffice.f k l0_0 a0_1 l0_2 a0_3 a0_4 cups claims l = some b)
 (h : firstM (suffice.f k l0_0 a0_1 l0_2 a0_3 a0_4 cups claims) (hsOf (l0_2.map (·.f1)) [] change) = some r) :
 Calls Tryz.prog 79 #[.func (.func 105) #[] #[.pointer (some ⟨gb,0,none⟩),.pointer (some ⟨gch,0,none⟩)],.func (.func 77) #[] #[.pointer (some ⟨sb,0,none⟩),.pointer (some ⟨sq,0,none⟩),.pointer (some ⟨sc,0,none⟩)]] w fun e w' => ((r = none ∧ e = .returned (.tuple #[.slice none 0 0,.bool false])) ∨ (∃ l A c,r = some l ∧ e = .returned (.tuple #[.slice A l.length c,.bool true]) ∧ l.length ≤ c ∧ Kd.C (Kd.int .i64) w' A l.length l ∧ Kd.R (Kd.int .i64) 3 w' w.heap.size (fun _ => True) (.slice A l.length c) l)) ∧ Below w.heap.size w w' := by
 refine (callsIn_wide (n := 9)).1 ?_
 have HH := am h
 have HB0 := (((Below.refl w.heap.size w).alloc (Nat.le_refl _) (.cells #[.func (.func 77) #[] #[.pointer (some ⟨sb,0,none⟩),.pointer (some ⟨sq,0,none⟩),.pointer (some ⟨sc,0,none⟩)]] 109)).alloc (by simp) (.cells #[.slice none 0 0] 30)).alloc (by simp;omega) (.cells #[.bool false] 4)
 obtain ⟨W0,hW0⟩ : ∃ W0,((w.alloc (.cells #[.func (.func 77) #[] #[.pointer (some ⟨sb,0,none⟩),.pointer (some ⟨sq,0,none⟩),.pointer (some ⟨sc,0,none⟩)]] 109)).alloc (.cells #[.slice none 0 0] 30)).alloc (.cells #[.bool false] 4) = W0 := ⟨_,rfl⟩
 have hsz : W0.heap.size = w.heap.size + 3 := by rw [← hW0];simp
 have g3 : W0.heap[w.heap.size]? = some (.cells #[.func (.func 77) #[] #[.pointer (some ⟨sb,0,none⟩),.pointer (some ⟨sq,0,none⟩),.pointer (some ⟨sc,0,none⟩)]] 109 (0,0)) := by
  rw [← hW0];exact (Below.heap_alloc _ _ _ (by simp;omega)).trans ((Below.heap_alloc _ _ _ (by simp)).trans (World.alloc_heap_new w _))
 have g4 : W0.heap[w.heap.size + 1]? = some (.cells #[.slice none 0 0] 30 (0,0)) := by
  rw [← hW0];refine (Below.heap_alloc _ _ _ (by simp)).trans ?_
  have := World.alloc_heap_new (w.alloc (.cells #[.func (.func 77) #[] #[.pointer (some ⟨sb,0,none⟩),.pointer (some ⟨sq,0,none⟩),.pointer (some ⟨sc,0,none⟩)]] 109)) (.cells #[.slice none 0 0] 30);rwa [World.size_alloc] at this
 have g5 : W0.heap[w.heap.size + 1 + 1]? = some (.cells #[.bool false] 4 (0,0)) := by
  rw [← hW0]
  have := World.alloc_heap_new ((w.alloc (.cells #[.func (.func 77) #[] #[.pointer (some ⟨sb,0,none⟩),.pointer (some ⟨sq,0,none⟩),.pointer (some ⟨sc,0,none⟩)]] 109)).alloc (.cells #[.slice none 0 0] 30)) (.cells #[.bool false] 4);rwa [World.size_alloc,World.size_alloc] at this
 rw [hW0] at HB0
 have HH0 := am hh
 have HQ := am hq
 clear h hh hq
 refine callsIn_of_wp_marks Tryz.func79 rfl trivial ?_ rfl
 simp only [Tryz.ntmps79,List.size_toArray,List.length_cons,List.length_nil,Nat.reduceAdd,Nat.reduceSub,Array.replicate_succ,Array.replicate_zero,List.push_toArray,List.append_toArray,List.nil_append,List.cons_append]
 gi_wp2
 (try rw [hW0])
 clear hW0
 refine rangeC (α := HX) (n := 9) rfl (by decide) (gf := 105) (lb := #[.pointer (some ⟨gb,0,none⟩),.pointer (some ⟨gch,0,none⟩)]) rfl trivial (enters_of Tryz.func105 (by kernel_rfl) rfl)
  (heights_stops gb gch A0_0 c0_0 l0_0.length a0_1 A0_2 c0_2 l0_2 a0_3 a0_4 change w bb bch hr0_2 h0 h1 HH0.out hnl (9 - 1))
  (fun x W l o o' hx hl ho => ⟨hx.1,hx.2.1,keeps_C (fun hk => hk) (KeepsCells.putObj W l o o' hl ho) hx.2.2.1,R_keepI hx.2.2.2 (fun k cells hc => blk_putO hc rfl hl ho)⟩)
  KeepsCells.trans (fun W l o o' _ hl ho _ => KeepsCells.putObj W l o o' hl ho) HB0 (fun _ => rfl)
  (fun pre W => (∀ y ∈ pre,suffice.f k l0_0 a0_1 l0_2 a0_3 a0_4 cups claims y.1 = some false) ∧ W.heap[w.heap.size]? = some (.cells #[.func (.func 77) #[] #[.pointer (some ⟨sb,0,none⟩),.pointer (some ⟨sq,0,none⟩),.pointer (some ⟨sc,0,none⟩)]] 109 (0,0)) ∧ W.heap[w.heap.size + 1]? = some (.cells #[.slice none 0 0] 30 (0,0)) ∧ W.heap[w.heap.size + 1 + 1]? = some (.cells #[.bool false] 4 (0,0)) ∧ Below w.heap.size w W)
  (fun c pre W => c = .ret ∧ (∃ (p0 : List HX) (x : HX),pre = p0 ++ [x] ∧ (∀ y ∈ p0,suffice.f k l0_0 a0_1 l0_2 a0_3 a0_4 cups claims y.1 = some false) ∧ suffice.f k l0_0 a0_1 l0_2 a0_3 a0_4 cups claims x.1 = some true ∧ W.heap[w.heap.size + 1]? = some (.cells #[.slice x.2.1 x.1.length x.2.2] 30 (0,0)) ∧ x.1.length ≤ x.2.2 ∧ Kd.C (Kd.int .i64) W x.2.1 x.1.length x.1 ∧ Kd.R (Kd.int .i64) 3 W w.heap.size (fun _ => True) (.slice x.2.1 x.1.length x.2.2) x.1) ∧ W.heap[w.heap.size + 1 + 1]? = some (.cells #[.bool true] 4 (0,0)) ∧ Below w.heap.size w W)
  (fun s A B row hs hg hr => ⟨hs.1,blk_grownO hs.2.1 hg hr (by omega),blk_grownO hs.2.2.1 hg hr (by omega),blk_grownO hs.2.2.2.1 hg hr (by omega),hs.2.2.2.2.grown hg hs.2.2.2.2.size (fun k e => by have := hr k e;omega)⟩)
  (fun c pre W l o o' hl hs ho hc hw => by
   obtain ⟨rfl,⟨p0,x,rfl,hp,hx,h4,hle,hC,hR⟩,h5,hB⟩ := hs
   exact ⟨rfl,⟨p0,x,rfl,hp,hx,blk_putO h4 rfl ho hc,hle,keeps_C (fun hk => hk) (KeepsCells.putObj W l o o' ho hc) hC,R_keepI hR (fun k cells h => blk_putO h rfl ho hc)⟩,blk_putO h5 rfl ho hc,hB.trans (belowK_b (w := w) (Nat.le_refl _) W l _ _ (by omega) ho hc hw)⟩)
  ⟨(fun y hy => by cases hy),g3,g4,g5,HB0⟩
  (fun x => { tmps := #[Value.func (Fn.func 105) #[] #[.pointer (some ⟨gb,0,none⟩),.pointer (some ⟨gch,0,none⟩)],Value.func (Fn.func 77) #[] #[.pointer (some ⟨sb,0,none⟩),.pointer (some ⟨sq,0,none⟩),.pointer (some ⟨sc,0,none⟩)],undef,.pointer (some ⟨w.heap.size,0,none⟩),.pointer (some ⟨w.heap.size + 1,0,none⟩),.pointer (some ⟨w.heap.size + 1 + 1,0,none⟩),.slice x.2.1 x.1.length x.2.2,undef,Value.func (Fn.func 105) #[] #[.pointer (some ⟨gb,0,none⟩),.pointer (some ⟨gch,0,none⟩)],.slice x.2.1 x.1.length x.2.2,undef,undef,undef,undef,undef],defers := [] }) ?assign ?body ?done ?stop
 case assign =>
  intro l x W K hK
  simp only [hEnc]
  gi_wp2
  exact hK
 case body =>
  rintro l pre ⟨xl,xA,xc⟩ W ⟨hpre,b3,b4,b5,hB⟩ ⟨hxl,hxle,hxC,hxR⟩
  dsimp only at hxl hxle hxC hxR ⊢
  obtain ⟨bv,hbv⟩ := HQ.out xl hxl.1 hxl.2
  have HV := am hbv
  have HXL := am hxl
  have HP := am hpre
  clear hbv hxl hpre
  have hc3 : W.cell? ⟨w.heap.size,0,none⟩ = some (Value.func (Fn.func 77) #[] #[.pointer (some ⟨sb,0,none⟩),.pointer (some ⟨sq,0,none⟩),.pointer (some ⟨sc,0,none⟩)]) := (blk_cell b3 0).trans rfl
  have b3 := am b3
  have b4 := am b4
  have b5 := am b5
  have hB := am hB
  have hxC := am hxC
  have hxR := am hxR
  have HC := am (suffice.calls k sb sq sc A0_0 c0_0 l0_0 a0_1 A0_2 c0_2 l0_2 a0_3 a0_4 cups A3 c3 claims xA xc xl bv W (blk_below sbb hB.out) (blk_below sbq hB.out) (blk_below sbc hB.out) (kC hr0_0 hB.out) hc0_0 (kC hr0_2 hB.out) hc0_2 (kC hr3 hB.out) hxC.out hxle HV.out)
  cases bv with
  | false =>
   gi_wp2
   refine ⟨trivial,?_⟩
   refine (CallsIn.inRound l (callsIn_wide.2 HC.out)).mono ?_
   rintro e W2 ⟨rfl,hb⟩
   gi_wp2
   exact ⟨kept_below hb,KeepsCells.of_below hb,fun y hy => (List.mem_append.1 hy).elim (HP.out y) (fun e => by rw [List.mem_singleton.1 e];exact HV.out),blk_below b3.out hb,blk_below b4.out hb,blk_below b5.out hb,below_then hB.out hB.out.size hb⟩
  | true =>
   gi_wp2
   refine ⟨trivial,?_⟩
   refine (CallsIn.inRound l (callsIn_wide.2 HC.out)).mono ?_
   rintro e W2 ⟨rfl,hb⟩
   have q4 := blk_below b4.out hb
   have q5 := blk_below b5.out hb
   have hc4 : W2.cell? ⟨w.heap.size + 1,0,none⟩ = some (.slice none 0 0) := (blk_cell q4 0).trans rfl
   have hf4 := blk_frozen q4 0
   have hc5 : W2.cell? ⟨w.heap.size + 1 + 1,0,none⟩ = some (.bool false) := (blk_cell q5 0).trans rfl
   have hf5 := blk_frozen q5 0
   have q4 := am q4
   have q5 := am q5
   gi_wp2
   have hC2 := kC hxC.out hb
   have hR2 := R_keepI hxR.out (fun k cells h => blk_below h hb)
   have hR3 := R_keepI (W' := (W2.setCell ⟨w.heap.size + 1,0,none⟩ (.slice xA xl.length xc)).setCell ⟨w.heap.size + 1 + 1,0,none⟩ (.bool true)) hR2 (fun k cells h => blkF_set (blkF_set h (obj_ne h q4.out (by decide))) (obj_ne h q5.out (by decide)))
   have e5 := blkF_set1 (v := .bool true) (blkF_set (g := w.heap.size + 1) (i := 0) (v := .slice xA xl.length xc) q5.out (by omega))
   have e4 := blkF_set (g := w.heap.size + 1 + 1) (i := 0) (v := .bool true) (blkF_set1 (v := .slice xA xl.length xc) q4.out) (by omega)
   have hB2 := below_then hB.out hB.out.size hb
   have hB3 := (hB2.setCell (p := ⟨w.heap.size + 1,0,none⟩) (by simp) (.slice xA xl.length xc)).setCell (p := ⟨w.heap.size + 1 + 1,0,none⟩) (by simp;omega) (.bool true)
   exact ⟨((kept_below hb).trans (KeepsOthers.setCell _ _ _)).trans (KeepsOthers.setCell _ _ _),rfl,⟨pre,(xl,xA,xc),rfl,HP.out,HV.out,e4,hxle,C_int_set (blkF_set (g := w.heap.size + 1) (i := 0) (v := .slice xA xl.length xc) q5.out (by omega)) (fun p e => by cases e) (C_int_set q4.out (fun p e => by cases e) hC2),hR3⟩,e5,hB3⟩
 case done =>
  rintro D xs W hD hS ⟨hp,b3,b4,b5,hB⟩ hK
  have hc4 : W.cell? ⟨w.heap.size + 1,0,none⟩ = some (.slice none 0 0) := (blk_cell b4 0).trans rfl
  have hf4 := blk_frozen b4 0
  have hc5 : W.cell? ⟨w.heap.size + 1 + 1,0,none⟩ = some (.bool false) := (blk_cell b5 0).trans rfl
  have hf5 := blk_frozen b5 0
  have HN := am (firstM_none HH.out (fun y hy => by rw [← hS] at hy;obtain ⟨z,hz,rfl⟩ := List.mem_map.1 hy;exact hp z hz))
  have b4 := am b4
  have b5 := am b5
  have hB := am hB
  have hK := am hK
  clear hp hS b3
  gi_wp2
  have e5 := blkF_set1 (v := .bool false) (blkF_set (g := w.heap.size + 1) (i := 0) (v := .slice none 0 0) b5.out (by omega))
  have e4 := blkF_set (g := w.heap.size + 1 + 1) (i := 0) (v := .bool false) (blkF_set1 (v := .slice none 0 0) b4.out) (by omega)
  have hK' := ((KeepsOthers.setCell W ⟨w.heap.size + 1,0,none⟩ (.slice none 0 0)).trans (KeepsOthers.setCell _ ⟨w.heap.size + 1 + 1,0,none⟩ (.bool false))).same D _ hK.out rfl
  refine ⟨by simp,.inl ⟨_,_,rfl,run_takeDeferred hK',?_⟩⟩
  have p4 := (blk_cell (blk_putO (o' := .deferred none) e4 rfl hK' rfl) 0).trans rfl
  have p5 := (blk_cell (blk_putO (o' := .deferred none) e5 rfl hK' rfl) 0).trans rfl
  refine ⟨.tuple #[.slice none 0 0,.bool false],?_,.inl ⟨HN.out,rfl⟩,((hB.out.setCell (p := ⟨w.heap.size + 1,0,none⟩) (by simp) (.slice none 0 0)).setCell (p := ⟨w.heap.size + 1 + 1,0,none⟩) (by simp;omega) (.bool false)).trans (belowK_b (w := w) (Nat.le_refl _) _ D _ _ (by omega) hK' rfl rfl)⟩
  simp [results,Tryz.f79,go_sem,p4,p5]
 case stop =>
  rintro D c pre W hD hSp ⟨rfl,⟨p0,x,rfl,hp,hx,b4,hle,hC,hR⟩,b5,hB⟩ hK
  have HN := am (firstM_some HH.out (pre := p0.map (·.1)) (x := x.1) (fun y hy => by obtain ⟨z,hz,rfl⟩ := List.mem_map.1 hy;exact hp z hz) hx (by simpa using hSp))
  have b4 := am b4
  have b5 := am b5
  have hB := am hB
  have hK := am hK
  have hC := am hC
  have hR := am hR
  clear hp hSp hx
  gi_wp2
  refine ⟨by simp,.inl ⟨_,_,rfl,run_takeDeferred hK.out,?_⟩⟩
  have p4 := (blk_cell (blk_putO (o' := .deferred none) b4.out rfl hK.out rfl) 0).trans rfl
  have p5 := (blk_cell (blk_putO (o' := .deferred none) b5.out rfl hK.out rfl) 0).trans rfl
  refine ⟨.tuple #[.slice x.2.1 x.1.length x.2.2,.bool true],?_,.inr ⟨x.1,x.2.1,x.2.2,HN.out,rfl,hle,keeps_C (fun hk => hk) (KeepsCells.putObj W D _ _ hK.out rfl) hC.out,R_keepI hR.out (fun k cells h => blk_putO h rfl hK.out rfl)⟩,hB.out.trans (belowK_b (w := w) (Nat.le_refl _) W D _ _ (by omega) hK.out rfl rfl)⟩
  simp [results,Tryz.f79,go_sem,p4,p5]
end
end Go.Proofs.YticlelgmmonloaaGreatDoor.C
namespace Go.Proofs.YticlelgmmonloaaGreatDoor.C
open Go.RowKit Go.Proofs.YticlelgmmonloaaGreatDoorW.PrintWords Go.Proofs.YticlelgmmonloaaGreatDoorW.PrintLast Go.Proofs.YticlelgmmonloaaGreatDoorW.PrintMore
set_option linter.unusedVariables false
set_option linter.unusedSimpArgs false
set_option maxHeartbeats 16000000
set_option maxRecDepth 100000
section
attribute [local go_sem] max2_int min2_int max_two min_two
def ca_Mends_1.f (a0 : Int) : Option (Bool) := (ca_isFlow.f a0).bind fun t1009 => (some (!t1009))
theorem ca_Mends_1.calls (a0 : Int) (r : Bool) (w : World) (h : ca_Mends_1.f a0 = some r) :
 Calls Tryz.prog 76 #[.int .i64 a0] w fun e w' => e = .returned (.bool r) ∧ Drawn0 w w' := by
 have H : ((ca_isFlow.f a0).bind fun t1009 => (some (!t1009))) = some r := h
 clear h
 replace H := obm H
 obtain ⟨t1009,A20,H⟩ := H
 replace H : (some (!t1009)) = some r := H
 have A2 := am A20
 clear A20
 obtain rfl := Option.some.inj H
 go_enter Tryz.func76,Tryz.ntmps76
 go_wp2_with (first | ((with_reducible refine gate_callee (f := 58) rfl ?_);refine goesL_ (some 4) rfl rfl Tryz.func58 (by kernel_rfl) rfl #[.int .i64 a0] rfl (by (try simp only [List.map_toArray,List.map_cons,List.map_nil]);first | done | rfl | (simp only [List.length_drop,List.length_take];rfl)) ?_;(with_reducible refine (ca_isFlow.calls a0 t1009 _ A2.out).mono ?_);rintro e w' ⟨rfl,⟨nd,rfl⟩⟩;refine ⟨_,rfl,?_⟩))
 go_ret
 exact ⟨by first | rfl | (simp;done) | (simp [*];done),by repeat (first | exact Drawn0.refl _ | apply Drawn0.step)⟩
end
def Pred_Mends (q : Int → Option Bool) (w : World) (xs : List Int) : Prop := ∀ (x : Int) (b : Bool) (W : World) , x ∈ xs → q x = some b → Below w.heap.size w W → 
 Calls Tryz.prog 76 #[.int .i64 x] W fun e W' => e = .returned (.bool b) ∧ Below W.heap.size W W'
theorem idx_Mends (q : Int → Option Bool) (A : Option Addr) (c : Nat) (xs : List Int) (r : Int) (w : World) (hr : Kd.C (Kd.int .i64) w A xs.length xs) (hp : Pred_Mends q w xs) (h : idxM q xs 0 = some r) :
 Calls Tryz.prog 104 #[.slice A xs.length c,.func (.func 76) #[] #[]] w fun e w' => e = .returned (.int .i64 r) ∧ Below w.heap.size w w' := by
 have HR := am hr
 have HP := am hp
 have HQ := am (show idxM q (xs.drop (0 : Int).toNat) 0 = some r from h)
 have hm : xs.length ≤ 9223372036854775807 := Kd.C_max hr
 clear hr hp h
 go_enter Tryz.func104,Tryz.ntmps104
 go_wp2
 go_loopw [5,8] (fun v5 v8 w' => ∃ i : Int,0 ≤ i ∧ i ≤ xs.length ∧ v8 = .int .i64 i ∧ Aside0 (idxM q (xs.drop i.toNat) i = some r) ∧ Aside0 (Below w.heap.size w w')) (fun _ v8 _ => xs.length - (intOf v8).toNat)
 case atStart => exact ⟨0,by omega,by omega,rfl,HQ,⟨Below.refl _ _⟩⟩
 case round =>
  clear HQ
  obtain ⟨i,p1,hi,rfl,HQ,HB⟩ := hrel
  by_cases hlt : i < (xs.length : Int)
  case neg =>
   go_wp2
   go_ret
   exact ⟨ret_int_eq (idxM_end (by omega) HQ.out),HB.out⟩
  obtain ⟨ad,e1,hx0⟩ := Kd.at_int HR.out i p1 hlt
  cases e1
  replace hx0 := (HB.out.cell (wbl hx0)).trans hx0
  rcases idxM_step (0 : Int) p1 hlt HQ.out with ⟨hq,he⟩ | ⟨hq,hn⟩
  · have H1 := am hq
    have X1 := am (getD_mem (0 : Int) p1 hlt)
    have H2 := am he
    clear hq he
    go_wp2_with (go_at_call 76;refine (HP.out (xs.getD i.toNat (0 : Int)) _ _ X1.out H1.out HB.out).mono ?_;rintro e W' ⟨rfl,hb⟩)
    go_ret
    exact ⟨ret_int_eq H2.out,below_then HB.out HB.out.size hb⟩
  · have H1 := am hq
    have X1 := am (getD_mem (0 : Int) p1 hlt)
    have H2 := am hn
    clear hq hn
    go_wp2_with (go_at_call 76;refine (HP.out (xs.getD i.toNat (0 : Int)) _ _ X1.out H1.out HB.out).mono ?_;rintro e W' ⟨rfl,hb⟩)
    go_roundw
    case rel => exact ⟨i + 1,by omega,by omega,by go_num,H2,⟨below_then HB.out HB.out.size hb⟩⟩
    case measure => simp [intOf];omega
theorem any_Mends (q : Int → Option Bool) (A : Option Addr) (c : Nat) (xs : List Int) (r : Bool) (w : World) (hr : Kd.C (Kd.int .i64) w A xs.length xs) (hp : Pred_Mends q w xs) (h : anyM q xs = some r) :
 Calls Tryz.prog 75 #[.slice A xs.length c,.func (.func 76) #[] #[]] w fun e w' => e = .returned (.bool r) ∧ Below w.heap.size w w' := by
 obtain ⟨j,hj,hd⟩ := idxM_of_anyM q xs 0 r (by omega) h
 have H1 := am hj
 have H2 := am hd
 have HR := am hr
 have HP := am hp
 clear hr hp h hj hd
 go_enter Tryz.func75,Tryz.ntmps75
 go_wp2_with (go_at_call 104;refine (idx_Mends q _ _ xs j _ HR.out HP.out H1.out).mono ?_;rintro e W' ⟨rfl,hb⟩)
 go_ret
 exact ⟨ret_bool_eq H2.out,hb⟩
def cf_Mends.f (l0 : List Int) : Option Bool := anyM ca_Mends_1.f l0
theorem cf_Mends.calls (A0 : Option Addr) (c0 : Nat) (l0 : List Int) (r : Bool) (w : World) (hr0 : Kd.C (Kd.int .i64) w A0 l0.length l0) (hc0 : l0.length ≤ c0) (h : cf_Mends.f l0 = some r) :
 Calls Tryz.prog 75 #[.slice A0 l0.length c0,.func (.func 76) #[] #[]] w fun e w' => e = .returned (.bool r) ∧ Below w.heap.size w w' :=
 any_Mends ca_Mends_1.f A0 c0 l0 r w hr0 (fun x b W hx hq hb => (ca_Mends_1.calls _ b W hq).mono fun e W' ⟨he,hd⟩ => ⟨he,hd.below⟩) h
end Go.Proofs.YticlelgmmonloaaGreatDoor.C

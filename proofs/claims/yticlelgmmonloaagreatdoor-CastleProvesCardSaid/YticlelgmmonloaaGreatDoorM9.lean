/- A part of the proof: the walks of the functions that it reaches. TIGHT. -/
import Derived.Test.YticlelgmmonloaaGreatDoorM8
import Derived.BigQuiet
namespace Go.Proofs.YticlelgmmonloaaGreatDoor.C
open Go.RowKit Go.Proofs.YticlelgmmonloaaGreatDoorW.PrintWords Go.Proofs.YticlelgmmonloaaGreatDoorW.PrintLast Go.Proofs.YticlelgmmonloaaGreatDoorW.PrintMore
set_option linter.unusedVariables false
set_option linter.unusedSimpArgs false
set_option maxHeartbeats 16000000
set_option maxRecDepth 100000
def ca_isBasin_1.f (l0_0 : List S126) (x : S64) : Option Bool := (ca_in.f x.f0 0 (wrap64 ((l0_0.length : Int) - 1))).bind fun t => if t = true then (ca_isHeight.f x.f1).bind fun u => some (!u) else some true
theorem ca_isBasin_1.calls (g : Nat) (A0_0 : Option Addr) (c0_0 : Nat) (l0_0 : List S126) (a0_1 : Int) (A0_2 : Option Addr) (c0_2 : Nat) (l0_2 : List S64) (a0_3 a0_4 : Int) (x : S64) (r : Bool) (w : World) (hb : w.heap[g]? = some (.cells #[.slice A0_0 l0_0.length c0_0,.int .i64 a0_1,.slice A0_2 l0_2.length c0_2,.int .i64 a0_3,.int .i64 a0_4] 27 (0,0))) (h : ca_isBasin_1.f l0_0 x = some r) :
 Calls Tryz.prog 94 #[.agg #[.int .i64 x.f0,.int .i64 x.f1],.pointer (some ⟨g,0,none⟩)] w fun e w' => e = .returned (.bool r) ∧ Below w.heap.size w w' := by
 have hu := Tryz.underlying27
 have huz := Tryz.underlying64
 have hut := Tryz.underlying24
 have HB := am (Below.refl w.heap.size w)
 have BKg := am hb
 clear hb
 unfold ca_isBasin_1.f at h
 obtain ⟨t,ht,h⟩ := obm h
 have H1 := am ht
 clear ht
 cases t with
 | true =>
  rw [if_pos rfl] at h
  obtain ⟨u,hu2,h⟩ := obm h
  obtain rfl := Option.some.inj h
  have H2 := am hu2
  clear hu2 h
  go_enter Tryz.func94,Tryz.ntmps94
  go_wp2_with (first | ((refine gate_dst (N := 2) rfl ?_);(try (refine gate_guard (by rfl) ?_;dsimp only));refine box_event rfl (N := 2) rfl (cs := #[.int .i64 x.f0,.int .i64 x.f1]) (t := 64) ?hr ?_;(case hr => go_simp;try rfl);intro q hg w2 hbox hb;replace HB := (bmv HB hb);replace BKg := (kmv hb BKg);clear hg;have BKq := am hbox;clear hbox;(try clear hczg_0 hczg_1 hczg_2 hczg_3 hczg_4);obtain ⟨hczg_0,hczg_1,hczg_2,hczg_3,hczg_4⟩ := cO5 BKg.out;(try clear hczq_0 hczq_1);obtain ⟨hczq_0,hczq_1⟩ := cO2 BKq.out;clear hb) | (go_at_call 73;(with_reducible refine (ca_in.calls x.f0 0 (wrap64 ((l0_0.length : Int) - 1)) true _ H1.out).mono ?_);rintro e w1 ⟨rfl,hd⟩;have hb := hd.below;clear hd;replace HB := (bmv HB hb);replace BKg := (kmv hb BKg);replace BKq := (kmv hb BKq);(try clear hczg_0 hczg_1 hczg_2 hczg_3 hczg_4);obtain ⟨hczg_0,hczg_1,hczg_2,hczg_3,hczg_4⟩ := cO5 BKg.out;(try clear hczq_0 hczq_1);obtain ⟨hczq_0,hczq_1⟩ := cO2 BKq.out;clear hb) | (go_at_call 68;(with_reducible refine (ca_isHeight.calls x.f1 u _ H2.out).mono ?_);rintro e w1 ⟨rfl,hd⟩;have hb := hd.below;clear hd;replace HB := (bmv HB hb);replace BKg := (kmv hb BKg);replace BKq := (kmv hb BKq);(try clear hczg_0 hczg_1 hczg_2 hczg_3 hczg_4);obtain ⟨hczg_0,hczg_1,hczg_2,hczg_3,hczg_4⟩ := cO5 BKg.out;(try clear hczq_0 hczq_1);obtain ⟨hczq_0,hczq_1⟩ := cO2 BKq.out;clear hb))
  go_ret
  exact ⟨rfl,HB.out⟩
 | false =>
  rw [if_neg (by decide)] at h
  obtain rfl := Option.some.inj h
  clear h
  go_enter Tryz.func94,Tryz.ntmps94
  go_wp2_with (first | ((refine gate_dst (N := 2) rfl ?_);(try (refine gate_guard (by rfl) ?_;dsimp only));refine box_event rfl (N := 2) rfl (cs := #[.int .i64 x.f0,.int .i64 x.f1]) (t := 64) ?hr ?_;(case hr => go_simp;try rfl);intro q hg w2 hbox hb;replace HB := (bmv HB hb);replace BKg := (kmv hb BKg);clear hg;have BKq := am hbox;clear hbox;(try clear hczg_0 hczg_1 hczg_2 hczg_3 hczg_4);obtain ⟨hczg_0,hczg_1,hczg_2,hczg_3,hczg_4⟩ := cO5 BKg.out;(try clear hczq_0 hczq_1);obtain ⟨hczq_0,hczq_1⟩ := cO2 BKq.out;clear hb) | (go_at_call 73;(with_reducible refine (ca_in.calls x.f0 0 (wrap64 ((l0_0.length : Int) - 1)) false _ H1.out).mono ?_);rintro e w1 ⟨rfl,hd⟩;have hb := hd.below;clear hd;replace HB := (bmv HB hb);replace BKg := (kmv hb BKg);replace BKq := (kmv hb BKq);(try clear hczg_0 hczg_1 hczg_2 hczg_3 hczg_4);obtain ⟨hczg_0,hczg_1,hczg_2,hczg_3,hczg_4⟩ := cO5 BKg.out;(try clear hczq_0 hczq_1);obtain ⟨hczq_0,hczq_1⟩ := cO2 BKq.out;clear hb))
  go_ret
  exact ⟨rfl,HB.out⟩
def ca_isBasin.f (l0_0 : List S126) (a0_1 : Int) (l0_2 : List S64) (a0_3 a0_4 : Int) : Option Bool :=
 (nz_Check.f l0_0 a0_1).bind fun t1 => if t1 = 0 then (ca_in.f (l0_2.length : Int) 1 6).bind fun t2 => (if t2 = true then (ca_isHeight.f a0_3).bind fun t3 => (if t3 = true then (ca_in.f a0_4 0 100).bind fun t4 => (if t4 = true then (anyM (ca_isBasin_1.f l0_0) l0_2).bind fun u => some (!u) else some false) else some false) else some false) else some false
theorem ca_isBasin.calls (A0_0 : Option Addr) (c0_0 : Nat) (l0_0 : List S126) (a0_1 : Int) (A0_2 : Option Addr) (c0_2 : Nat) (l0_2 : List S64) (a0_3 a0_4 : Int) (r : Bool) (w : World) (hr0_0 : Kd.C k126 w A0_0 l0_0.length l0_0) (hc0_0 : l0_0.length ≤ c0_0) (hr0_2 : Kd.C k64 w A0_2 l0_2.length l0_2) (hc0_2 : l0_2.length ≤ c0_2) (h : ca_isBasin.f l0_0 a0_1 l0_2 a0_3 a0_4 = some r) :
 Calls Tryz.prog 57 #[.agg #[.slice A0_0 l0_0.length c0_0,.int .i64 a0_1,.slice A0_2 l0_2.length c0_2,.int .i64 a0_3,.int .i64 a0_4]] w fun e w' => e = .returned (.bool r) ∧ Below w.heap.size w w' := by
 have hu := Tryz.underlying27
 have hut := Tryz.underlying24
 have hm : l0_2.length ≤ 9223372036854775807 := Kd.C_max hr0_2
 have HR := am hr0_0
 have HC := am hc0_0
 have HR2 := am hr0_2
 have HC2 := am hc0_2
 have HB := am (Below.refl w.heap.size w)
 clear hr0_0 hc0_0 hr0_2 hc0_2
 unfold ca_isBasin.f at h
 obtain ⟨t1,ht,h⟩ := obm h
 have H1 := am ht
 clear ht
 by_cases h1 : t1 = 0
 case neg =>
  rw [if_neg h1] at h
  obtain rfl := Option.some.inj h
  clear h
  have b1 : (t1 == 0) = false := beq_eq_false_iff_ne.2 h1
  clear h1
  go_enter Tryz.func57,Tryz.ntmps57
  go_wp2_with (first | ((refine gate_dst (N := 1) rfl ?_);(try (refine gate_guard (by rfl) ?_;dsimp only));refine box_event rfl (N := 1) rfl (cs := #[.slice A0_0 l0_0.length c0_0,.int .i64 a0_1,.slice A0_2 l0_2.length c0_2,.int .i64 a0_3,.int .i64 a0_4]) (t := 27) ?hr ?_;(case hr => go_simp;try rfl);intro g hg w2 hbox hb;replace HR := (cmv HR hb);replace HR2 := (cmv HR2 hb);replace HB := (bmv HB hb);clear hg;have BKg := am hbox;clear hbox;(try clear hczg_0 hczg_1 hczg_2 hczg_3 hczg_4);obtain ⟨hczg_0,hczg_1,hczg_2,hczg_3,hczg_4⟩ := cO5 BKg.out;clear hb) | (go_at_call 95;(with_reducible refine (nz_Check.calls A0_0 c0_0 l0_0 a0_1 t1 _ HR.out HC.out H1.out).mono ?_);rintro e w1 ⟨rfl,hb⟩;replace HR := (cmv HR hb);replace HR2 := (cmv HR2 hb);replace HB := (bmv HB hb);replace BKg := (kmv hb BKg);(try clear hczg_0 hczg_1 hczg_2 hczg_3 hczg_4);obtain ⟨hczg_0,hczg_1,hczg_2,hczg_3,hczg_4⟩ := cO5 BKg.out;clear hb))
  go_ret
  exact ⟨rfl,HB.out⟩
 subst h1
 rw [if_pos rfl] at h
 obtain ⟨t2,ht,h⟩ := obm h
 have H2 := am ht
 clear ht
 cases t2 with
 | false =>
  rw [if_neg (by decide)] at h
  obtain rfl := Option.some.inj h
  clear h
  go_enter Tryz.func57,Tryz.ntmps57
  go_wp2_with (first | ((refine gate_dst (N := 1) rfl ?_);(try (refine gate_guard (by rfl) ?_;dsimp only));refine box_event rfl (N := 1) rfl (cs := #[.slice A0_0 l0_0.length c0_0,.int .i64 a0_1,.slice A0_2 l0_2.length c0_2,.int .i64 a0_3,.int .i64 a0_4]) (t := 27) ?hr ?_;(case hr => go_simp;try rfl);intro g hg w2 hbox hb;replace HR := (cmv HR hb);replace HR2 := (cmv HR2 hb);replace HB := (bmv HB hb);clear hg;have BKg := am hbox;clear hbox;(try clear hczg_0 hczg_1 hczg_2 hczg_3 hczg_4);obtain ⟨hczg_0,hczg_1,hczg_2,hczg_3,hczg_4⟩ := cO5 BKg.out;clear hb) | (go_at_call 95;(with_reducible refine (nz_Check.calls A0_0 c0_0 l0_0 a0_1 0 _ HR.out HC.out H1.out).mono ?_);rintro e w1 ⟨rfl,hb⟩;replace HR := (cmv HR hb);replace HR2 := (cmv HR2 hb);replace HB := (bmv HB hb);replace BKg := (kmv hb BKg);(try clear hczg_0 hczg_1 hczg_2 hczg_3 hczg_4);obtain ⟨hczg_0,hczg_1,hczg_2,hczg_3,hczg_4⟩ := cO5 BKg.out;clear hb) | (go_at_call 73;(with_reducible refine (ca_in.calls (l0_2.length : Int) 1 6 false _ H2.out).mono ?_);rintro e w1 ⟨rfl,hd⟩;have hb := hd.below;clear hd;replace HR := (cmv HR hb);replace HR2 := (cmv HR2 hb);replace HB := (bmv HB hb);replace BKg := (kmv hb BKg);(try clear hczg_0 hczg_1 hczg_2 hczg_3 hczg_4);obtain ⟨hczg_0,hczg_1,hczg_2,hczg_3,hczg_4⟩ := cO5 BKg.out;clear hb))
  go_ret
  exact ⟨rfl,HB.out⟩
 | true =>
  rw [if_pos rfl] at h
  obtain ⟨t3,ht,h⟩ := obm h
  have H3 := am ht
  clear ht
  cases t3 with
  | false =>
   rw [if_neg (by decide)] at h
   obtain rfl := Option.some.inj h
   clear h
   go_enter Tryz.func57,Tryz.ntmps57
   go_wp2_with (first | ((refine gate_dst (N := 1) rfl ?_);(try (refine gate_guard (by rfl) ?_;dsimp only));refine box_event rfl (N := 1) rfl (cs := #[.slice A0_0 l0_0.length c0_0,.int .i64 a0_1,.slice A0_2 l0_2.length c0_2,.int .i64 a0_3,.int .i64 a0_4]) (t := 27) ?hr ?_;(case hr => go_simp;try rfl);intro g hg w2 hbox hb;replace HR := (cmv HR hb);replace HR2 := (cmv HR2 hb);replace HB := (bmv HB hb);clear hg;have BKg := am hbox;clear hbox;(try clear hczg_0 hczg_1 hczg_2 hczg_3 hczg_4);obtain ⟨hczg_0,hczg_1,hczg_2,hczg_3,hczg_4⟩ := cO5 BKg.out;clear hb) | (go_at_call 95;(with_reducible refine (nz_Check.calls A0_0 c0_0 l0_0 a0_1 0 _ HR.out HC.out H1.out).mono ?_);rintro e w1 ⟨rfl,hb⟩;replace HR := (cmv HR hb);replace HR2 := (cmv HR2 hb);replace HB := (bmv HB hb);replace BKg := (kmv hb BKg);(try clear hczg_0 hczg_1 hczg_2 hczg_3 hczg_4);obtain ⟨hczg_0,hczg_1,hczg_2,hczg_3,hczg_4⟩ := cO5 BKg.out;clear hb) | (go_at_call 73;(with_reducible refine (ca_in.calls (l0_2.length : Int) 1 6 true _ H2.out).mono ?_);rintro e w1 ⟨rfl,hd⟩;have hb := hd.below;clear hd;replace HR := (cmv HR hb);replace HR2 := (cmv HR2 hb);replace HB := (bmv HB hb);replace BKg := (kmv hb BKg);(try clear hczg_0 hczg_1 hczg_2 hczg_3 hczg_4);obtain ⟨hczg_0,hczg_1,hczg_2,hczg_3,hczg_4⟩ := cO5 BKg.out;clear hb) | (go_at_call 68;(with_reducible refine (ca_isHeight.calls a0_3 false _ H3.out).mono ?_);rintro e w1 ⟨rfl,hd⟩;have hb := hd.below;clear hd;replace HR := (cmv HR hb);replace HR2 := (cmv HR2 hb);replace HB := (bmv HB hb);replace BKg := (kmv hb BKg);(try clear hczg_0 hczg_1 hczg_2 hczg_3 hczg_4);obtain ⟨hczg_0,hczg_1,hczg_2,hczg_3,hczg_4⟩ := cO5 BKg.out;clear hb))
   go_ret
   exact ⟨rfl,HB.out⟩
  | true =>
   rw [if_pos rfl] at h
   obtain ⟨t4,ht,h⟩ := obm h
   have H4 := am ht
   clear ht
   cases t4 with
   | false =>
    rw [if_neg (by decide)] at h
    obtain rfl := Option.some.inj h
    clear h
    go_enter Tryz.func57,Tryz.ntmps57
    go_wp2_with (first | ((refine gate_dst (N := 1) rfl ?_);(try (refine gate_guard (by rfl) ?_;dsimp only));refine box_event rfl (N := 1) rfl (cs := #[.slice A0_0 l0_0.length c0_0,.int .i64 a0_1,.slice A0_2 l0_2.length c0_2,.int .i64 a0_3,.int .i64 a0_4]) (t := 27) ?hr ?_;(case hr => go_simp;try rfl);intro g hg w2 hbox hb;replace HR := (cmv HR hb);replace HR2 := (cmv HR2 hb);replace HB := (bmv HB hb);clear hg;have BKg := am hbox;clear hbox;(try clear hczg_0 hczg_1 hczg_2 hczg_3 hczg_4);obtain ⟨hczg_0,hczg_1,hczg_2,hczg_3,hczg_4⟩ := cO5 BKg.out;clear hb) | (go_at_call 95;(with_reducible refine (nz_Check.calls A0_0 c0_0 l0_0 a0_1 0 _ HR.out HC.out H1.out).mono ?_);rintro e w1 ⟨rfl,hb⟩;replace HR := (cmv HR hb);replace HR2 := (cmv HR2 hb);replace HB := (bmv HB hb);replace BKg := (kmv hb BKg);(try clear hczg_0 hczg_1 hczg_2 hczg_3 hczg_4);obtain ⟨hczg_0,hczg_1,hczg_2,hczg_3,hczg_4⟩ := cO5 BKg.out;clear hb) | (go_at_call 73;(with_reducible refine (ca_in.calls (l0_2.length : Int) 1 6 true _ H2.out).mono ?_);rintro e w1 ⟨rfl,hd⟩;have hb := hd.below;clear hd;replace HR := (cmv HR hb);replace HR2 := (cmv HR2 hb);replace HB := (bmv HB hb);replace BKg := (kmv hb BKg);(try clear hczg_0 hczg_1 hczg_2 hczg_3 hczg_4);obtain ⟨hczg_0,hczg_1,hczg_2,hczg_3,hczg_4⟩ := cO5 BKg.out;clear hb) | (go_at_call 68;(with_reducible refine (ca_isHeight.calls a0_3 true _ H3.out).mono ?_);rintro e w1 ⟨rfl,hd⟩;have hb := hd.below;clear hd;replace HR := (cmv HR hb);replace HR2 := (cmv HR2 hb);replace HB := (bmv HB hb);replace BKg := (kmv hb BKg);(try clear hczg_0 hczg_1 hczg_2 hczg_3 hczg_4);obtain ⟨hczg_0,hczg_1,hczg_2,hczg_3,hczg_4⟩ := cO5 BKg.out;clear hb) | (go_at_call 73;(with_reducible refine (ca_in.calls a0_4 0 100 false _ H4.out).mono ?_);rintro e w1 ⟨rfl,hd⟩;have hb := hd.below;clear hd;replace HR := (cmv HR hb);replace HR2 := (cmv HR2 hb);replace HB := (bmv HB hb);replace BKg := (kmv hb BKg);(try clear hczg_0 hczg_1 hczg_2 hczg_3 hczg_4);obtain ⟨hczg_0,hczg_1,hczg_2,hczg_3,hczg_4⟩ := cO5 BKg.out;clear hb))
    go_ret
    exact ⟨rfl,HB.out⟩
   | true =>
    rw [if_pos rfl] at h
    obtain ⟨u,ht,h⟩ := obm h
    obtain rfl := Option.some.inj h
    have H5 := am ht
    clear ht h
    go_enter Tryz.func57,Tryz.ntmps57
    go_wp2_with (first | ((refine gate_dst (N := 1) rfl ?_);(try (refine gate_guard (by rfl) ?_;dsimp only));refine box_event rfl (N := 1) rfl (cs := #[.slice A0_0 l0_0.length c0_0,.int .i64 a0_1,.slice A0_2 l0_2.length c0_2,.int .i64 a0_3,.int .i64 a0_4]) (t := 27) ?hr ?_;(case hr => go_simp;try rfl);intro g hg w2 hbox hb;replace HR := (cmv HR hb);replace HR2 := (cmv HR2 hb);replace HB := (bmv HB hb);clear hg;have BKg := am hbox;clear hbox;(try clear hczg_0 hczg_1 hczg_2 hczg_3 hczg_4);obtain ⟨hczg_0,hczg_1,hczg_2,hczg_3,hczg_4⟩ := cO5 BKg.out;clear hb) | (go_at_call 95;(with_reducible refine (nz_Check.calls A0_0 c0_0 l0_0 a0_1 0 _ HR.out HC.out H1.out).mono ?_);rintro e w1 ⟨rfl,hb⟩;replace HR := (cmv HR hb);replace HR2 := (cmv HR2 hb);replace HB := (bmv HB hb);replace BKg := (kmv hb BKg);(try clear hczg_0 hczg_1 hczg_2 hczg_3 hczg_4);obtain ⟨hczg_0,hczg_1,hczg_2,hczg_3,hczg_4⟩ := cO5 BKg.out;clear hb) | (go_at_call 73;(with_reducible refine (ca_in.calls (l0_2.length : Int) 1 6 true _ H2.out).mono ?_);rintro e w1 ⟨rfl,hd⟩;have hb := hd.below;clear hd;replace HR := (cmv HR hb);replace HR2 := (cmv HR2 hb);replace HB := (bmv HB hb);replace BKg := (kmv hb BKg);(try clear hczg_0 hczg_1 hczg_2 hczg_3 hczg_4);obtain ⟨hczg_0,hczg_1,hczg_2,hczg_3,hczg_4⟩ := cO5 BKg.out;clear hb) | (go_at_call 68;(with_reducible refine (ca_isHeight.calls a0_3 true _ H3.out).mono ?_);rintro e w1 ⟨rfl,hd⟩;have hb := hd.below;clear hd;replace HR := (cmv HR hb);replace HR2 := (cmv HR2 hb);replace HB := (bmv HB hb);replace BKg := (kmv hb BKg);(try clear hczg_0 hczg_1 hczg_2 hczg_3 hczg_4);obtain ⟨hczg_0,hczg_1,hczg_2,hczg_3,hczg_4⟩ := cO5 BKg.out;clear hb) | (go_at_call 73;(with_reducible refine (ca_in.calls a0_4 0 100 true _ H4.out).mono ?_);rintro e w1 ⟨rfl,hd⟩;have hb := hd.below;clear hd;replace HR := (cmv HR hb);replace HR2 := (cmv HR2 hb);replace HB := (bmv HB hb);replace BKg := (kmv hb BKg);(try clear hczg_0 hczg_1 hczg_2 hczg_3 hczg_4);obtain ⟨hczg_0,hczg_1,hczg_2,hczg_3,hczg_4⟩ := cO5 BKg.out;clear hb) | (go_at_call 96;refine (any_isBasin g (ca_isBasin_1.f l0_0) A0_2 c0_2 l0_2 u _ HR2.out (fun x b W hx hq hb => ca_isBasin_1.calls g A0_0 c0_0 l0_0 a0_1 A0_2 c0_2 l0_2 a0_3 a0_4 x b W (blk_below BKg.out hb) hq) H5.out).mono ?_;rintro e w1 ⟨rfl,hb⟩;replace HR := (cmv HR hb);replace HR2 := (cmv HR2 hb);replace HB := (bmv HB hb);replace BKg := (kmv hb BKg);(try clear hczg_0 hczg_1 hczg_2 hczg_3 hczg_4);obtain ⟨hczg_0,hczg_1,hczg_2,hczg_3,hczg_4⟩ := cO5 BKg.out;clear hb))
    go_ret
    exact ⟨rfl,HB.out⟩
def fillK (n : Nat) : Nat := 50 * (n + 2) + 100
def ca_Proves.f (l0_0 : List S126) (a0_1 : Int) (l0_2 : List S64) (a0_3 a0_4 a1_0 a1_1 : Int) : Option (Int × Int × Int) :=
 (ca_isBasin.f l0_0 a0_1 l0_2 a0_3 a0_4).bind fun t => if t = true then (isSpan_isHeight.f a1_0 a1_1).bind fun u => (if u = true then (ca_fill.f (fillK l0_2.length) l0_0 a0_1 l0_2 a0_3 a0_4).bind fun x => (match gf_proves.f l0_0 x.1 l0_2 x.2.1 x.2.2.1 x.2.2.2 a1_0 a1_1 with | some y => some (y.1,y.2,0) | none => (gf_proves_P.f l0_0 x.1 l0_2 x.2.1 x.2.2.1 x.2.2.2 a1_0 a1_1).bind fun _ => some (0,0,7)) else some (0,0,2)) else some (0,0,2)
theorem ca_Proves.calls (A0_0 : Option Addr) (c0_0 : Nat) (l0_0 : List S126) (a0_1 : Int) (A0_2 : Option Addr) (c0_2 : Nat) (l0_2 : List S64) (a0_3 a0_4 : Int) (a1_0 a1_1 : Int) (r1 r2 r3 : Int) (w : World) (hr0_0 : Kd.C k126 w A0_0 l0_0.length l0_0) (hc0_0 : l0_0.length ≤ c0_0) (hr0_2 : Kd.C k64 w A0_2 l0_2.length l0_2) (hc0_2 : l0_2.length ≤ c0_2) (h : ca_Proves.f l0_0 a0_1 l0_2 a0_3 a0_4 a1_0 a1_1 = some (r1,r2,r3)) :
 Calls Tryz.prog 30 #[.agg #[.slice A0_0 l0_0.length c0_0,.int .i64 a0_1,.slice A0_2 l0_2.length c0_2,.int .i64 a0_3,.int .i64 a0_4],.agg #[.int .i64 a1_0,.int .i64 a1_1]] w fun e w' => e = .returned (.tuple #[.agg #[.int .i64 r1,.int .i64 r2],.int .i64 r3]) ∧ Below w.heap.size w w' := by
 have hu := Tryz.underlying27
 have hus := Tryz.underlying40
 have hmf : ∀ (fn : Fn) (first cap : Array Value) (w : World),(Instr.makeFunc fn first cap).run Tryz.prog w = .ok (.func fn first cap) w := fun _ _ _ _ => rfl
 have HR0 := am hr0_0
 have HC0 := am hc0_0
 have HR2 := am hr0_2
 have HC2 := am hc0_2
 have HB := am (Below.refl w.heap.size w)
 clear hr0_0 hc0_0 hr0_2 hc0_2
 unfold ca_Proves.f at h
 obtain ⟨t,ht,h⟩ := obm h
 have H1 := am ht
 clear ht
 cases t with
 | false =>
  rw [if_neg (by decide)] at h
  simp only [Option.some.injEq,Prod.mk.injEq] at h
  obtain ⟨rfl,rfl,rfl⟩ := h
  go_enter Tryz.func30,Tryz.ntmps30
  go_wp2_with (first | ((refine gate_dst (N := 2) rfl ?_);(try (refine gate_guard (by rfl) ?_;dsimp only));refine box_event rfl (N := 2) rfl (cs := #[.slice A0_0 l0_0.length c0_0,.int .i64 a0_1,.slice A0_2 l0_2.length c0_2,.int .i64 a0_3,.int .i64 a0_4]) (t := 27) ?hr ?_;(case hr => go_simp;try rfl);intro gb hg w2 hbox hb;replace HR0 := (cmv HR0 hb);replace HR2 := (cmv HR2 hb);replace HB := (bmv HB hb);clear hg;have BKgb := am hbox;clear hbox;(try clear hczgb_0 hfzgb_0);have hczgb_0 := cO1 BKgb.out;(try clear hczgb_1 hfzgb_1);have hczgb_1 : w2.cell? ⟨gb,1,none⟩ = some (.int .i64 a0_1) := (blk_cell BKgb.out 1).trans rfl;(try clear hczgb_2 hfzgb_2);have hczgb_2 : w2.cell? ⟨gb,2,none⟩ = some (.slice A0_2 l0_2.length c0_2) := (blk_cell BKgb.out 2).trans rfl;(try clear hczgb_3 hfzgb_3);have hczgb_3 : w2.cell? ⟨gb,3,none⟩ = some (.int .i64 a0_3) := (blk_cell BKgb.out 3).trans rfl;(try clear hczgb_4 hfzgb_4);have hczgb_4 : w2.cell? ⟨gb,4,none⟩ = some (.int .i64 a0_4) := (blk_cell BKgb.out 4).trans rfl;clear hb) | ((refine gate_dst (N := 3) rfl ?_);(try (refine gate_guard (by rfl) ?_;dsimp only));refine box_event rfl (N := 3) rfl (cs := #[.int .i64 a1_0,.int .i64 a1_1]) (t := 40) ?hr ?_;(case hr => go_simp;try rfl);intro gs hg w2 hbox hb;replace HR0 := (cmv HR0 hb);replace HR2 := (cmv HR2 hb);replace HB := (bmv HB hb);replace BKgb := (kmv hb BKgb);clear hg;have BKgs := am hbox;clear hbox;(try clear hczgb_0 hfzgb_0);have hczgb_0 := cO1 BKgb.out;(try clear hczgb_1 hfzgb_1);have hczgb_1 : w2.cell? ⟨gb,1,none⟩ = some (.int .i64 a0_1) := (blk_cell BKgb.out 1).trans rfl;(try clear hczgb_2 hfzgb_2);have hczgb_2 : w2.cell? ⟨gb,2,none⟩ = some (.slice A0_2 l0_2.length c0_2) := (blk_cell BKgb.out 2).trans rfl;(try clear hczgb_3 hfzgb_3);have hczgb_3 : w2.cell? ⟨gb,3,none⟩ = some (.int .i64 a0_3) := (blk_cell BKgb.out 3).trans rfl;(try clear hczgb_4 hfzgb_4);have hczgb_4 : w2.cell? ⟨gb,4,none⟩ = some (.int .i64 a0_4) := (blk_cell BKgb.out 4).trans rfl;(try clear hczgs_0 hfzgs_0);have hczgs_0 := cO1 BKgs.out;(try clear hczgs_1 hfzgs_1);have hczgs_1 : w2.cell? ⟨gs,1,none⟩ = some (.int .i64 a1_1) := (blk_cell BKgs.out 1).trans rfl;clear hb) | ((refine gate_dst (N := 4) rfl ?_);(try (refine gate_guard (by rfl) ?_;dsimp only));refine box_event rfl (N := 4) rfl (cs := #[.int .i64 0,.int .i64 0]) (t := 40) ?hr ?_;(case hr => go_simp;try rfl);intro gr hg w2 hbox hb;have HNgb_gr := am (show gb ≠ gr by have := blk_lt BKgb.out;omega);have HNgs_gr := am (show gs ≠ gr by have := blk_lt BKgs.out;omega);have HG := am (show w.heap.size ≤ gr by have := HB.out.size;omega);replace HR0 := (cmv HR0 hb);replace HR2 := (cmv HR2 hb);replace HB := (bmv HB hb);replace BKgb := (kmv hb BKgb);replace BKgs := (kmv hb BKgs);clear hg;have BKgr := am hbox;clear hbox;(try clear hczgb_0 hfzgb_0);have hczgb_0 := cO1 BKgb.out;(try clear hczgb_1 hfzgb_1);have hczgb_1 : w2.cell? ⟨gb,1,none⟩ = some (.int .i64 a0_1) := (blk_cell BKgb.out 1).trans rfl;(try clear hczgb_2 hfzgb_2);have hczgb_2 : w2.cell? ⟨gb,2,none⟩ = some (.slice A0_2 l0_2.length c0_2) := (blk_cell BKgb.out 2).trans rfl;(try clear hczgb_3 hfzgb_3);have hczgb_3 : w2.cell? ⟨gb,3,none⟩ = some (.int .i64 a0_3) := (blk_cell BKgb.out 3).trans rfl;(try clear hczgb_4 hfzgb_4);have hczgb_4 : w2.cell? ⟨gb,4,none⟩ = some (.int .i64 a0_4) := (blk_cell BKgb.out 4).trans rfl;(try clear hczgs_0 hfzgs_0);have hczgs_0 := cO1 BKgs.out;(try clear hczgs_1 hfzgs_1);have hczgs_1 : w2.cell? ⟨gs,1,none⟩ = some (.int .i64 a1_1) := (blk_cell BKgs.out 1).trans rfl;(try clear hczgr_0 hfzgr_0);have hczgr_0 := cO1 BKgr.out;have hfzgr_0 := blk_frozen BKgr.out 0;(try clear hczgr_1 hfzgr_1);have hczgr_1 : w2.cell? ⟨gr,1,none⟩ = some (.int .i64 0) := (blk_cell BKgr.out 1).trans rfl;have hfzgr_1 := blk_frozen BKgr.out 1;clear hb) | (go_at_call 57;(refine (ca_isBasin.calls A0_0 c0_0 l0_0 a0_1 A0_2 c0_2 l0_2 a0_3 a0_4 false _ HR0.out HC0.out HR2.out HC2.out H1.out).mono ?_);rintro e w1 ⟨rfl,hb⟩;replace HR0 := (cmv HR0 hb);replace HR2 := (cmv HR2 hb);replace HB := (bmv HB hb);replace BKgb := (kmv hb BKgb);replace BKgs := (kmv hb BKgs);replace BKgr := (kmv hb BKgr);(try clear hczgb_0 hfzgb_0);have hczgb_0 := cO1 BKgb.out;(try clear hczgb_1 hfzgb_1);have hczgb_1 : w1.cell? ⟨gb,1,none⟩ = some (.int .i64 a0_1) := (blk_cell BKgb.out 1).trans rfl;(try clear hczgb_2 hfzgb_2);have hczgb_2 : w1.cell? ⟨gb,2,none⟩ = some (.slice A0_2 l0_2.length c0_2) := (blk_cell BKgb.out 2).trans rfl;(try clear hczgb_3 hfzgb_3);have hczgb_3 : w1.cell? ⟨gb,3,none⟩ = some (.int .i64 a0_3) := (blk_cell BKgb.out 3).trans rfl;(try clear hczgb_4 hfzgb_4);have hczgb_4 : w1.cell? ⟨gb,4,none⟩ = some (.int .i64 a0_4) := (blk_cell BKgb.out 4).trans rfl;(try clear hczgs_0 hfzgs_0);have hczgs_0 := cO1 BKgs.out;(try clear hczgs_1 hfzgs_1);have hczgs_1 : w1.cell? ⟨gs,1,none⟩ = some (.int .i64 a1_1) := (blk_cell BKgs.out 1).trans rfl;(try clear hczgr_0 hfzgr_0);have hczgr_0 := cO1 BKgr.out;have hfzgr_0 := blk_frozen BKgr.out 0;(try clear hczgr_1 hfzgr_1);have hczgr_1 : w1.cell? ⟨gr,1,none⟩ = some (.int .i64 0) := (blk_cell BKgr.out 1).trans rfl;have hfzgr_1 := blk_frozen BKgr.out 1;clear hb))
  refine bodyPost_ret (results_ct rfl _ _ gr 40 #[.int .i64 0,.int .i64 0] (0,0) _ rfl ((blk_set (blk_set BKgr.out 0 _) 1 _).trans rfl) Tryz.underlying40 rfl (by kernel_rfl)) rfl ?_
  exact ⟨rfl,below_set (below_set HB.out HG.out) HG.out⟩
 | true =>
  rw [if_pos rfl] at h
  obtain ⟨u,hu2,h⟩ := obm h
  have H2 := am hu2
  clear hu2
  cases u with
  | false =>
   rw [if_neg (by decide)] at h
   simp only [Option.some.injEq,Prod.mk.injEq] at h
   obtain ⟨rfl,rfl,rfl⟩ := h
   go_enter Tryz.func30,Tryz.ntmps30
   go_wp2_with (first | ((refine gate_dst (N := 2) rfl ?_);(try (refine gate_guard (by rfl) ?_;dsimp only));refine box_event rfl (N := 2) rfl (cs := #[.slice A0_0 l0_0.length c0_0,.int .i64 a0_1,.slice A0_2 l0_2.length c0_2,.int .i64 a0_3,.int .i64 a0_4]) (t := 27) ?hr ?_;(case hr => go_simp;try rfl);intro gb hg w2 hbox hb;replace HR0 := (cmv HR0 hb);replace HR2 := (cmv HR2 hb);replace HB := (bmv HB hb);clear hg;have BKgb := am hbox;clear hbox;(try clear hczgb_0 hfzgb_0);have hczgb_0 := cO1 BKgb.out;(try clear hczgb_1 hfzgb_1);have hczgb_1 : w2.cell? ⟨gb,1,none⟩ = some (.int .i64 a0_1) := (blk_cell BKgb.out 1).trans rfl;(try clear hczgb_2 hfzgb_2);have hczgb_2 : w2.cell? ⟨gb,2,none⟩ = some (.slice A0_2 l0_2.length c0_2) := (blk_cell BKgb.out 2).trans rfl;(try clear hczgb_3 hfzgb_3);have hczgb_3 : w2.cell? ⟨gb,3,none⟩ = some (.int .i64 a0_3) := (blk_cell BKgb.out 3).trans rfl;(try clear hczgb_4 hfzgb_4);have hczgb_4 : w2.cell? ⟨gb,4,none⟩ = some (.int .i64 a0_4) := (blk_cell BKgb.out 4).trans rfl;clear hb) | ((refine gate_dst (N := 3) rfl ?_);(try (refine gate_guard (by rfl) ?_;dsimp only));refine box_event rfl (N := 3) rfl (cs := #[.int .i64 a1_0,.int .i64 a1_1]) (t := 40) ?hr ?_;(case hr => go_simp;try rfl);intro gs hg w2 hbox hb;replace HR0 := (cmv HR0 hb);replace HR2 := (cmv HR2 hb);replace HB := (bmv HB hb);replace BKgb := (kmv hb BKgb);clear hg;have BKgs := am hbox;clear hbox;(try clear hczgb_0 hfzgb_0);have hczgb_0 := cO1 BKgb.out;(try clear hczgb_1 hfzgb_1);have hczgb_1 : w2.cell? ⟨gb,1,none⟩ = some (.int .i64 a0_1) := (blk_cell BKgb.out 1).trans rfl;(try clear hczgb_2 hfzgb_2);have hczgb_2 : w2.cell? ⟨gb,2,none⟩ = some (.slice A0_2 l0_2.length c0_2) := (blk_cell BKgb.out 2).trans rfl;(try clear hczgb_3 hfzgb_3);have hczgb_3 : w2.cell? ⟨gb,3,none⟩ = some (.int .i64 a0_3) := (blk_cell BKgb.out 3).trans rfl;(try clear hczgb_4 hfzgb_4);have hczgb_4 : w2.cell? ⟨gb,4,none⟩ = some (.int .i64 a0_4) := (blk_cell BKgb.out 4).trans rfl;(try clear hczgs_0 hfzgs_0);have hczgs_0 := cO1 BKgs.out;(try clear hczgs_1 hfzgs_1);have hczgs_1 : w2.cell? ⟨gs,1,none⟩ = some (.int .i64 a1_1) := (blk_cell BKgs.out 1).trans rfl;clear hb) | ((refine gate_dst (N := 4) rfl ?_);(try (refine gate_guard (by rfl) ?_;dsimp only));refine box_event rfl (N := 4) rfl (cs := #[.int .i64 0,.int .i64 0]) (t := 40) ?hr ?_;(case hr => go_simp;try rfl);intro gr hg w2 hbox hb;have HNgb_gr := am (show gb ≠ gr by have := blk_lt BKgb.out;omega);have HNgs_gr := am (show gs ≠ gr by have := blk_lt BKgs.out;omega);have HG := am (show w.heap.size ≤ gr by have := HB.out.size;omega);replace HR0 := (cmv HR0 hb);replace HR2 := (cmv HR2 hb);replace HB := (bmv HB hb);replace BKgb := (kmv hb BKgb);replace BKgs := (kmv hb BKgs);clear hg;have BKgr := am hbox;clear hbox;(try clear hczgb_0 hfzgb_0);have hczgb_0 := cO1 BKgb.out;(try clear hczgb_1 hfzgb_1);have hczgb_1 : w2.cell? ⟨gb,1,none⟩ = some (.int .i64 a0_1) := (blk_cell BKgb.out 1).trans rfl;(try clear hczgb_2 hfzgb_2);have hczgb_2 : w2.cell? ⟨gb,2,none⟩ = some (.slice A0_2 l0_2.length c0_2) := (blk_cell BKgb.out 2).trans rfl;(try clear hczgb_3 hfzgb_3);have hczgb_3 : w2.cell? ⟨gb,3,none⟩ = some (.int .i64 a0_3) := (blk_cell BKgb.out 3).trans rfl;(try clear hczgb_4 hfzgb_4);have hczgb_4 : w2.cell? ⟨gb,4,none⟩ = some (.int .i64 a0_4) := (blk_cell BKgb.out 4).trans rfl;(try clear hczgs_0 hfzgs_0);have hczgs_0 := cO1 BKgs.out;(try clear hczgs_1 hfzgs_1);have hczgs_1 : w2.cell? ⟨gs,1,none⟩ = some (.int .i64 a1_1) := (blk_cell BKgs.out 1).trans rfl;(try clear hczgr_0 hfzgr_0);have hczgr_0 := cO1 BKgr.out;have hfzgr_0 := blk_frozen BKgr.out 0;(try clear hczgr_1 hfzgr_1);have hczgr_1 : w2.cell? ⟨gr,1,none⟩ = some (.int .i64 0) := (blk_cell BKgr.out 1).trans rfl;have hfzgr_1 := blk_frozen BKgr.out 1;clear hb) | (go_at_call 57;(refine (ca_isBasin.calls A0_0 c0_0 l0_0 a0_1 A0_2 c0_2 l0_2 a0_3 a0_4 true _ HR0.out HC0.out HR2.out HC2.out H1.out).mono ?_);rintro e w1 ⟨rfl,hb⟩;replace HR0 := (cmv HR0 hb);replace HR2 := (cmv HR2 hb);replace HB := (bmv HB hb);replace BKgb := (kmv hb BKgb);replace BKgs := (kmv hb BKgs);replace BKgr := (kmv hb BKgr);(try clear hczgb_0 hfzgb_0);have hczgb_0 := cO1 BKgb.out;(try clear hczgb_1 hfzgb_1);have hczgb_1 : w1.cell? ⟨gb,1,none⟩ = some (.int .i64 a0_1) := (blk_cell BKgb.out 1).trans rfl;(try clear hczgb_2 hfzgb_2);have hczgb_2 : w1.cell? ⟨gb,2,none⟩ = some (.slice A0_2 l0_2.length c0_2) := (blk_cell BKgb.out 2).trans rfl;(try clear hczgb_3 hfzgb_3);have hczgb_3 : w1.cell? ⟨gb,3,none⟩ = some (.int .i64 a0_3) := (blk_cell BKgb.out 3).trans rfl;(try clear hczgb_4 hfzgb_4);have hczgb_4 : w1.cell? ⟨gb,4,none⟩ = some (.int .i64 a0_4) := (blk_cell BKgb.out 4).trans rfl;(try clear hczgs_0 hfzgs_0);have hczgs_0 := cO1 BKgs.out;(try clear hczgs_1 hfzgs_1);have hczgs_1 : w1.cell? ⟨gs,1,none⟩ = some (.int .i64 a1_1) := (blk_cell BKgs.out 1).trans rfl;(try clear hczgr_0 hfzgr_0);have hczgr_0 := cO1 BKgr.out;have hfzgr_0 := blk_frozen BKgr.out 0;(try clear hczgr_1 hfzgr_1);have hczgr_1 : w1.cell? ⟨gr,1,none⟩ = some (.int .i64 0) := (blk_cell BKgr.out 1).trans rfl;have hfzgr_1 := blk_frozen BKgr.out 1;clear hb) | (go_at_call 66;(refine (isSpan_isHeight.calls a1_0 a1_1 false _ H2.out).mono ?_);rintro e w1 ⟨rfl,hb⟩;replace HR0 := (cmv HR0 hb);replace HR2 := (cmv HR2 hb);replace HB := (bmv HB hb);replace BKgb := (kmv hb BKgb);replace BKgs := (kmv hb BKgs);replace BKgr := (kmv hb BKgr);(try clear hczgb_0 hfzgb_0);have hczgb_0 := cO1 BKgb.out;(try clear hczgb_1 hfzgb_1);have hczgb_1 : w1.cell? ⟨gb,1,none⟩ = some (.int .i64 a0_1) := (blk_cell BKgb.out 1).trans rfl;(try clear hczgb_2 hfzgb_2);have hczgb_2 : w1.cell? ⟨gb,2,none⟩ = some (.slice A0_2 l0_2.length c0_2) := (blk_cell BKgb.out 2).trans rfl;(try clear hczgb_3 hfzgb_3);have hczgb_3 : w1.cell? ⟨gb,3,none⟩ = some (.int .i64 a0_3) := (blk_cell BKgb.out 3).trans rfl;(try clear hczgb_4 hfzgb_4);have hczgb_4 : w1.cell? ⟨gb,4,none⟩ = some (.int .i64 a0_4) := (blk_cell BKgb.out 4).trans rfl;(try clear hczgs_0 hfzgs_0);have hczgs_0 := cO1 BKgs.out;(try clear hczgs_1 hfzgs_1);have hczgs_1 : w1.cell? ⟨gs,1,none⟩ = some (.int .i64 a1_1) := (blk_cell BKgs.out 1).trans rfl;(try clear hczgr_0 hfzgr_0);have hczgr_0 := cO1 BKgr.out;have hfzgr_0 := blk_frozen BKgr.out 0;(try clear hczgr_1 hfzgr_1);have hczgr_1 : w1.cell? ⟨gr,1,none⟩ = some (.int .i64 0) := (blk_cell BKgr.out 1).trans rfl;have hfzgr_1 := blk_frozen BKgr.out 1;clear hb))
   refine bodyPost_ret (results_ct rfl _ _ gr 40 #[.int .i64 0,.int .i64 0] (0,0) _ rfl ((blk_set (blk_set BKgr.out 0 _) 1 _).trans rfl) Tryz.underlying40 rfl (by kernel_rfl)) rfl ?_
   exact ⟨rfl,below_set (below_set HB.out HG.out) HG.out⟩
  | true =>
   rw [if_pos rfl] at h
   obtain ⟨⟨t1,t2,t3,t4⟩,hf,h⟩ := obm h
   have H3 := am hf
   clear hf
   dsimp only at h
   cases hy : gf_proves.f l0_0 t1 l0_2 t2 t3 t4 a1_0 a1_1 with
   | some y =>
    obtain ⟨y1,y2⟩ := y
    rw [hy] at h
    simp only [Option.some.injEq,Prod.mk.injEq] at h
    obtain ⟨rfl,rfl,rfl⟩ := h
    have H4 := am hy
    clear hy
    go_enter Tryz.func30,Tryz.ntmps30
    go_wp2_with (first | ((refine gate_dst (N := 2) rfl ?_);(try (refine gate_guard (by rfl) ?_;dsimp only));refine box_event rfl (N := 2) rfl (cs := #[.slice A0_0 l0_0.length c0_0,.int .i64 a0_1,.slice A0_2 l0_2.length c0_2,.int .i64 a0_3,.int .i64 a0_4]) (t := 27) ?hr ?_;(case hr => go_simp;try rfl);intro gb hg w2 hbox hb;replace HR0 := (cmv HR0 hb);replace HR2 := (cmv HR2 hb);replace HB := (bmv HB hb);clear hg;have BKgb := am hbox;clear hbox;(try clear hczgb_0 hfzgb_0);have hczgb_0 := cO1 BKgb.out;(try clear hczgb_1 hfzgb_1);have hczgb_1 : w2.cell? ⟨gb,1,none⟩ = some (.int .i64 a0_1) := (blk_cell BKgb.out 1).trans rfl;(try clear hczgb_2 hfzgb_2);have hczgb_2 : w2.cell? ⟨gb,2,none⟩ = some (.slice A0_2 l0_2.length c0_2) := (blk_cell BKgb.out 2).trans rfl;(try clear hczgb_3 hfzgb_3);have hczgb_3 : w2.cell? ⟨gb,3,none⟩ = some (.int .i64 a0_3) := (blk_cell BKgb.out 3).trans rfl;(try clear hczgb_4 hfzgb_4);have hczgb_4 : w2.cell? ⟨gb,4,none⟩ = some (.int .i64 a0_4) := (blk_cell BKgb.out 4).trans rfl;clear hb) | ((refine gate_dst (N := 3) rfl ?_);(try (refine gate_guard (by rfl) ?_;dsimp only));refine box_event rfl (N := 3) rfl (cs := #[.int .i64 a1_0,.int .i64 a1_1]) (t := 40) ?hr ?_;(case hr => go_simp;try rfl);intro gs hg w2 hbox hb;replace HR0 := (cmv HR0 hb);replace HR2 := (cmv HR2 hb);replace HB := (bmv HB hb);replace BKgb := (kmv hb BKgb);clear hg;have BKgs := am hbox;clear hbox;(try clear hczgb_0 hfzgb_0);have hczgb_0 := cO1 BKgb.out;(try clear hczgb_1 hfzgb_1);have hczgb_1 : w2.cell? ⟨gb,1,none⟩ = some (.int .i64 a0_1) := (blk_cell BKgb.out 1).trans rfl;(try clear hczgb_2 hfzgb_2);have hczgb_2 : w2.cell? ⟨gb,2,none⟩ = some (.slice A0_2 l0_2.length c0_2) := (blk_cell BKgb.out 2).trans rfl;(try clear hczgb_3 hfzgb_3);have hczgb_3 : w2.cell? ⟨gb,3,none⟩ = some (.int .i64 a0_3) := (blk_cell BKgb.out 3).trans rfl;(try clear hczgb_4 hfzgb_4);have hczgb_4 : w2.cell? ⟨gb,4,none⟩ = some (.int .i64 a0_4) := (blk_cell BKgb.out 4).trans rfl;(try clear hczgs_0 hfzgs_0);have hczgs_0 := cO1 BKgs.out;(try clear hczgs_1 hfzgs_1);have hczgs_1 : w2.cell? ⟨gs,1,none⟩ = some (.int .i64 a1_1) := (blk_cell BKgs.out 1).trans rfl;clear hb) | ((refine gate_dst (N := 4) rfl ?_);(try (refine gate_guard (by rfl) ?_;dsimp only));refine box_event rfl (N := 4) rfl (cs := #[.int .i64 0,.int .i64 0]) (t := 40) ?hr ?_;(case hr => go_simp;try rfl);intro gr hg w2 hbox hb;have HNgb_gr := am (show gb ≠ gr by have := blk_lt BKgb.out;omega);have HNgs_gr := am (show gs ≠ gr by have := blk_lt BKgs.out;omega);have HG := am (show w.heap.size ≤ gr by have := HB.out.size;omega);replace HR0 := (cmv HR0 hb);replace HR2 := (cmv HR2 hb);replace HB := (bmv HB hb);replace BKgb := (kmv hb BKgb);replace BKgs := (kmv hb BKgs);clear hg;have BKgr := am hbox;clear hbox;(try clear hczgb_0 hfzgb_0);have hczgb_0 := cO1 BKgb.out;(try clear hczgb_1 hfzgb_1);have hczgb_1 : w2.cell? ⟨gb,1,none⟩ = some (.int .i64 a0_1) := (blk_cell BKgb.out 1).trans rfl;(try clear hczgb_2 hfzgb_2);have hczgb_2 : w2.cell? ⟨gb,2,none⟩ = some (.slice A0_2 l0_2.length c0_2) := (blk_cell BKgb.out 2).trans rfl;(try clear hczgb_3 hfzgb_3);have hczgb_3 : w2.cell? ⟨gb,3,none⟩ = some (.int .i64 a0_3) := (blk_cell BKgb.out 3).trans rfl;(try clear hczgb_4 hfzgb_4);have hczgb_4 : w2.cell? ⟨gb,4,none⟩ = some (.int .i64 a0_4) := (blk_cell BKgb.out 4).trans rfl;(try clear hczgs_0 hfzgs_0);have hczgs_0 := cO1 BKgs.out;(try clear hczgs_1 hfzgs_1);have hczgs_1 : w2.cell? ⟨gs,1,none⟩ = some (.int .i64 a1_1) := (blk_cell BKgs.out 1).trans rfl;(try clear hczgr_0 hfzgr_0);have hczgr_0 := cO1 BKgr.out;have hfzgr_0 := blk_frozen BKgr.out 0;(try clear hczgr_1 hfzgr_1);have hczgr_1 : w2.cell? ⟨gr,1,none⟩ = some (.int .i64 0) := (blk_cell BKgr.out 1).trans rfl;have hfzgr_1 := blk_frozen BKgr.out 1;clear hb) | (go_at_call 57;(refine (ca_isBasin.calls A0_0 c0_0 l0_0 a0_1 A0_2 c0_2 l0_2 a0_3 a0_4 true _ HR0.out HC0.out HR2.out HC2.out H1.out).mono ?_);rintro e w1 ⟨rfl,hb⟩;replace HR0 := (cmv HR0 hb);replace HR2 := (cmv HR2 hb);replace HB := (bmv HB hb);replace BKgb := (kmv hb BKgb);replace BKgs := (kmv hb BKgs);replace BKgr := (kmv hb BKgr);(try clear hczgb_0 hfzgb_0);have hczgb_0 := cO1 BKgb.out;(try clear hczgb_1 hfzgb_1);have hczgb_1 : w1.cell? ⟨gb,1,none⟩ = some (.int .i64 a0_1) := (blk_cell BKgb.out 1).trans rfl;(try clear hczgb_2 hfzgb_2);have hczgb_2 : w1.cell? ⟨gb,2,none⟩ = some (.slice A0_2 l0_2.length c0_2) := (blk_cell BKgb.out 2).trans rfl;(try clear hczgb_3 hfzgb_3);have hczgb_3 : w1.cell? ⟨gb,3,none⟩ = some (.int .i64 a0_3) := (blk_cell BKgb.out 3).trans rfl;(try clear hczgb_4 hfzgb_4);have hczgb_4 : w1.cell? ⟨gb,4,none⟩ = some (.int .i64 a0_4) := (blk_cell BKgb.out 4).trans rfl;(try clear hczgs_0 hfzgs_0);have hczgs_0 := cO1 BKgs.out;(try clear hczgs_1 hfzgs_1);have hczgs_1 : w1.cell? ⟨gs,1,none⟩ = some (.int .i64 a1_1) := (blk_cell BKgs.out 1).trans rfl;(try clear hczgr_0 hfzgr_0);have hczgr_0 := cO1 BKgr.out;have hfzgr_0 := blk_frozen BKgr.out 0;(try clear hczgr_1 hfzgr_1);have hczgr_1 : w1.cell? ⟨gr,1,none⟩ = some (.int .i64 0) := (blk_cell BKgr.out 1).trans rfl;have hfzgr_1 := blk_frozen BKgr.out 1;clear hb) | (go_at_call 66;(refine (isSpan_isHeight.calls a1_0 a1_1 true _ H2.out).mono ?_);rintro e w1 ⟨rfl,hb⟩;replace HR0 := (cmv HR0 hb);replace HR2 := (cmv HR2 hb);replace HB := (bmv HB hb);replace BKgb := (kmv hb BKgb);replace BKgs := (kmv hb BKgs);replace BKgr := (kmv hb BKgr);(try clear hczgb_0 hfzgb_0);have hczgb_0 := cO1 BKgb.out;(try clear hczgb_1 hfzgb_1);have hczgb_1 : w1.cell? ⟨gb,1,none⟩ = some (.int .i64 a0_1) := (blk_cell BKgb.out 1).trans rfl;(try clear hczgb_2 hfzgb_2);have hczgb_2 : w1.cell? ⟨gb,2,none⟩ = some (.slice A0_2 l0_2.length c0_2) := (blk_cell BKgb.out 2).trans rfl;(try clear hczgb_3 hfzgb_3);have hczgb_3 : w1.cell? ⟨gb,3,none⟩ = some (.int .i64 a0_3) := (blk_cell BKgb.out 3).trans rfl;(try clear hczgb_4 hfzgb_4);have hczgb_4 : w1.cell? ⟨gb,4,none⟩ = some (.int .i64 a0_4) := (blk_cell BKgb.out 4).trans rfl;(try clear hczgs_0 hfzgs_0);have hczgs_0 := cO1 BKgs.out;(try clear hczgs_1 hfzgs_1);have hczgs_1 : w1.cell? ⟨gs,1,none⟩ = some (.int .i64 a1_1) := (blk_cell BKgs.out 1).trans rfl;(try clear hczgr_0 hfzgr_0);have hczgr_0 := cO1 BKgr.out;have hfzgr_0 := blk_frozen BKgr.out 0;(try clear hczgr_1 hfzgr_1);have hczgr_1 : w1.cell? ⟨gr,1,none⟩ = some (.int .i64 0) := (blk_cell BKgr.out 1).trans rfl;have hfzgr_1 := blk_frozen BKgr.out 1;clear hb) | ((refine gate_dst (N := 6) rfl ?_);(try (refine gate_guard (by rfl) ?_;dsimp only));refine box_event rfl (N := 6) rfl (cs := #[.int .i64 0,.int .i64 0]) (t := 40) ?hr ?_;(case hr => go_simp;try rfl);intro gx hg wx hbox hb;have HNgb_gx := am (show gb ≠ gx by have := blk_lt BKgb.out;omega);have HNgs_gx := am (show gs ≠ gx by have := blk_lt BKgs.out;omega);have HNgr_gx := am (show gr ≠ gx by have := blk_lt BKgr.out;omega);have HGx := am (show w.heap.size ≤ gx by have := HB.out.size;omega);replace HR0 := (cmv HR0 hb);replace HR2 := (cmv HR2 hb);replace HB := (bmv HB hb);replace BKgb := (kmv hb BKgb);replace BKgs := (kmv hb BKgs);replace BKgr := (kmv hb BKgr);clear hg;have BKgx := am hbox;clear hbox;(try clear hczgb_0 hfzgb_0);have hczgb_0 := cO1 BKgb.out;(try clear hczgb_1 hfzgb_1);have hczgb_1 : wx.cell? ⟨gb,1,none⟩ = some (.int .i64 a0_1) := (blk_cell BKgb.out 1).trans rfl;(try clear hczgb_2 hfzgb_2);have hczgb_2 : wx.cell? ⟨gb,2,none⟩ = some (.slice A0_2 l0_2.length c0_2) := (blk_cell BKgb.out 2).trans rfl;(try clear hczgb_3 hfzgb_3);have hczgb_3 : wx.cell? ⟨gb,3,none⟩ = some (.int .i64 a0_3) := (blk_cell BKgb.out 3).trans rfl;(try clear hczgb_4 hfzgb_4);have hczgb_4 : wx.cell? ⟨gb,4,none⟩ = some (.int .i64 a0_4) := (blk_cell BKgb.out 4).trans rfl;(try clear hczgs_0 hfzgs_0);have hczgs_0 := cO1 BKgs.out;(try clear hczgs_1 hfzgs_1);have hczgs_1 : wx.cell? ⟨gs,1,none⟩ = some (.int .i64 a1_1) := (blk_cell BKgs.out 1).trans rfl;(try clear hczgr_0 hfzgr_0);have hczgr_0 := cO1 BKgr.out;have hfzgr_0 := blk_frozen BKgr.out 0;(try clear hczgr_1 hfzgr_1);have hczgr_1 : wx.cell? ⟨gr,1,none⟩ = some (.int .i64 0) := (blk_cell BKgr.out 1).trans rfl;have hfzgr_1 := blk_frozen BKgr.out 1;(try clear hczgx_0 hfzgx_0);have hczgx_0 := cO1 BKgx.out;(try clear hczgx_1 hfzgx_1);have hczgx_1 : wx.cell? ⟨gx,1,none⟩ = some (.int .i64 0) := (blk_cell BKgx.out 1).trans rfl;clear hb) | (go_at_call 70;refine (attempt_Proves_ok gb gs gx (fun W' => W'.heap[gx]? = some (.cells #[.int .i64 y1,.int .i64 y2] 40 (0,0)) ∧ KeepBut (wx.alloc (.cells #[.int .i64 0] 31)) W' gx none ∧ Below w.heap.size w W') _ ((Proves1_ok (fillK l0_2.length) gb gs gx A0_0 c0_0 l0_0 a0_1 A0_2 c0_2 l0_2 a0_3 a0_4 a1_0 a1_1 0 0 y1 y2 t1 t2 t3 t4 w (wx.alloc (.cells #[.int .i64 0] 31)) (below_alloc HB.out _) HGx.out HNgb_gx.out HNgs_gx.out (blk_alloc BKgb.out _) (blk_alloc BKgs.out _) (blk_alloc BKgx.out _) (Kd.C_alloc HR0.out _) HC0.out (Kd.C_alloc HR2.out _) HC2.out H3.out H4.out).mono fun e W' h => ⟨h.1,h.2.1,h.2.2.1,h.2.2.2⟩) (fun W' hi => ⟨(blk_cell (KeepBut.blk hi.2.1 (blk_new wx _) (Ne.symm (Nat.ne_of_lt (blk_lt BKgx.out))) (by simp)) 0).trans rfl,blk_frozen (KeepBut.blk hi.2.1 (blk_new wx _) (Ne.symm (Nat.ne_of_lt (blk_lt BKgx.out))) (by simp)) 0⟩)).mono ?_;rintro e W2 ⟨rfl,W1,⟨hx,hk,hb⟩,hw⟩;have nx := am (show W2.heap[gx]? = some (.cells #[.int .i64 y1,.int .i64 y2] 40 (0,0)) by rw [hw];exact blk_far hx (Nat.ne_of_lt (blk_lt BKgx.out)) _);have nr := am (show W2.heap[gr]? = some (.cells #[.int .i64 0,.int .i64 0] 40 (0,0)) by rw [hw];exact blk_far (KeepBut.blk hk (blk_alloc BKgr.out _) HNgr_gx.out (by simp)) (Nat.ne_of_lt (blk_lt BKgr.out)) _);have nB := am (show Below w.heap.size w W2 by rw [hw];exact below_set hb HB.out.size);(try clear hczgb_0 hczgb_1 hczgb_2 hczgb_3 hczgb_4 hfzgb_0 hfzgb_1 hfzgb_2 hfzgb_3 hfzgb_4 hczgs_0 hczgs_1 hfzgs_0 hfzgs_1 hczgr_0 hczgr_1 hfzgr_0 hfzgr_1 hczgx_0 hczgx_1 hfzgx_0 hfzgx_1);clear hx hk hb hw BKgx BKgr HB BKgb BKgs HR0 HR2;have BKgx := nx;have BKgr := nr;have HB := nB;clear nx nr nB;obtain ⟨hcqgx_0,hcqgx_1⟩ := cO2 BKgx.out;obtain ⟨hcqgr_0,hcqgr_1⟩ := cO2 BKgr.out;have hfqgr_0 := blk_frozen BKgr.out 0;have hfqgr_1 := blk_frozen BKgr.out 1))
    refine bodyPost_ret (results_ct rfl _ _ gr 40 #[.int .i64 y1,.int .i64 y2] (0,0) _ rfl ((blk_set (blk_set BKgr.out 0 _) 1 _).trans rfl) Tryz.underlying40 rfl (by kernel_rfl)) rfl ?_
    exact ⟨rfl,below_set (below_set HB.out HG.out) HG.out⟩
   | none =>
    rw [hy] at h
    clear hy
    dsimp only at h
    obtain ⟨⟨y1,y2⟩,hp,h⟩ := obm h
    simp only [Option.some.injEq,Prod.mk.injEq] at h
    obtain ⟨rfl,rfl,rfl⟩ := h
    have H4 := am hp
    clear hp
    go_enter Tryz.func30,Tryz.ntmps30
    go_wp2_with (first | ((refine gate_dst (N := 2) rfl ?_);(try (refine gate_guard (by rfl) ?_;dsimp only));refine box_event rfl (N := 2) rfl (cs := #[.slice A0_0 l0_0.length c0_0,.int .i64 a0_1,.slice A0_2 l0_2.length c0_2,.int .i64 a0_3,.int .i64 a0_4]) (t := 27) ?hr ?_;(case hr => go_simp;try rfl);intro gb hg w2 hbox hb;replace HR0 := (cmv HR0 hb);replace HR2 := (cmv HR2 hb);replace HB := (bmv HB hb);clear hg;have BKgb := am hbox;clear hbox;(try clear hczgb_0 hfzgb_0);have hczgb_0 := cO1 BKgb.out;(try clear hczgb_1 hfzgb_1);have hczgb_1 : w2.cell? ⟨gb,1,none⟩ = some (.int .i64 a0_1) := (blk_cell BKgb.out 1).trans rfl;(try clear hczgb_2 hfzgb_2);have hczgb_2 : w2.cell? ⟨gb,2,none⟩ = some (.slice A0_2 l0_2.length c0_2) := (blk_cell BKgb.out 2).trans rfl;(try clear hczgb_3 hfzgb_3);have hczgb_3 : w2.cell? ⟨gb,3,none⟩ = some (.int .i64 a0_3) := (blk_cell BKgb.out 3).trans rfl;(try clear hczgb_4 hfzgb_4);have hczgb_4 : w2.cell? ⟨gb,4,none⟩ = some (.int .i64 a0_4) := (blk_cell BKgb.out 4).trans rfl;clear hb) | ((refine gate_dst (N := 3) rfl ?_);(try (refine gate_guard (by rfl) ?_;dsimp only));refine box_event rfl (N := 3) rfl (cs := #[.int .i64 a1_0,.int .i64 a1_1]) (t := 40) ?hr ?_;(case hr => go_simp;try rfl);intro gs hg w2 hbox hb;replace HR0 := (cmv HR0 hb);replace HR2 := (cmv HR2 hb);replace HB := (bmv HB hb);replace BKgb := (kmv hb BKgb);clear hg;have BKgs := am hbox;clear hbox;(try clear hczgb_0 hfzgb_0);have hczgb_0 := cO1 BKgb.out;(try clear hczgb_1 hfzgb_1);have hczgb_1 : w2.cell? ⟨gb,1,none⟩ = some (.int .i64 a0_1) := (blk_cell BKgb.out 1).trans rfl;(try clear hczgb_2 hfzgb_2);have hczgb_2 : w2.cell? ⟨gb,2,none⟩ = some (.slice A0_2 l0_2.length c0_2) := (blk_cell BKgb.out 2).trans rfl;(try clear hczgb_3 hfzgb_3);have hczgb_3 : w2.cell? ⟨gb,3,none⟩ = some (.int .i64 a0_3) := (blk_cell BKgb.out 3).trans rfl;(try clear hczgb_4 hfzgb_4);have hczgb_4 : w2.cell? ⟨gb,4,none⟩ = some (.int .i64 a0_4) := (blk_cell BKgb.out 4).trans rfl;(try clear hczgs_0 hfzgs_0);have hczgs_0 := cO1 BKgs.out;(try clear hczgs_1 hfzgs_1);have hczgs_1 : w2.cell? ⟨gs,1,none⟩ = some (.int .i64 a1_1) := (blk_cell BKgs.out 1).trans rfl;clear hb) | ((refine gate_dst (N := 4) rfl ?_);(try (refine gate_guard (by rfl) ?_;dsimp only));refine box_event rfl (N := 4) rfl (cs := #[.int .i64 0,.int .i64 0]) (t := 40) ?hr ?_;(case hr => go_simp;try rfl);intro gr hg w2 hbox hb;have HNgb_gr := am (show gb ≠ gr by have := blk_lt BKgb.out;omega);have HNgs_gr := am (show gs ≠ gr by have := blk_lt BKgs.out;omega);have HG := am (show w.heap.size ≤ gr by have := HB.out.size;omega);replace HR0 := (cmv HR0 hb);replace HR2 := (cmv HR2 hb);replace HB := (bmv HB hb);replace BKgb := (kmv hb BKgb);replace BKgs := (kmv hb BKgs);clear hg;have BKgr := am hbox;clear hbox;(try clear hczgb_0 hfzgb_0);have hczgb_0 := cO1 BKgb.out;(try clear hczgb_1 hfzgb_1);have hczgb_1 : w2.cell? ⟨gb,1,none⟩ = some (.int .i64 a0_1) := (blk_cell BKgb.out 1).trans rfl;(try clear hczgb_2 hfzgb_2);have hczgb_2 : w2.cell? ⟨gb,2,none⟩ = some (.slice A0_2 l0_2.length c0_2) := (blk_cell BKgb.out 2).trans rfl;(try clear hczgb_3 hfzgb_3);have hczgb_3 : w2.cell? ⟨gb,3,none⟩ = some (.int .i64 a0_3) := (blk_cell BKgb.out 3).trans rfl;(try clear hczgb_4 hfzgb_4);have hczgb_4 : w2.cell? ⟨gb,4,none⟩ = some (.int .i64 a0_4) := (blk_cell BKgb.out 4).trans rfl;(try clear hczgs_0 hfzgs_0);have hczgs_0 := cO1 BKgs.out;(try clear hczgs_1 hfzgs_1);have hczgs_1 : w2.cell? ⟨gs,1,none⟩ = some (.int .i64 a1_1) := (blk_cell BKgs.out 1).trans rfl;(try clear hczgr_0 hfzgr_0);have hczgr_0 := cO1 BKgr.out;have hfzgr_0 := blk_frozen BKgr.out 0;(try clear hczgr_1 hfzgr_1);have hczgr_1 : w2.cell? ⟨gr,1,none⟩ = some (.int .i64 0) := (blk_cell BKgr.out 1).trans rfl;have hfzgr_1 := blk_frozen BKgr.out 1;clear hb) | (go_at_call 57;(refine (ca_isBasin.calls A0_0 c0_0 l0_0 a0_1 A0_2 c0_2 l0_2 a0_3 a0_4 true _ HR0.out HC0.out HR2.out HC2.out H1.out).mono ?_);rintro e w1 ⟨rfl,hb⟩;replace HR0 := (cmv HR0 hb);replace HR2 := (cmv HR2 hb);replace HB := (bmv HB hb);replace BKgb := (kmv hb BKgb);replace BKgs := (kmv hb BKgs);replace BKgr := (kmv hb BKgr);(try clear hczgb_0 hfzgb_0);have hczgb_0 := cO1 BKgb.out;(try clear hczgb_1 hfzgb_1);have hczgb_1 : w1.cell? ⟨gb,1,none⟩ = some (.int .i64 a0_1) := (blk_cell BKgb.out 1).trans rfl;(try clear hczgb_2 hfzgb_2);have hczgb_2 : w1.cell? ⟨gb,2,none⟩ = some (.slice A0_2 l0_2.length c0_2) := (blk_cell BKgb.out 2).trans rfl;(try clear hczgb_3 hfzgb_3);have hczgb_3 : w1.cell? ⟨gb,3,none⟩ = some (.int .i64 a0_3) := (blk_cell BKgb.out 3).trans rfl;(try clear hczgb_4 hfzgb_4);have hczgb_4 : w1.cell? ⟨gb,4,none⟩ = some (.int .i64 a0_4) := (blk_cell BKgb.out 4).trans rfl;(try clear hczgs_0 hfzgs_0);have hczgs_0 := cO1 BKgs.out;(try clear hczgs_1 hfzgs_1);have hczgs_1 : w1.cell? ⟨gs,1,none⟩ = some (.int .i64 a1_1) := (blk_cell BKgs.out 1).trans rfl;(try clear hczgr_0 hfzgr_0);have hczgr_0 := cO1 BKgr.out;have hfzgr_0 := blk_frozen BKgr.out 0;(try clear hczgr_1 hfzgr_1);have hczgr_1 : w1.cell? ⟨gr,1,none⟩ = some (.int .i64 0) := (blk_cell BKgr.out 1).trans rfl;have hfzgr_1 := blk_frozen BKgr.out 1;clear hb) | (go_at_call 66;(refine (isSpan_isHeight.calls a1_0 a1_1 true _ H2.out).mono ?_);rintro e w1 ⟨rfl,hb⟩;replace HR0 := (cmv HR0 hb);replace HR2 := (cmv HR2 hb);replace HB := (bmv HB hb);replace BKgb := (kmv hb BKgb);replace BKgs := (kmv hb BKgs);replace BKgr := (kmv hb BKgr);(try clear hczgb_0 hfzgb_0);have hczgb_0 := cO1 BKgb.out;(try clear hczgb_1 hfzgb_1);have hczgb_1 : w1.cell? ⟨gb,1,none⟩ = some (.int .i64 a0_1) := (blk_cell BKgb.out 1).trans rfl;(try clear hczgb_2 hfzgb_2);have hczgb_2 : w1.cell? ⟨gb,2,none⟩ = some (.slice A0_2 l0_2.length c0_2) := (blk_cell BKgb.out 2).trans rfl;(try clear hczgb_3 hfzgb_3);have hczgb_3 : w1.cell? ⟨gb,3,none⟩ = some (.int .i64 a0_3) := (blk_cell BKgb.out 3).trans rfl;(try clear hczgb_4 hfzgb_4);have hczgb_4 : w1.cell? ⟨gb,4,none⟩ = some (.int .i64 a0_4) := (blk_cell BKgb.out 4).trans rfl;(try clear hczgs_0 hfzgs_0);have hczgs_0 := cO1 BKgs.out;(try clear hczgs_1 hfzgs_1);have hczgs_1 : w1.cell? ⟨gs,1,none⟩ = some (.int .i64 a1_1) := (blk_cell BKgs.out 1).trans rfl;(try clear hczgr_0 hfzgr_0);have hczgr_0 := cO1 BKgr.out;have hfzgr_0 := blk_frozen BKgr.out 0;(try clear hczgr_1 hfzgr_1);have hczgr_1 : w1.cell? ⟨gr,1,none⟩ = some (.int .i64 0) := (blk_cell BKgr.out 1).trans rfl;have hfzgr_1 := blk_frozen BKgr.out 1;clear hb) | ((refine gate_dst (N := 6) rfl ?_);(try (refine gate_guard (by rfl) ?_;dsimp only));refine box_event rfl (N := 6) rfl (cs := #[.int .i64 0,.int .i64 0]) (t := 40) ?hr ?_;(case hr => go_simp;try rfl);intro gx hg wx hbox hb;have HNgb_gx := am (show gb ≠ gx by have := blk_lt BKgb.out;omega);have HNgs_gx := am (show gs ≠ gx by have := blk_lt BKgs.out;omega);have HNgr_gx := am (show gr ≠ gx by have := blk_lt BKgr.out;omega);have HGx := am (show w.heap.size ≤ gx by have := HB.out.size;omega);replace HR0 := (cmv HR0 hb);replace HR2 := (cmv HR2 hb);replace HB := (bmv HB hb);replace BKgb := (kmv hb BKgb);replace BKgs := (kmv hb BKgs);replace BKgr := (kmv hb BKgr);clear hg;have BKgx := am hbox;clear hbox;(try clear hczgb_0 hfzgb_0);have hczgb_0 := cO1 BKgb.out;(try clear hczgb_1 hfzgb_1);have hczgb_1 : wx.cell? ⟨gb,1,none⟩ = some (.int .i64 a0_1) := (blk_cell BKgb.out 1).trans rfl;(try clear hczgb_2 hfzgb_2);have hczgb_2 : wx.cell? ⟨gb,2,none⟩ = some (.slice A0_2 l0_2.length c0_2) := (blk_cell BKgb.out 2).trans rfl;(try clear hczgb_3 hfzgb_3);have hczgb_3 : wx.cell? ⟨gb,3,none⟩ = some (.int .i64 a0_3) := (blk_cell BKgb.out 3).trans rfl;(try clear hczgb_4 hfzgb_4);have hczgb_4 : wx.cell? ⟨gb,4,none⟩ = some (.int .i64 a0_4) := (blk_cell BKgb.out 4).trans rfl;(try clear hczgs_0 hfzgs_0);have hczgs_0 := cO1 BKgs.out;(try clear hczgs_1 hfzgs_1);have hczgs_1 : wx.cell? ⟨gs,1,none⟩ = some (.int .i64 a1_1) := (blk_cell BKgs.out 1).trans rfl;(try clear hczgr_0 hfzgr_0);have hczgr_0 := cO1 BKgr.out;have hfzgr_0 := blk_frozen BKgr.out 0;(try clear hczgr_1 hfzgr_1);have hczgr_1 : wx.cell? ⟨gr,1,none⟩ = some (.int .i64 0) := (blk_cell BKgr.out 1).trans rfl;have hfzgr_1 := blk_frozen BKgr.out 1;(try clear hczgx_0 hfzgx_0);have hczgx_0 := cO1 BKgx.out;(try clear hczgx_1 hfzgx_1);have hczgx_1 : wx.cell? ⟨gx,1,none⟩ = some (.int .i64 0) := (blk_cell BKgx.out 1).trans rfl;clear hb) | (go_at_call 70;refine (attempt_Proves_reading gb gs gx y1 y2 (fun W' => Below (wx.alloc (.cells #[.int .i64 0] 31)).heap.size (wx.alloc (.cells #[.int .i64 0] 31)) W') _ (Proves1_gives_up (fillK l0_2.length) gb gs gx A0_0 c0_0 l0_0 a0_1 A0_2 c0_2 l0_2 a0_3 a0_4 a1_0 a1_1 0 0 y1 y2 t1 t2 t3 t4 w (wx.alloc (.cells #[.int .i64 0] 31)) (below_alloc HB.out _) HGx.out HNgb_gx.out HNgs_gx.out (blk_alloc BKgb.out _) (blk_alloc BKgs.out _) (blk_alloc BKgx.out _) (Kd.C_alloc HR0.out _) HC0.out (Kd.C_alloc HR2.out _) HC2.out H3.out H4.out) (fun W' hi => ⟨(blk_cell (blk_below (blk_new wx _) hi) 0).trans rfl,blk_frozen (blk_below (blk_new wx _) hi) 0⟩)).mono ?_;rintro e W2 ⟨rfl,W1,hb,hw⟩;have nr := am (show W2.heap[gr]? = some (.cells #[.int .i64 0,.int .i64 0] 40 (0,0)) by rw [hw];exact blk_far (blk_alloc (blk_below (blk_alloc BKgr.out _) hb) _) (Nat.ne_of_lt (blk_lt BKgr.out)) _);have nB := am (show Below w.heap.size w W2 by rw [hw];exact below_set (below_alloc (below_then (below_alloc HB.out _) (below_alloc HB.out _).size hb) _) HB.out.size);(try clear hczgb_0 hczgb_1 hczgb_2 hczgb_3 hczgb_4 hfzgb_0 hfzgb_1 hfzgb_2 hfzgb_3 hfzgb_4 hczgs_0 hczgs_1 hfzgs_0 hfzgs_1 hczgr_0 hczgr_1 hfzgr_0 hfzgr_1 hczgx_0 hczgx_1 hfzgx_0 hfzgx_1);clear hb hw BKgx BKgr HB BKgb BKgs HR0 HR2;have BKgr := nr;have HB := nB;clear nr nB;obtain ⟨hcqgr_0,hcqgr_1⟩ := cO2 BKgr.out;have hfqgr_0 := blk_frozen BKgr.out 0;have hfqgr_1 := blk_frozen BKgr.out 1))
    refine bodyPost_ret (results_ct rfl _ _ gr 40 #[.int .i64 0,.int .i64 0] (0,0) _ rfl ((blk_set (blk_set BKgr.out 0 _) 1 _).trans rfl) Tryz.underlying40 rfl (by kernel_rfl)) rfl ?_
    exact ⟨rfl,below_set (below_set HB.out HG.out) HG.out⟩
section
attribute [local go_sem] max2_int min2_int max_two min_two
def ca_isChain_1.f (l0_0 : List (S126)) (a0_1 : Int) (l0_2 : List (S64)) (a0_3 : Int) (a0_4 : Int) : Option (Bool) := (ca_isBasin.f l0_0 a0_1 l0_2 a0_3 a0_4).bind fun t998 => (some (!t998))
theorem ca_isChain_1.calls (A0_0 : Option Addr) (c0_0 : Nat) (l0_0 : List (S126)) (a0_1 : Int) (A0_2 : Option Addr) (c0_2 : Nat) (l0_2 : List (S64)) (a0_3 : Int) (a0_4 : Int) (r : Bool) (w : World) (hr0_0 : Kd.C k126 w A0_0 l0_0.length l0_0) (hc0_0 : l0_0.length ≤ c0_0) (hr0_2 : Kd.C k64 w A0_2 l0_2.length l0_2) (hc0_2 : l0_2.length ≤ c0_2) (h : ca_isChain_1.f l0_0 a0_1 l0_2 a0_3 a0_4 = some r) :
 Calls Tryz.prog 109 #[.agg #[.slice A0_0 l0_0.length c0_0,.int .i64 a0_1,.slice A0_2 l0_2.length c0_2,.int .i64 a0_3,.int .i64 a0_4]] w fun e w' => e = .returned (.bool r) ∧ Below w.heap.size w w' := by
 have hu27 := Tryz.underlying27
 have HR0_0 := am hr0_0
 have HC0_0 := am hc0_0
 clear hr0_0 hc0_0
 have HR0_2 := am hr0_2
 have HC0_2 := am hc0_2
 clear hr0_2 hc0_2
 have HB := am (Below.refl w.heap.size w)
 have H : ((ca_isBasin.f l0_0 a0_1 l0_2 a0_3 a0_4).bind fun t998 => (some (!t998))) = some r := h
 clear h
 replace H := obm H
 obtain ⟨t998,A20,H⟩ := H
 (try dsimp only at H)
 have A2 := am A20
 clear A20
 obtain rfl := Option.some.inj H
 go_enter Tryz.func109,Tryz.ntmps109
 go_wp2_with (first | ((refine gate_dst (N := 1) rfl ?_);refine box_event rfl (N := 1) rfl (cs := #[.slice A0_0 l0_0.length c0_0,.int .i64 a0_1,.slice A0_2 l0_2.length c0_2,.int .i64 a0_3,.int .i64 a0_4]) (t := 27) ?hr ?_;(case hr => go_simp;try rfl);intro gb997 hg w3 hbox hb;have BK997 := am (hbox);have GE997 := am (ge_new (HB.out) hg);replace HB := am (below_step (HB.out) hb);clear hb hbox hg;obtain ⟨hcz4_0,hcz4_1,hcz4_2,hcz4_3,hcz4_4⟩ := cO5 BK997.out) | ((with_reducible refine gate_callee (f := 57) rfl ?_);refine goesL_ (some 4) rfl rfl Tryz.func57 (by kernel_rfl) rfl #[.agg #[.slice A0_0 l0_0.length c0_0,.int .i64 a0_1,.slice A0_2 l0_2.length c0_2,.int .i64 a0_3,.int .i64 a0_4]] rfl (by (try simp only [List.map_toArray,List.map_cons,List.map_nil]);first | done | rfl | (simp only [List.length_drop,List.length_take];rfl)) ?_;(with_reducible refine (ca_isBasin.calls _ _ l0_0 a0_1 _ _ l0_2 a0_3 a0_4 t998 _ ?side1 ?side2 ?side3 ?side4 A2.out).mono ?_);(case side1 => exact kC HR0_0.out HB.out);(case side2 => exact HC0_0.out);(case side3 => exact kC HR0_2.out HB.out);(case side4 => exact HC0_2.out);rintro e w5 ⟨rfl,hb⟩;refine ⟨_,rfl,?_⟩;replace BK997 := am (blk_below (g := gb997) (o := .cells #[.slice A0_0 l0_0.length c0_0,.int .i64 a0_1,.slice A0_2 l0_2.length c0_2,.int .i64 a0_3,.int .i64 a0_4] 27 (0,0)) (by (with_reducible repeat (first | refine blk_drewN ?_ _ | refine blk_drew ?_ | refine blk_alloc ?_ _));exact BK997.out) hb);replace HB := am (below_step (HB.out) hb);(try clear hb);(try clear hb2);(try clear hk);(try clear hi)))
 go_ret
 exact ⟨by first | rfl | (simp [*] <;> rfl),HB.out⟩
end
def Pred_isChain (q : S27 → Option Bool) (w : World) (xs : List S27) : Prop := ∀ (x : S27) (b : Bool) (W : World) (A0 : Option Addr) (c0 : Nat) (A2 : Option Addr) (c2 : Nat) , x ∈ xs → q x = some b → Below w.heap.size w W → k126.C W A0 x.f0.f0.length x.f0.f0 → x.f0.f0.length ≤ c0 → k64.C W A2 x.f1.length x.f1 → x.f1.length ≤ c2 → 
 Calls Tryz.prog 109 #[.agg #[.slice A0 x.f0.f0.length c0,.int .i64 x.f0.f1,.slice A2 x.f1.length c2,.int .i64 x.f2,.int .i64 x.f3]] W fun e W' => e = .returned (.bool b) ∧ Below W.heap.size W W'
theorem idx_isChain (q : S27 → Option Bool) (A : Option Addr) (c : Nat) (xs : List S27) (r : Int) (w : World) (hr : Kd.C k27 w A xs.length xs) (hp : Pred_isChain q w xs) (h : idxM q xs 0 = some r) :
 Calls Tryz.prog 120 #[.slice A xs.length c,.func (.func 109) #[] #[]] w fun e w' => e = .returned (.int .i64 r) ∧ Below w.heap.size w w' := by
 have huE := Tryz.underlying27
 have HR := am hr
 have HP := am hp
 have HQ := am (show idxM q (xs.drop (0 : Int).toNat) 0 = some r from h)
 have hm : xs.length ≤ 9223372036854775807 := Kd.C_max hr
 clear hr hp h
 go_enter Tryz.func120,Tryz.ntmps120
 go_wp2
 go_loopw [5,8] (fun v5 v8 w' => ∃ i : Int,0 ≤ i ∧ i ≤ xs.length ∧ v8 = .int .i64 i ∧ Aside0 (idxM q (xs.drop i.toNat) i = some r) ∧ Aside0 (Below w.heap.size w w')) (fun _ v8 _ => xs.length - (intOf v8).toNat)
 case atStart => exact ⟨0,by omega,by omega,rfl,HQ,⟨Below.refl _ _⟩⟩
 case round =>
  clear HQ
  obtain ⟨i,p1,hi,rfl,HQ,HB⟩ := hrel
  by_cases hlt : i < (xs.length : Int)
  case neg =>
   go_wp2
   go_ret
   exact ⟨ret_int_eq (idxM_end (by omega) HQ.out),HB.out⟩
  obtain ⟨ad,A0,c0,A2,c2,e1,hx0,hx1,hx2,hx3,hx4,hl0,hC0,hl2,hC2⟩ := at_T27 HR.out i p1 hlt
  cases e1
  replace hx0 := (HB.out.cell (wbl hx0)).trans hx0
  replace hx1 := (HB.out.cell (wbl hx1)).trans hx1
  replace hx2 := (HB.out.cell (wbl hx2)).trans hx2
  replace hx3 := (HB.out.cell (wbl hx3)).trans hx3
  replace hx4 := (HB.out.cell (wbl hx4)).trans hx4
  rcases idxM_step z27 p1 hlt HQ.out with ⟨hq,he⟩ | ⟨hq,hn⟩
  · have H1 := am hq
    have X1 := am (getD_mem z27 p1 hlt)
    have H2 := am he
    clear hq he
    go_wp2_with (go_at_call 109;refine (HP.out (xs.getD i.toNat z27) _ _ _ _ _ _ X1.out H1.out HB.out (kC hC0 HB.out) hl0 (kC hC2 HB.out) hl2).mono ?_;rintro e W' ⟨rfl,hb⟩)
    go_ret
    exact ⟨ret_int_eq H2.out,below_then HB.out HB.out.size hb⟩
  · have H1 := am hq
    have X1 := am (getD_mem z27 p1 hlt)
    have H2 := am hn
    clear hq hn
    go_wp2_with (go_at_call 109;refine (HP.out (xs.getD i.toNat z27) _ _ _ _ _ _ X1.out H1.out HB.out (kC hC0 HB.out) hl0 (kC hC2 HB.out) hl2).mono ?_;rintro e W' ⟨rfl,hb⟩)
    go_roundw
    case rel => exact ⟨i + 1,by omega,by omega,by go_num,H2,⟨below_then HB.out HB.out.size hb⟩⟩
    case measure => simp [intOf];omega
theorem any_isChain (q : S27 → Option Bool) (A : Option Addr) (c : Nat) (xs : List S27) (r : Bool) (w : World) (hr : Kd.C k27 w A xs.length xs) (hp : Pred_isChain q w xs) (h : anyM q xs = some r) :
 Calls Tryz.prog 108 #[.slice A xs.length c,.func (.func 109) #[] #[]] w fun e w' => e = .returned (.bool r) ∧ Below w.heap.size w w' := by
 obtain ⟨j,hj,hd⟩ := idxM_of_anyM q xs 0 r (by omega) h
 have H1 := am hj
 have H2 := am hd
 have HR := am hr
 have HP := am hp
 clear hr hp h hj hd
 go_enter Tryz.func108,Tryz.ntmps108
 go_wp2_with (go_at_call 120;refine (idx_isChain q _ _ xs j _ HR.out HP.out H1.out).mono ?_;rintro e W' ⟨rfl,hb⟩)
 go_ret
 exact ⟨ret_bool_eq H2.out,hb⟩
def cf_isChain.f (l0 : List S27) : Option Bool := anyM (fun x => ca_isChain_1.f x.f0.f0 x.f0.f1 x.f1 x.f2 x.f3) l0
theorem cf_isChain.calls (A0 : Option Addr) (c0 : Nat) (l0 : List S27) (r : Bool) (w : World) (hr0 : Kd.C k27 w A0 l0.length l0) (hc0 : l0.length ≤ c0) (h : cf_isChain.f l0 = some r) :
 Calls Tryz.prog 108 #[.slice A0 l0.length c0,.func (.func 109) #[] #[]] w fun e w' => e = .returned (.bool r) ∧ Below w.heap.size w w' :=
 any_isChain (fun x => ca_isChain_1.f x.f0.f0 x.f0.f1 x.f1 x.f2 x.f3) A0 c0 l0 r w hr0 (fun x b W A0 c0 A2 c2 hx hq hb h0 h1 h2 h3 => (ca_isChain_1.calls _ _ _ _ _ _ _ _ _ b W h0 h1 h2 h3 hq).mono fun e W' ⟨he,hd⟩ => ⟨he,hd⟩) h
theorem event_abs {P : Program} {ops : Array Oper} {o : Oper} {a : Act} {Q : Exit → Act → World → Prop} {rest : List Oper} {W : World} {v : Value} (Rr : World → Prop) (hgd : o.guard = none)
 (hrun : (execOp a.eval o).run P W = .ok (.value v) W) (hR : Rr W) (h : ∀ W',Rr W' → wpList P ops Q rest (a.put o.dst v) W') : wpList P ops Q (o :: rest) a W := Kd.event_run hgd hrun (h W hR)
theorem mkmap_event {P : Program} {ops : Array Oper} {o : Oper} {a : Act} {Q : Exit → Act → World → Prop} {rest : List Oper} {W : World} (hgd : o.guard = none)
 (hrun : (execOp a.eval o).run P W = .ok (.value (.map (some W.heap.size))) (W.alloc (.map #[] 0)))
 (h : ∀ g,g = W.heap.size → ∀ w1,w1.heap[g]? = some (.map #[] 0) → Below W.heap.size W w1 → wpList P ops Q rest (a.put o.dst (.map (some g))) w1) : wpList P ops Q (o :: rest) a W := Kd.event_run hgd hrun (h _ rfl _ (blk_new W _) (below_alloc (Below.refl _ _) _))
def chainGo (l0_0 : List S27) : List S123 → Int → List S123 → Option Bool
 | [],_,_ => some true
 | x :: rest,i,met => if hasFeed met x = true then some false else (ca_in.f x.f0 0 i).bind fun t => if t = true then (if 0 ≤ x.f0 then (if x.f0 < (l0_0.length : Int) then (ca_in.f x.f1 (-1) (wrap64 (((rd_T27 l0_0 x.f0).f1.length : Int) - 1))).bind fun u => if u = true then chainGo l0_0 rest (i + 1) (met ++ [x]) else some false else none) else none) else some false
def ca_isChain.f (l0_0 : List S27) (l0_1 : List S123) : Option Bool :=
 (ca_in.f (l0_0.length : Int) 1 4).bind fun t => if t = true then (if (l0_1.length : Int) = (l0_0.length : Int) - 1 then (cf_isChain.f l0_0).bind fun u => if u = true then some false else chainGo l0_0 l0_1 0 [] else some false) else some false
theorem ca_isChain.calls (A0_0 : Option Addr) (c0_0 : Nat) (l0_0 : List S27) (A0_1 : Option Addr) (c0_1 : Nat) (l0_1 : List S123) (r : Bool) (w : World) (hr0_0 : Kd.C k27 w A0_0 l0_0.length l0_0) (hc0_0 : l0_0.length ≤ c0_0) (hr0_1 : Kd.C k123 w A0_1 l0_1.length l0_1) (hc0_1 : l0_1.length ≤ c0_1) (h : ca_isChain.f l0_0 l0_1 = some r) (hz : r = true) :
 Calls Tryz.prog 86 #[.agg #[.slice A0_0 l0_0.length c0_0,.slice A0_1 l0_1.length c0_1]] w fun e w' => e = .returned (.bool r) ∧ Below w.heap.size w w' := by
 have HZ := Aside0.mk hz
 clear hz
 have hu := Tryz.underlying89
 have huf := Tryz.underlying123
 have hub := Tryz.underlying27
 have hmm := @run_makeMap Tryz.prog
 have hm0 : l0_0.length ≤ 9223372036854775807 := Kd.C_max hr0_0
 have hm1 : l0_1.length ≤ 9223372036854775807 := Kd.C_max hr0_1
 have HR0 := Aside0.mk hr0_0
 have HC0 := Aside0.mk hc0_0
 have HR1 := Aside0.mk hr0_1
 have HC1 := Aside0.mk hc0_1
 have HB := Aside0.mk (Below.refl w.heap.size w)
 clear hr0_0 hc0_0 hr0_1 hc0_1
 unfold ca_isChain.f at h
 obtain ⟨t,ht,h⟩ := obm h
 have H1 := Aside0.mk ht
 clear ht
 cases t with
 | false =>
  rw [if_neg (by decide)] at h
  have hz := HZ.out
  subst hz
  cases h
 | true =>
  rw [if_pos rfl] at h
  by_cases hl : (l0_1.length : Int) = ((l0_0.length : Int) - 1)
  · rw [if_pos hl] at h
    have b1 : ((l0_1.length : Int) != ((l0_0.length : Int) - 1)) = false := by rw [← hl];simp
    have b2 : ((l0_1.length : Int) == ((l0_0.length : Int) - 1)) = true := by rw [← hl];simp
    have HL := Aside0.mk hl
    clear hl
    obtain ⟨u,hu2,h⟩ := obm h
    have H2 := Aside0.mk hu2
    clear hu2
    cases u with
    | true =>
     rw [if_pos rfl] at h
     have hz := HZ.out
     subst hz
     cases h
    | false =>
     rw [if_neg (by decide)] at h
     have HQ := Aside0.mk h
     clear h
     go_enter Tryz.func86,Tryz.ntmps86
     go_wp2_with (first | ((with_reducible refine gate_dst (N := 1) rfl ?_);(try (refine gate_guard (by rfl) ?_;dsimp only));refine box_event ?hg (N := 1) ?hd (cs := #[.slice A0_0 l0_0.length c0_0,.slice A0_1 l0_1.length c0_1]) (t := 89) ?hr ?_;(case hd => rfl);(case hg => rfl);(case hr => go_simp;try rfl);intro gc hg w1 hbox hb;have n_ := Aside0.mk (below_then HB.out HB.out.size hb);clear HB;have HB := n_;clear n_;clear hg;have BKgc := Aside0.mk hbox;clear hbox;(try clear hczgc_0 hfzgc_0);have hczgc_0 : w1.cell? ⟨gc,0,none⟩ = some (.slice A0_0 l0_0.length c0_0) := (blk_cell BKgc.out 0).trans rfl;have hfzgc_0 := blk_frozen BKgc.out 0;(try clear hczgc_1 hfzgc_1);have hczgc_1 : w1.cell? ⟨gc,1,none⟩ = some (.slice A0_1 l0_1.length c0_1) := (blk_cell BKgc.out 1).trans rfl;have hfzgc_1 := blk_frozen BKgc.out 1;clear hb) | (go_at_call 73;(with_reducible refine (ca_in.calls (l0_0.length : Int) 1 4 true _ H1.out).mono ?_);rintro e w1 ⟨rfl,hd⟩;have hb := hd.below;clear hd;have n_ := Aside0.mk (below_then HB.out HB.out.size hb);clear HB;have HB := n_;clear n_;have n_ := Aside0.mk (blk_below BKgc.out hb);clear BKgc;have BKgc := n_;clear n_;(try clear hczgc_0 hfzgc_0);have hczgc_0 : w1.cell? ⟨gc,0,none⟩ = some (.slice A0_0 l0_0.length c0_0) := (blk_cell BKgc.out 0).trans rfl;have hfzgc_0 := blk_frozen BKgc.out 0;(try clear hczgc_1 hfzgc_1);have hczgc_1 : w1.cell? ⟨gc,1,none⟩ = some (.slice A0_1 l0_1.length c0_1) := (blk_cell BKgc.out 1).trans rfl;have hfzgc_1 := blk_frozen BKgc.out 1;clear hb) | (go_at_call 108;(with_reducible refine (cf_isChain.calls A0_0 c0_0 l0_0 false _ (kC HR0.out HB.out) HC0.out H2.out).mono ?_);rintro e wc ⟨rfl,hb⟩;have n_ := Aside0.mk (below_then HB.out HB.out.size hb);clear HB;have HB := n_;clear n_;have n_ := Aside0.mk (blk_below BKgc.out hb);clear BKgc;have BKgc := n_;clear n_;(try clear hczgc_0 hfzgc_0);have hczgc_0 : wc.cell? ⟨gc,0,none⟩ = some (.slice A0_0 l0_0.length c0_0) := (blk_cell BKgc.out 0).trans rfl;have hfzgc_0 := blk_frozen BKgc.out 0;(try clear hczgc_1 hfzgc_1);have hczgc_1 : wc.cell? ⟨gc,1,none⟩ = some (.slice A0_1 l0_1.length c0_1) := (blk_cell BKgc.out 1).trans rfl;have hfzgc_1 := blk_frozen BKgc.out 1;clear hb) | ((with_reducible refine gate_dst (N := 28) rfl ?_);refine mkmap_event ?hg ?hr ?_;(case hg => rfl);(case hr => go_simp;try rfl);intro gm hgm wm hmap hb;have HNgc_gm := Aside0.mk (show gc ≠ gm by have := blk_lt BKgc.out;omega);have HGm := Aside0.mk (show w.heap.size ≤ gm by have := HB.out.size;omega);have n_ := Aside0.mk (blk_below BKgc.out hb);have m_ := Aside0.mk (below_then HB.out HB.out.size hb);(try clear hczgc_0 hczgc_1 hfzgc_0 hfzgc_1);(try clear hczgf_0 hczgf_1 hfzgf_0 hfzgf_1);clear hgm hb BKgc HB;have BKgc := n_;have HB := m_;clear n_ m_;have BKm := Aside0.mk hmap;clear hmap;have hczgc_0 : wm.cell? ⟨gc,0,none⟩ = some (.slice A0_0 l0_0.length c0_0) := (blk_cell BKgc.out 0).trans rfl;have hczgc_1 : wm.cell? ⟨gc,1,none⟩ = some (.slice A0_1 l0_1.length c0_1) := (blk_cell BKgc.out 1).trans rfl))
     go_loopw [32] (fun v32 w' => ∃ i : Int,0 ≤ i ∧ i ≤ l0_1.length ∧ v32 = .int .i64 i ∧ Aside0 (chainGo l0_0 (l0_1.drop i.toNat) i (l0_1.take i.toNat) = some r) ∧ Aside0 (Below w.heap.size w w') ∧ Aside0 (w'.heap[gc]? = some (.cells #[.slice A0_0 l0_0.length c0_0,.slice A0_1 l0_1.length c0_1] 89 (0,0))) ∧ Aside0 (w'.heap[gm]? = some (.map (ents (l0_1.take i.toNat)).toArray (l0_1.take i.toNat).length))) (fun v32 _ => l0_1.length - (intOf v32).toNat)
     case atStart => exact ⟨0,by omega,by omega,rfl,HQ,HB,BKgc,BKm⟩
     case round =>
      clear HQ HB BKgc BKm
      obtain ⟨i,p1,hi,rfl,HQ,HB,BKgc,BKm⟩ := hrel
      by_cases hlt : i < (l0_1.length : Int)
      · obtain ⟨ad,e1,hx0,hx1⟩ := at_T123 HR1.out i p1 hlt
        cases e1
        replace hx0 := (HB.out.cell (wbl hx0)).trans hx0
        replace hx1 := (HB.out.cell (wbl hx1)).trans hx1
        have hq := HQ.out
        rw [drop_at z123 l0_1 i p1 hlt,show l0_1.getD i.toNat z123 = rd_T123 l0_1 i from rfl] at hq
        simp only [chainGo] at hq
        have HT := Aside0.mk (show l0_1.take (i + 1).toNat = l0_1.take i.toNat ++ [rd_T123 l0_1 i] by rw [show (i + 1).toNat = i.toNat + 1 by omega,List.take_succ_eq_append_getElem (by omega)];unfold rd_T123;rw [List.getD_eq_getElem?_getD,List.getElem?_eq_getElem (show i.toNat < l0_1.length by omega)];rfl)
        generalize rd_T123 l0_1 i = fx at *
        generalize hmet : l0_1.take i.toNat = met at *
        have HM := Aside0.mk hmet
        clear hmet HQ
        have hczgc_0 : wr.cell? ⟨gc,0,none⟩ = some (.slice A0_0 l0_0.length c0_0) := (blk_cell BKgc.out 0).trans rfl
        have hczgc_1 : wr.cell? ⟨gc,1,none⟩ = some (.slice (some ad) l0_1.length c0_1) := (blk_cell BKgc.out 1).trans rfl
        cases hhas : hasFeed met fx with
        | true =>
         rw [hhas,if_pos rfl] at hq
         have hz := HZ.out
         subst hz
         cases hq
        | false =>
         rw [hhas,if_neg (by decide)] at hq
         have H3 := Aside0.mk hhas
         clear hhas
         obtain ⟨t4,ht,hq⟩ := obm hq
         have H4 := Aside0.mk ht
         clear ht
         cases t4 with
         | false =>
          rw [if_neg (by decide)] at hq
          have hz := HZ.out
          subst hz
          cases hq
         | true =>
          rw [if_pos rfl] at hq
          by_cases q0 : 0 ≤ fx.f0
          · rw [if_pos q0] at hq
            by_cases q1 : fx.f0 < (l0_0.length : Int)
            · rw [if_pos q1] at hq
              obtain ⟨adb,A0,c0,A2,c2,eb,hy0,hy1,hy2,hy3,hy4,g1,g2,g3,g4⟩ := at_T27 HR0.out fx.f0 q0 q1
              cases eb
              have HY := Aside0.mk hy2
              clear hy0 hy1 hy2 hy3 hy4 g1 g2 g3 g4
              obtain ⟨t5,ht,hq⟩ := obm hq
              have H5 := Aside0.mk ht
              clear ht
              cases t5 with
              | false =>
               rw [if_neg (by decide)] at hq
               have hz := HZ.out
               subst hz
               cases hq
              | true =>
               rw [if_pos rfl] at hq
               have H6 := Aside0.mk hq
               clear hq
               go_wp2_with (first | ((with_reducible refine gate_dst (N := 5) rfl ?_);refine box_event ?hg (N := 5) ?hd (cs := #[.int .i64 0,.int .i64 0]) (t := 123) ?hr ?_;(case hd => rfl);(case hg => rfl);(case hr => go_simp;try rfl);intro gf hg w2 hbox hb;have HNgf := Aside0.mk (show gm ≠ gf by have := blk_lt BKm.out;omega);have HNgc := Aside0.mk (show gc ≠ gf by have := blk_lt BKgc.out;omega);have HGf := Aside0.mk (show w.heap.size ≤ gf by have := HB.out.size;omega);have n1 := Aside0.mk (blk_below BKgc.out hb);have n2 := Aside0.mk (blk_below BKm.out hb);have n3 := Aside0.mk (below_then HB.out HB.out.size hb);(try clear hczgc_0 hczgc_1 hfzgc_0 hfzgc_1);(try clear hczgf_0 hczgf_1 hfzgf_0 hfzgf_1);clear hg hb BKgc BKm HB;have BKgc := n1;have BKm := n2;have HB := n3;clear n1 n2 n3;have BKgf := Aside0.mk hbox;clear hbox;have hczgc_0 : w2.cell? ⟨gc,0,none⟩ = some (.slice (some adb) l0_0.length c0_0) := (blk_cell BKgc.out 0).trans rfl;have hczgc_1 : w2.cell? ⟨gc,1,none⟩ = some (.slice (some ad) l0_1.length c0_1) := (blk_cell BKgc.out 1).trans rfl;have hczgf_0 : w2.cell? ⟨gf,0,none⟩ = some (.int .i64 0) := (blk_cell BKgf.out 0).trans rfl;have hczgf_1 : w2.cell? ⟨gf,1,none⟩ = some (.int .i64 0) := (blk_cell BKgf.out 1).trans rfl;have hfzgf_0 := blk_frozen BKgf.out 0;have hfzgf_1 := blk_frozen BKgf.out 1) | ((with_reducible refine gate_dst (N := 40) rfl ?_);refine event_abs (v := .tuple #[.agg #[],.bool false]) (fun W' => W'.heap[gf]? = some (.cells #[.int .i64 fx.f0,.int .i64 fx.f1] 123 (0,0)) ∧ W'.heap[gc]? = some (.cells #[.slice (some adb) l0_0.length c0_0,.slice (some ad) l0_1.length c0_1] 89 (0,0)) ∧ W'.heap[gm]? = some (.map (ents met).toArray met.length) ∧ Below w.heap.size w W') ?hg ?hr ⟨(blk_set (blk_set BKgf.out 0 _) 1 _).trans rfl,(obj_far (p := ⟨gf,1,none⟩) (obj_far (p := ⟨gf,0,none⟩) BKgc.out HNgc.out (.int .i64 fx.f0)) HNgc.out (.int .i64 fx.f1)),(obj_far (p := ⟨gf,1,none⟩) (obj_far (p := ⟨gf,0,none⟩) BKm.out HNgf.out (.int .i64 fx.f0)) HNgf.out (.int .i64 fx.f1)),below_set (below_set HB.out HGf.out) HGf.out⟩ ?_;(case hg => rfl);(case hr => (have hl := lookE _ gm met _ fx (obj_far (p := ⟨gf,1,none⟩) (obj_far (p := ⟨gf,0,none⟩) BKm.out HNgf.out (.int .i64 fx.f0)) HNgf.out (.int .i64 fx.f1)));(try rw [H3.out] at hl);first | (go_simp;done) | (go_simp;rfl));rintro w4 ⟨k1,k2,k3,k4⟩;(try clear hczgc_0 hczgc_1 hfzgc_0 hfzgc_1);(try clear hczgf_0 hczgf_1 hfzgf_0 hfzgf_1);clear BKgf BKgc BKm HB;have BKgf := Aside0.mk k1;have BKgc := Aside0.mk k2;have BKm := Aside0.mk k3;have HB := Aside0.mk k4;clear k1 k2 k3 k4;have hczgc_0 : w4.cell? ⟨gc,0,none⟩ = some (.slice (some adb) l0_0.length c0_0) := (blk_cell BKgc.out 0).trans rfl;have hczgc_1 : w4.cell? ⟨gc,1,none⟩ = some (.slice (some ad) l0_1.length c0_1) := (blk_cell BKgc.out 1).trans rfl;have hczgf_0 : w4.cell? ⟨gf,0,none⟩ = some (.int .i64 fx.f0) := (blk_cell BKgf.out 0).trans rfl;have hczgf_1 : w4.cell? ⟨gf,1,none⟩ = some (.int .i64 fx.f1) := (blk_cell BKgf.out 1).trans rfl) | ((with_reducible refine gate_dst (N := 6) rfl ?_);refine box_event ?hg (N := 6) ?hd (cs := #[]) (t := 144) ?hr ?_;(case hd => rfl);(case hg => rfl);(case hr => go_simp;try rfl);intro gu hg w5 hbox hb;have n1 := Aside0.mk (blk_below BKgc.out hb);have n2 := Aside0.mk (blk_below BKm.out hb);have n3 := Aside0.mk (below_then HB.out HB.out.size hb);have n4 := Aside0.mk (blk_below BKgf.out hb);(try clear hczgc_0 hczgc_1 hfzgc_0 hfzgc_1);(try clear hczgf_0 hczgf_1 hfzgf_0 hfzgf_1);clear hg hb hbox BKgc BKm HB BKgf;have BKgc := n1;have BKm := n2;have HB := n3;have BKgf := n4;clear n1 n2 n3 n4;have hczgc_0 : w5.cell? ⟨gc,0,none⟩ = some (.slice (some adb) l0_0.length c0_0) := (blk_cell BKgc.out 0).trans rfl;have hczgc_1 : w5.cell? ⟨gc,1,none⟩ = some (.slice (some ad) l0_1.length c0_1) := (blk_cell BKgc.out 1).trans rfl;have hczgf_0 : w5.cell? ⟨gf,0,none⟩ = some (.int .i64 fx.f0) := (blk_cell BKgf.out 0).trans rfl;have hczgf_1 : w5.cell? ⟨gf,1,none⟩ = some (.int .i64 fx.f1) := (blk_cell BKgf.out 1).trans rfl;have hy3 := (HB.out.cell (wbl HY.out)).trans HY.out;have hup : ∀ n,(Instr.mapUpdate 143 (.map (some gm)) (.agg #[.int .i64 fx.f0,.int .i64 fx.f1]) (.agg #[])).run Tryz.prog (w5.drewN n) = .ok () (setO (w5.drewN n) gm (.map (ents (met ++ [fx])).toArray (met.length + 1))) := fun n => updE _ gm met fx H3.out (blk_drewN BKm.out n)) | (go_at_call 73;(with_reducible refine (ca_in.calls fx.f0 0 i true _ H4.out).mono ?_);rintro e w' ⟨rfl,⟨nd,rfl⟩⟩;(try first | exact ⟨rfl,_,World.drewN_drewN _ _ _⟩ | exact ⟨rfl,_,Eq.trans (World.drewN_drewN _ _ _) (congrArg (World.drewN _) (Nat.add_assoc _ _ _))⟩)) | (go_at_call 73;(with_reducible refine (ca_in.calls fx.f1 (-1) (wrap64 (((rd_T27 l0_0 fx.f0).f1.length : Int) - 1)) true _ H5.out).mono ?_);rintro e w' ⟨rfl,⟨nd,rfl⟩⟩;(try first | exact ⟨rfl,_,World.drewN_drewN _ _ _⟩ | exact ⟨rfl,_,Eq.trans (World.drewN_drewN _ _ _) (congrArg (World.drewN _) (Nat.add_assoc _ _ _))⟩)))
               go_quiet ((first | (go_at_call 73;(with_reducible refine (ca_in.calls fx.f0 0 i true _ H4.out).mono ?_);rintro e w' ⟨rfl,⟨nd,rfl⟩⟩;(try first | exact ⟨rfl,_,World.drewN_drewN _ _ _⟩ | exact ⟨rfl,_,Eq.trans (World.drewN_drewN _ _ _) (congrArg (World.drewN _) (Nat.add_assoc _ _ _))⟩)) | (go_at_call 73;(with_reducible refine (ca_in.calls fx.f1 (-1) (wrap64 (((rd_T27 l0_0 fx.f0).f1.length : Int) - 1)) true _ H5.out).mono ?_);rintro e w' ⟨rfl,⟨nd,rfl⟩⟩;(try first | exact ⟨rfl,_,World.drewN_drewN _ _ _⟩ | exact ⟨rfl,_,Eq.trans (World.drewN_drewN _ _ _) (congrArg (World.drewN _) (Nat.add_assoc _ _ _))⟩))))
               try go_wp2_with (first | ((with_reducible refine gate_dst (N := 5) rfl ?_);refine box_event ?hg (N := 5) ?hd (cs := #[.int .i64 0,.int .i64 0]) (t := 123) ?hr ?_;(case hd => rfl);(case hg => rfl);(case hr => go_simp;try rfl);intro gf hg w2 hbox hb;have HNgf := Aside0.mk (show gm ≠ gf by have := blk_lt BKm.out;omega);have HNgc := Aside0.mk (show gc ≠ gf by have := blk_lt BKgc.out;omega);have HGf := Aside0.mk (show w.heap.size ≤ gf by have := HB.out.size;omega);have n1 := Aside0.mk (blk_below BKgc.out hb);have n2 := Aside0.mk (blk_below BKm.out hb);have n3 := Aside0.mk (below_then HB.out HB.out.size hb);(try clear hczgc_0 hczgc_1 hfzgc_0 hfzgc_1);(try clear hczgf_0 hczgf_1 hfzgf_0 hfzgf_1);clear hg hb BKgc BKm HB;have BKgc := n1;have BKm := n2;have HB := n3;clear n1 n2 n3;have BKgf := Aside0.mk hbox;clear hbox;have hczgc_0 : w2.cell? ⟨gc,0,none⟩ = some (.slice (some adb) l0_0.length c0_0) := (blk_cell BKgc.out 0).trans rfl;have hczgc_1 : w2.cell? ⟨gc,1,none⟩ = some (.slice (some ad) l0_1.length c0_1) := (blk_cell BKgc.out 1).trans rfl;have hczgf_0 : w2.cell? ⟨gf,0,none⟩ = some (.int .i64 0) := (blk_cell BKgf.out 0).trans rfl;have hczgf_1 : w2.cell? ⟨gf,1,none⟩ = some (.int .i64 0) := (blk_cell BKgf.out 1).trans rfl;have hfzgf_0 := blk_frozen BKgf.out 0;have hfzgf_1 := blk_frozen BKgf.out 1) | ((with_reducible refine gate_dst (N := 40) rfl ?_);refine event_abs (v := .tuple #[.agg #[],.bool false]) (fun W' => W'.heap[gf]? = some (.cells #[.int .i64 fx.f0,.int .i64 fx.f1] 123 (0,0)) ∧ W'.heap[gc]? = some (.cells #[.slice (some adb) l0_0.length c0_0,.slice (some ad) l0_1.length c0_1] 89 (0,0)) ∧ W'.heap[gm]? = some (.map (ents met).toArray met.length) ∧ Below w.heap.size w W') ?hg ?hr ⟨(blk_set (blk_set BKgf.out 0 _) 1 _).trans rfl,(obj_far (p := ⟨gf,1,none⟩) (obj_far (p := ⟨gf,0,none⟩) BKgc.out HNgc.out (.int .i64 fx.f0)) HNgc.out (.int .i64 fx.f1)),(obj_far (p := ⟨gf,1,none⟩) (obj_far (p := ⟨gf,0,none⟩) BKm.out HNgf.out (.int .i64 fx.f0)) HNgf.out (.int .i64 fx.f1)),below_set (below_set HB.out HGf.out) HGf.out⟩ ?_;(case hg => rfl);(case hr => (have hl := lookE _ gm met _ fx (obj_far (p := ⟨gf,1,none⟩) (obj_far (p := ⟨gf,0,none⟩) BKm.out HNgf.out (.int .i64 fx.f0)) HNgf.out (.int .i64 fx.f1)));(try rw [H3.out] at hl);first | (go_simp;done) | (go_simp;rfl));rintro w4 ⟨k1,k2,k3,k4⟩;(try clear hczgc_0 hczgc_1 hfzgc_0 hfzgc_1);(try clear hczgf_0 hczgf_1 hfzgf_0 hfzgf_1);clear BKgf BKgc BKm HB;have BKgf := Aside0.mk k1;have BKgc := Aside0.mk k2;have BKm := Aside0.mk k3;have HB := Aside0.mk k4;clear k1 k2 k3 k4;have hczgc_0 : w4.cell? ⟨gc,0,none⟩ = some (.slice (some adb) l0_0.length c0_0) := (blk_cell BKgc.out 0).trans rfl;have hczgc_1 : w4.cell? ⟨gc,1,none⟩ = some (.slice (some ad) l0_1.length c0_1) := (blk_cell BKgc.out 1).trans rfl;have hczgf_0 : w4.cell? ⟨gf,0,none⟩ = some (.int .i64 fx.f0) := (blk_cell BKgf.out 0).trans rfl;have hczgf_1 : w4.cell? ⟨gf,1,none⟩ = some (.int .i64 fx.f1) := (blk_cell BKgf.out 1).trans rfl) | ((with_reducible refine gate_dst (N := 6) rfl ?_);refine box_event ?hg (N := 6) ?hd (cs := #[]) (t := 144) ?hr ?_;(case hd => rfl);(case hg => rfl);(case hr => go_simp;try rfl);intro gu hg w5 hbox hb;have n1 := Aside0.mk (blk_below BKgc.out hb);have n2 := Aside0.mk (blk_below BKm.out hb);have n3 := Aside0.mk (below_then HB.out HB.out.size hb);have n4 := Aside0.mk (blk_below BKgf.out hb);(try clear hczgc_0 hczgc_1 hfzgc_0 hfzgc_1);(try clear hczgf_0 hczgf_1 hfzgf_0 hfzgf_1);clear hg hb hbox BKgc BKm HB BKgf;have BKgc := n1;have BKm := n2;have HB := n3;have BKgf := n4;clear n1 n2 n3 n4;have hczgc_0 : w5.cell? ⟨gc,0,none⟩ = some (.slice (some adb) l0_0.length c0_0) := (blk_cell BKgc.out 0).trans rfl;have hczgc_1 : w5.cell? ⟨gc,1,none⟩ = some (.slice (some ad) l0_1.length c0_1) := (blk_cell BKgc.out 1).trans rfl;have hczgf_0 : w5.cell? ⟨gf,0,none⟩ = some (.int .i64 fx.f0) := (blk_cell BKgf.out 0).trans rfl;have hczgf_1 : w5.cell? ⟨gf,1,none⟩ = some (.int .i64 fx.f1) := (blk_cell BKgf.out 1).trans rfl;have hy3 := (HB.out.cell (wbl HY.out)).trans HY.out;have hup : ∀ n,(Instr.mapUpdate 143 (.map (some gm)) (.agg #[.int .i64 fx.f0,.int .i64 fx.f1]) (.agg #[])).run Tryz.prog (w5.drewN n) = .ok () (setO (w5.drewN n) gm (.map (ents (met ++ [fx])).toArray (met.length + 1))) := fun n => updE _ gm met fx H3.out (blk_drewN BKm.out n)) | (go_at_call 73;(with_reducible refine (ca_in.calls fx.f0 0 i true _ H4.out).mono ?_);rintro e w' ⟨rfl,⟨nd,rfl⟩⟩;(try first | exact ⟨rfl,_,World.drewN_drewN _ _ _⟩ | exact ⟨rfl,_,Eq.trans (World.drewN_drewN _ _ _) (congrArg (World.drewN _) (Nat.add_assoc _ _ _))⟩)) | (go_at_call 73;(with_reducible refine (ca_in.calls fx.f1 (-1) (wrap64 (((rd_T27 l0_0 fx.f0).f1.length : Int) - 1)) true _ H5.out).mono ?_);rintro e w' ⟨rfl,⟨nd,rfl⟩⟩;(try first | exact ⟨rfl,_,World.drewN_drewN _ _ _⟩ | exact ⟨rfl,_,Eq.trans (World.drewN_drewN _ _ _) (congrArg (World.drewN _) (Nat.add_assoc _ _ _))⟩)))
               go_roundw
               case rel => exact ⟨i + 1,by omega,by omega,by go_num,by rw [HT.out];exact H6,⟨below_setO _ (pw_below_drewN HB.out _) HGm.out⟩,⟨setO_other _ (blk_drewN BKgc.out _) HNgc_gm.out⟩,⟨by rw [HT.out,setO_same _ (blk_drewN BKm.out _)];simp⟩⟩
               case measure => simp [intOf];omega
            · rw [if_neg q1] at hq;cases hq
          · rw [if_neg q0] at hq;cases hq
      · go_wp2
        go_ret
        have hq := HQ.out
        rw [List.drop_of_length_le (by omega)] at hq
        exact ⟨ret_bool_eq (Option.some.inj hq),HB.out⟩
  · rw [if_neg hl] at h
    have b1 : ((l0_1.length : Int) != ((l0_0.length : Int) - 1)) = true := by simpa using hl
    have b2 : ((l0_1.length : Int) == ((l0_0.length : Int) - 1)) = false := by simpa using hl
    clear hl
    have hz := HZ.out
    subst hz
    cases h
end Go.Proofs.YticlelgmmonloaaGreatDoor.C

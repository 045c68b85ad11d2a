/- A part of the proof: the walks of the functions that it reaches. TIGHT. -/
import Derived.Test.YticlelgmmonloaaGreatDoorM13
set_option linter.unusedVariables false
set_option linter.unusedSimpArgs false
namespace Go.Proofs.YticlelgmmonloaaGreatDoor.C
open Go.RowKit Go.Proofs.YticlelgmmonloaaGreatDoorW.PrintWords Go.Proofs.YticlelgmmonloaaGreatDoorW.PrintLast Go.Proofs.YticlelgmmonloaaGreatDoorW.PrintMore
set_option linter.unusedVariables false
set_option linter.unusedSimpArgs false
set_option maxHeartbeats 16000000
set_option maxRecDepth 100000
def ca_isBasin_1.f (l0_0 : List S126) (x : S64) : Option Bool := (ca_in.f x.f0 0 (wrap64 ((l0_0.length : Int) - 1))).bind fun t => if t = true then (ca_isHeight.f x.f1).bind fun u => some (!u) else some true
theorem ca_isBasin_1.calls (g : Nat) (A0_0 : Option Addr) (c0_0 : Nat) (l0_0 : List S126) (a0_1 : Int) (A0_2 : Option Addr) (c0_2 : Nat) (l0_2 : List S64) (a0_3 a0_4 : Int) (x : S64) (r : Bool) (w : World) (hb : w.heap[g]? = some (.cells #[.slice A0_0 l0_0.length c0_0,.int .i64 a0_1,.slice A0_2 l0_2.length c0_2,.int .i64 a0_3,.int .i64 a0_4] 27 (0,0))) (h : ca_isBasin_1.f l0_0 x = some r) :
 Calls Tryz.prog 94 #[.agg #[.int .i64 x.f0,.int .i64 x.f1],.pointer (some ⟨g,0,none⟩)] w fun e w' => e = .returned (.bool r) ∧ Below w.heap.size w w' := by
 have hu := Tryz.underlying27
 have huz := Tryz.underlying64
 have hut := Tryz.underlying24
 have HB := am (Below.refl w.heap.size w)
 have BKg := am hb
 clear hb
 unfold ca_isBasin_1.f at h
 obtain ⟨t,ht,h⟩ := obm h
 have H1 := am ht
 clear ht
 cases t with
 | true =>
  rw [if_pos rfl] at h
  obtain ⟨u,hu2,h⟩ := obm h
  obtain rfl := Option.some.inj h
  have H2 := am hu2
  clear hu2 h
  go_enter Tryz.func94,Tryz.ntmps94
  go_wp2_with (first | ((refine gate_dst (N := 2) rfl ?_);(try (refine gate_guard (by rfl) ?_;dsimp only));refine box_event rfl (N := 2) rfl (cs := #[.int .i64 x.f0,.int .i64 x.f1]) (t := 64) ?hr ?_;(case hr => go_simp;try rfl);intro q hg w2 hbox hb;replace HB := (bmv HB hb);replace BKg := (kmv hb BKg);clear hg;have BKq := am hbox;clear hbox;(try clear hczg_0 hczg_1 hczg_2 hczg_3 hczg_4);obtain ⟨hczg_0,hczg_1,hczg_2,hczg_3,hczg_4⟩ := cO5 BKg.out;(try clear hczq_0 hczq_1);obtain ⟨hczq_0,hczq_1⟩ := cO2 BKq.out;clear hb) | (go_at_call 73;(with_reducible refine (ca_in.calls x.f0 0 (wrap64 ((l0_0.length : Int) - 1)) true _ H1.out).mono ?_);rintro e w1 ⟨rfl,hd⟩;have hb := hd.below;clear hd;replace HB := (bmv HB hb);replace BKg := (kmv hb BKg);replace BKq := (kmv hb BKq);(try clear hczg_0 hczg_1 hczg_2 hczg_3 hczg_4);obtain ⟨hczg_0,hczg_1,hczg_2,hczg_3,hczg_4⟩ := cO5 BKg.out;(try clear hczq_0 hczq_1);obtain ⟨hczq_0,hczq_1⟩ := cO2 BKq.out;clear hb) | (go_at_call 68;(with_reducible refine (ca_isHeight.calls x.f1 u _ H2.out).mono ?_);rintro e w1 ⟨rfl,hd⟩;have hb := hd.below;clear hd;replace HB := (bmv HB hb);replace BKg := (kmv hb BKg);replace BKq := (kmv hb BKq);(try clear hczg_0 hczg_1 hczg_2 hczg_3 hczg_4);obtain ⟨hczg_0,hczg_1,hczg_2,hczg_3,hczg_4⟩ := cO5 BKg.out;(try clear hczq_0 hczq_1);obtain ⟨hczq_0,hczq_1⟩ := cO2 BKq.out;clear hb))
  go_ret
  exact ⟨rfl,HB.out⟩
 | false =>
  rw [if_neg (by decide)] at h
  obtain rfl := Option.some.inj h
  clear h
  go_enter Tryz.func94,Tryz.ntmps94
  go_wp2_with (first | ((refine gate_dst (N := 2) rfl ?_);(try (refine gate_guard (by rfl) ?_;dsimp only));refine box_event rfl (N := 2) rfl (cs := #[.int .i64 x.f0,.int .i64 x.f1]) (t := 64) ?hr ?_;(case hr => go_simp;try rfl);intro q hg w2 hbox hb;replace HB := (bmv HB hb);replace BKg := (kmv hb BKg);clear hg;have BKq := am hbox;clear hbox;(try clear hczg_0 hczg_1 hczg_2 hczg_3 hczg_4);obtain ⟨hczg_0,hczg_1,hczg_2,hczg_3,hczg_4⟩ := cO5 BKg.out;(try clear hczq_0 hczq_1);obtain ⟨hczq_0,hczq_1⟩ := cO2 BKq.out;clear hb) | (go_at_call 73;(with_reducible refine (ca_in.calls x.f0 0 (wrap64 ((l0_0.length : Int) - 1)) false _ H1.out).mono ?_);rintro e w1 ⟨rfl,hd⟩;have hb := hd.below;clear hd;replace HB := (bmv HB hb);replace BKg := (kmv hb BKg);replace BKq := (kmv hb BKq);(try clear hczg_0 hczg_1 hczg_2 hczg_3 hczg_4);obtain ⟨hczg_0,hczg_1,hczg_2,hczg_3,hczg_4⟩ := cO5 BKg.out;(try clear hczq_0 hczq_1);obtain ⟨hczq_0,hczq_1⟩ := cO2 BKq.out;clear hb))
  go_ret
  exact ⟨rfl,HB.out⟩
def ca_isBasin.f (l0_0 : List S126) (a0_1 : Int) (l0_2 : List S64) (a0_3 a0_4 : Int) : Option Bool :=
 (nz_Check.f l0_0 a0_1).bind fun t1 => if t1 = 0 then (ca_in.f (l0_2.length : Int) 1 6).bind fun t2 => (if t2 = true then (ca_isHeight.f a0_3).bind fun t3 => (if t3 = true then (ca_in.f a0_4 0 100).bind fun t4 => (if t4 = true then (anyM (ca_isBasin_1.f l0_0) l0_2).bind fun u => some (!u) else some false) else some false) else some false) else some false
theorem ca_isBasin.calls (A0_0 : Option Addr) (c0_0 : Nat) (l0_0 : List S126) (a0_1 : Int) (A0_2 : Option Addr) (c0_2 : Nat) (l0_2 : List S64) (a0_3 a0_4 : Int) (r : Bool) (w : World) (hr0_0 : Kd.C k126 w A0_0 l0_0.length l0_0) (hc0_0 : l0_0.length ≤ c0_0) (hr0_2 : Kd.C k64 w A0_2 l0_2.length l0_2) (hc0_2 : l0_2.length ≤ c0_2) (h : ca_isBasin.f l0_0 a0_1 l0_2 a0_3 a0_4 = some r) :
 Calls Tryz.prog 57 #[.agg #[.slice A0_0 l0_0.length c0_0,.int .i64 a0_1,.slice A0_2 l0_2.length c0_2,.int .i64 a0_3,.int .i64 a0_4]] w fun e w' => e = .returned (.bool r) ∧ Below w.heap.size w w' := by
 have hu := Tryz.underlying27
 have hut := Tryz.underlying24
 have hm : l0_2.length ≤ 9223372036854775807 := Kd.C_max hr0_2
 have HR := am hr0_0
 have HC := am hc0_0
 have HR2 := am hr0_2
 have HC2 := am hc0_2
 have HB := am (Below.refl w.heap.size w)
 clear hr0_0 hc0_0 hr0_2 hc0_2
 unfold ca_isBasin.f at h
 obtain ⟨t1,ht,h⟩ := obm h
 have H1 := am ht
 clear ht
 by_cases h1 : t1 = 0
 case neg =>
  rw [if_neg h1] at h
  obtain rfl := Option.some.inj h
  clear h
  have b1 : (t1 == 0) = false := beq_eq_false_iff_ne.2 h1
  clear h1
  go_enter Tryz.func57,Tryz.ntmps57
  go_wp2_with (first | ((refine gate_dst (N := 1) rfl ?_);(try (refine gate_guard (by rfl) ?_;dsimp only));refine box_event rfl (N := 1) rfl (cs := #[.slice A0_0 l0_0.length c0_0,.int .i64 a0_1,.slice A0_2 l0_2.length c0_2,.int .i64 a0_3,.int .i64 a0_4]) (t := 27) ?hr ?_;(case hr => go_simp;try rfl);intro g hg w2 hbox hb;replace HR := (cmv HR hb);replace HR2 := (cmv HR2 hb);replace HB := (bmv HB hb);clear hg;have BKg := am hbox;clear hbox;(try clear hczg_0 hczg_1 hczg_2 hczg_3 hczg_4);obtain ⟨hczg_0,hczg_1,hczg_2,hczg_3,hczg_4⟩ := cO5 BKg.out;clear hb) | (go_at_call 95;(with_reducible refine (nz_Check.calls A0_0 c0_0 l0_0 a0_1 t1 _ HR.out HC.out H1.out).mono ?_);rintro e w1 ⟨rfl,hb⟩;replace HR := (cmv HR hb);replace HR2 := (cmv HR2 hb);replace HB := (bmv HB hb);replace BKg := (kmv hb BKg);(try clear hczg_0 hczg_1 hczg_2 hczg_3 hczg_4);obtain ⟨hczg_0,hczg_1,hczg_2,hczg_3,hczg_4⟩ := cO5 BKg.out;clear hb))
  go_ret
  exact ⟨rfl,HB.out⟩
 subst h1
 rw [if_pos rfl] at h
 obtain ⟨t2,ht,h⟩ := obm h
 have H2 := am ht
 clear ht
 cases t2 with
 | false =>
  rw [if_neg (by decide)] at h
  obtain rfl := Option.some.inj h
  clear h
  go_enter Tryz.func57,Tryz.ntmps57
  go_wp2_with (first | ((refine gate_dst (N := 1) rfl ?_);(try (refine gate_guard (by rfl) ?_;dsimp only));refine box_event rfl (N := 1) rfl (cs := #[.slice A0_0 l0_0.length c0_0,.int .i64 a0_1,.slice A0_2 l0_2.length c0_2,.int .i64 a0_3,.int .i64 a0_4]) (t := 27) ?hr ?_;(case hr => go_simp;try rfl);intro g hg w2 hbox hb;replace HR := (cmv HR hb);replace HR2 := (cmv HR2 hb);replace HB := (bmv HB hb);clear hg;have BKg := am hbox;clear hbox;(try clear hczg_0 hczg_1 hczg_2 hczg_3 hczg_4);obtain ⟨hczg_0,hczg_1,hczg_2,hczg_3,hczg_4⟩ := cO5 BKg.out;clear hb) | (go_at_call 95;(with_reducible refine (nz_Check.calls A0_0 c0_0 l0_0 a0_1 0 _ HR.out HC.out H1.out).mono ?_);rintro e w1 ⟨rfl,hb⟩;replace HR := (cmv HR hb);replace HR2 := (cmv HR2 hb);replace HB := (bmv HB hb);replace BKg := (kmv hb BKg);(try clear hczg_0 hczg_1 hczg_2 hczg_3 hczg_4);obtain ⟨hczg_0,hczg_1,hczg_2,hczg_3,hczg_4⟩ := cO5 BKg.out;clear hb) | (go_at_call 73;(with_reducible refine (ca_in.calls (l0_2.length : Int) 1 6 false _ H2.out).mono ?_);rintro e w1 ⟨rfl,hd⟩;have hb := hd.below;clear hd;replace HR := (cmv HR hb);replace HR2 := (cmv HR2 hb);replace HB := (bmv HB hb);replace BKg := (kmv hb BKg);(try clear hczg_0 hczg_1 hczg_2 hczg_3 hczg_4);obtain ⟨hczg_0,hczg_1,hczg_2,hczg_3,hczg_4⟩ := cO5 BKg.out;clear hb))
  go_ret
  exact ⟨rfl,HB.out⟩
 | true =>
  rw [if_pos rfl] at h
  obtain ⟨t3,ht,h⟩ := obm h
  have H3 := am ht
  clear ht
  cases t3 with
  | false =>
   rw [if_neg (by decide)] at h
   obtain rfl := Option.some.inj h
   clear h
   go_enter Tryz.func57,Tryz.ntmps57
   go_wp2_with (first | ((refine gate_dst (N := 1) rfl ?_);(try (refine gate_guard (by rfl) ?_;dsimp only));refine box_event rfl (N := 1) rfl (cs := #[.slice A0_0 l0_0.length c0_0,.int .i64 a0_1,.slice A0_2 l0_2.length c0_2,.int .i64 a0_3,.int .i64 a0_4]) (t := 27) ?hr ?_;(case hr => go_simp;try rfl);intro g hg w2 hbox hb;replace HR := (cmv HR hb);replace HR2 := (cmv HR2 hb);replace HB := (bmv HB hb);clear hg;have BKg := am hbox;clear hbox;(try clear hczg_0 hczg_1 hczg_2 hczg_3 hczg_4);obtain ⟨hczg_0,hczg_1,hczg_2,hczg_3,hczg_4⟩ := cO5 BKg.out;clear hb) | (go_at_call 95;(with_reducible refine (nz_Check.calls A0_0 c0_0 l0_0 a0_1 0 _ HR.out HC.out H1.out).mono ?_);rintro e w1 ⟨rfl,hb⟩;replace HR := (cmv HR hb);replace HR2 := (cmv HR2 hb);replace HB := (bmv HB hb);replace BKg := (kmv hb BKg);(try clear hczg_0 hczg_1 hczg_2 hczg_3 hczg_4);obtain ⟨hczg_0,hczg_1,hczg_2,hczg_3,hczg_4⟩ := cO5 BKg.out;clear hb) | (go_at_call 73;(with_reducible refine (ca_in.calls (l0_2.length : Int) 1 6 true _ H2.out).mono ?_);rintro e w1 ⟨rfl,hd⟩;have hb := hd.below;clear hd;replace HR := (cmv HR hb);replace HR2 := (cmv HR2 hb);replace HB := (bmv HB hb);replace BKg := (kmv hb BKg);(try clear hczg_0 hczg_1 hczg_2 hczg_3 hczg_4);obtain ⟨hczg_0,hczg_1,hczg_2,hczg_3,hczg_4⟩ := cO5 BKg.out;clear hb) | (go_at_call 68;(with_reducible refine (ca_isHeight.calls a0_3 false _ H3.out).mono ?_);rintro e w1 ⟨rfl,hd⟩;have hb := hd.below;clear hd;replace HR := (cmv HR hb);replace HR2 := (cmv HR2 hb);replace HB := (bmv HB hb);replace BKg := (kmv hb BKg);(try clear hczg_0 hczg_1 hczg_2 hczg_3 hczg_4);obtain ⟨hczg_0,hczg_1,hczg_2,hczg_3,hczg_4⟩ := cO5 BKg.out;clear hb))
   go_ret
   exact ⟨rfl,HB.out⟩
  | true =>
   rw [if_pos rfl] at h
   obtain ⟨t4,ht,h⟩ := obm h
   have H4 := am ht
   clear ht
   cases t4 with
   | false =>
    rw [if_neg (by decide)] at h
    obtain rfl := Option.some.inj h
    clear h
    go_enter Tryz.func57,Tryz.ntmps57
    go_wp2_with (first | ((refine gate_dst (N := 1) rfl ?_);(try (refine gate_guard (by rfl) ?_;dsimp only));refine box_event rfl (N := 1) rfl (cs := #[.slice A0_0 l0_0.length c0_0,.int .i64 a0_1,.slice A0_2 l0_2.length c0_2,.int .i64 a0_3,.int .i64 a0_4]) (t := 27) ?hr ?_;(case hr => go_simp;try rfl);intro g hg w2 hbox hb;replace HR := (cmv HR hb);replace HR2 := (cmv HR2 hb);replace HB := (bmv HB hb);clear hg;have BKg := am hbox;clear hbox;(try clear hczg_0 hczg_1 hczg_2 hczg_3 hczg_4);obtain ⟨hczg_0,hczg_1,hczg_2,hczg_3,hczg_4⟩ := cO5 BKg.out;clear hb) | (go_at_call 95;(with_reducible refine (nz_Check.calls A0_0 c0_0 l0_0 a0_1 0 _ HR.out HC.out H1.out).mono ?_);rintro e w1 ⟨rfl,hb⟩;replace HR := (cmv HR hb);replace HR2 := (cmv HR2 hb);replace HB := (bmv HB hb);replace BKg := (kmv hb BKg);(try clear hczg_0 hczg_1 hczg_2 hczg_3 hczg_4);obtain ⟨hczg_0,hczg_1,hczg_2,hczg_3,hczg_4⟩ := cO5 BKg.out;clear hb) | (go_at_call 73;(with_reducible refine (ca_in.calls (l0_2.length : Int) 1 6 true _ H2.out).mono ?_);rintro e w1 ⟨rfl,hd⟩;have hb := hd.below;clear hd;replace HR := (cmv HR hb);replace HR2 := (cmv HR2 hb);replace HB := (bmv HB hb);replace BKg := (kmv hb BKg);(try clear hczg_0 hczg_1 hczg_2 hczg_3 hczg_4);obtain ⟨hczg_0,hczg_1,hczg_2,hczg_3,hczg_4⟩ := cO5 BKg.out;clear hb) | (go_at_call 68;(with_reducible refine (ca_isHeight.calls a0_3 true _ H3.out).mono ?_);rintro e w1 ⟨rfl,hd⟩;have hb := hd.below;clear hd;replace HR := (cmv HR hb);replace HR2 := (cmv HR2 hb);replace HB := (bmv HB hb);replace BKg := (kmv hb BKg);(try clear hczg_0 hczg_1 hczg_2 hczg_3 hczg_4);obtain ⟨hczg_0,hczg_1,hczg_2,hczg_3,hczg_4⟩ := cO5 BKg.out;clear hb) | (go_at_call 73;(with_reducible refine (ca_in.calls a0_4 0 100 false _ H4.out).mono ?_);rintro e w1 ⟨rfl,hd⟩;have hb := hd.below;clear hd;replace HR := (cmv HR hb);replace HR2 := (cmv HR2 hb);replace HB := (bmv HB hb);replace BKg := (kmv hb BKg);(try clear hczg_0 hczg_1 hczg_2 hczg_3 hczg_4);obtain ⟨hczg_0,hczg_1,hczg_2,hczg_3,hczg_4⟩ := cO5 BKg.out;clear hb))
    go_ret
    exact ⟨rfl,HB.out⟩
   | true =>
    rw [if_pos rfl] at h
    obtain ⟨u,ht,h⟩ := obm h
    obtain rfl := Option.some.inj h
    have H5 := am ht
    clear ht h
    go_enter Tryz.func57,Tryz.ntmps57
    go_wp2_with (first | ((refine gate_dst (N := 1) rfl ?_);(try (refine gate_guard (by rfl) ?_;dsimp only));refine box_event rfl (N := 1) rfl (cs := #[.slice A0_0 l0_0.length c0_0,.int .i64 a0_1,.slice A0_2 l0_2.length c0_2,.int .i64 a0_3,.int .i64 a0_4]) (t := 27) ?hr ?_;(case hr => go_simp;try rfl);intro g hg w2 hbox hb;replace HR := (cmv HR hb);replace HR2 := (cmv HR2 hb);replace HB := (bmv HB hb);clear hg;have BKg := am hbox;clear hbox;(try clear hczg_0 hczg_1 hczg_2 hczg_3 hczg_4);obtain ⟨hczg_0,hczg_1,hczg_2,hczg_3,hczg_4⟩ := cO5 BKg.out;clear hb) | (go_at_call 95;(with_reducible refine (nz_Check.calls A0_0 c0_0 l0_0 a0_1 0 _ HR.out HC.out H1.out).mono ?_);rintro e w1 ⟨rfl,hb⟩;replace HR := (cmv HR hb);replace HR2 := (cmv HR2 hb);replace HB := (bmv HB hb);replace BKg := (kmv hb BKg);(try clear hczg_0 hczg_1 hczg_2 hczg_3 hczg_4);obtain ⟨hczg_0,hczg_1,hczg_2,hczg_3,hczg_4⟩ := cO5 BKg.out;clear hb) | (go_at_call 73;(with_reducible refine (ca_in.calls (l0_2.length : Int) 1 6 true _ H2.out).mono ?_);rintro e w1 ⟨rfl,hd⟩;have hb := hd.below;clear hd;replace HR := (cmv HR hb);replace HR2 := (cmv HR2 hb);replace HB := (bmv HB hb);replace BKg := (kmv hb BKg);(try clear hczg_0 hczg_1 hczg_2 hczg_3 hczg_4);obtain ⟨hczg_0,hczg_1,hczg_2,hczg_3,hczg_4⟩ := cO5 BKg.out;clear hb) | (go_at_call 68;(with_reducible refine (ca_isHeight.calls a0_3 true _ H3.out).mono ?_);rintro e w1 ⟨rfl,hd⟩;have hb := hd.below;clear hd;replace HR := (cmv HR hb);replace HR2 := (cmv HR2 hb);replace HB := (bmv HB hb);replace BKg := (kmv hb BKg);(try clear hczg_0 hczg_1 hczg_2 hczg_3 hczg_4);obtain ⟨hczg_0,hczg_1,hczg_2,hczg_3,hczg_4⟩ := cO5 BKg.out;clear hb) | (go_at_call 73;(with_reducible refine (ca_in.calls a0_4 0 100 true _ H4.out).mono ?_);rintro e w1 ⟨rfl,hd⟩;have hb := hd.below;clear hd;replace HR := (cmv HR hb);replace HR2 := (cmv HR2 hb);replace HB := (bmv HB hb);replace BKg := (kmv hb BKg);(try clear hczg_0 hczg_1 hczg_2 hczg_3 hczg_4);obtain ⟨hczg_0,hczg_1,hczg_2,hczg_3,hczg_4⟩ := cO5 BKg.out;clear hb) | (go_at_call 96;refine (any_isBasin g (ca_isBasin_1.f l0_0) A0_2 c0_2 l0_2 u _ HR2.out (fun x b W hx hq hb => ca_isBasin_1.calls g A0_0 c0_0 l0_0 a0_1 A0_2 c0_2 l0_2 a0_3 a0_4 x b W (blk_below BKg.out hb) hq) H5.out).mono ?_;rintro e w1 ⟨rfl,hb⟩;replace HR := (cmv HR hb);replace HR2 := (cmv HR2 hb);replace HB := (bmv HB hb);replace BKg := (kmv hb BKg);(try clear hczg_0 hczg_1 hczg_2 hczg_3 hczg_4);obtain ⟨hczg_0,hczg_1,hczg_2,hczg_3,hczg_4⟩ := cO5 BKg.out;clear hb))
    go_ret
    exact ⟨rfl,HB.out⟩
section
attribute [local go_sem] max2_int min2_int max_two min_two
mutual
def ca_Gains.j0 : Nat → Int → Bool → List (S126) → Int → List (S64) → Int → Int → Int → Int → Option (List Int × Int × Int)
 | 0,_,_,_,_,_,_,_,_,_ => none
 | k + 1,x2,x37,x290000,x290001,x290002,x290003,x290004,x291000,x291001 => if x37 = true then (some (([] : List Int),0,2)) else ((ca_fill.f k x290000 x290001 x290002 x290003 x290004).bind fun bt307 => ((gf_shares.f k x290000 bt307.1 x290002 bt307.2.1 bt307.2.2.1 bt307.2.2.2 x2).bind fun bt313 => ((ca_changed.f x290000 x290001 x290002 x290003 x290004 x291000 x291001).bind fun t326 => ((ca_fill.f k x290000 x290001 t326 x290003 x290004).bind fun bt341 => ((gf_shares.f k x290000 bt341.1 t326 bt341.2.1 bt341.2.2.1 bt341.2.2.2 x2).bind fun bt347 => (ca_Gains.l0 k bt313.1 bt313.2 bt347.1 bt347.2 (bt347.1.length : Int) 0))))))
def ca_Gains.l0 : Nat → List Int → Int → List Int → Int → Int → Int → Option (List Int × Int × Int)
 | 0,_,_,_,_,_,_ => none
 | k + 1,x9,x10,x11,x12,x55,x56 => if x56 < x55 then (if 0 ≤ x56 then (if x56 < (x11.length : Int) then (if x56 < (x9.length : Int) then (ca_Gains.l0 k x9 x10 (x11.set (x56 : Int).toNat (wrap64 ((rd x11 x56) - (rd x9 x56)))) x12 x55 (wrap64 (x56 + 1))) else (none)) else (none)) else (none)) else (some (x11,wrap64 (x12 - x10),0))
end
def ca_Gains.f (k : Nat) (l0_0 : List (S126)) (a0_1 : Int) (l0_2 : List (S64)) (a0_3 : Int) (a0_4 : Int) (a1_0 : Int) (a1_1 : Int) (a2 : Int) : Option (List Int × Int × Int) := (ca_isBasin.f l0_0 a0_1 l0_2 a0_3 a0_4).bind fun t291 => (if t291 = true then ((ca_in.f a1_0 0 (wrap64 ((l0_2.length : Int) - 1))).bind fun t292 => (if t292 = true then ((ca_isHeight.f a1_1).bind fun t293 => (if t293 = true then ((ca_isFlow.f a2).bind fun t294 => (ca_Gains.j0 k a2 (!t294) l0_0 a0_1 l0_2 a0_3 a0_4 a1_0 a1_1)) else (ca_Gains.j0 k a2 true l0_0 a0_1 l0_2 a0_3 a0_4 a1_0 a1_1))) else (ca_Gains.j0 k a2 true l0_0 a0_1 l0_2 a0_3 a0_4 a1_0 a1_1))) else (ca_Gains.j0 k a2 true l0_0 a0_1 l0_2 a0_3 a0_4 a1_0 a1_1))
def ca_Gains.T8 : Bool × List (List Nat × List Nat) := (true,[([],[]),([],[]),([0,1],[0,1]),([2],[2]),([],[]),([],[]),([4,5],[4,5]),([6],[6]),([3,7],[3,7]),([0,1,0,1,2,3,4,5,6,7,8],[0,1]),([9,8,0,1,2,3,4,5,6,7,8],[8,9])])
def ca_Gains.B8 : List Nat := [0,0,3,7,0,0,48,112,255,511,1023]
theorem ca_Gains.tab8 : rtab .any (opsOf Tryz.f33 8) = ca_Gains.T8 := by kernel_rfl
theorem ca_Gains.bits8 : waitsOk ca_Gains.T8.2 ca_Gains.B8 = true := by kernel_rfl
theorem ca_Gains.calls (k : Nat) (A0_0 : Option Addr) (c0_0 : Nat) (l0_0 : List (S126)) (a0_1 : Int) (A0_2 : Option Addr) (c0_2 : Nat) (l0_2 : List (S64)) (a0_3 : Int) (a0_4 : Int) (a1_0 : Int) (a1_1 : Int) (a2 : Int) (r1 : List Int) (r2 : Int) (r3 : Int) (w : World) (hr0_0 : Kd.C k126 w A0_0 l0_0.length l0_0) (hc0_0 : l0_0.length ≤ c0_0) (hr0_2 : Kd.C k64 w A0_2 l0_2.length l0_2) (hc0_2 : l0_2.length ≤ c0_2) (h : ca_Gains.f k l0_0 a0_1 l0_2 a0_3 a0_4 a1_0 a1_1 a2 = some (r1,r2,r3)) :
 Calls Tryz.prog 33 #[.agg #[.slice A0_0 l0_0.length c0_0,.int .i64 a0_1,.slice A0_2 l0_2.length c0_2,.int .i64 a0_3,.int .i64 a0_4],.agg #[.int .i64 a1_0,.int .i64 a1_1],.int .i64 a2] w fun e w' => ∃ v0_ : Value,e = .returned (.tuple #[v0_,.int .i64 r2,.int .i64 r3]) ∧ Kd.R (Kd.int .i64) 3 w' w.heap.size (fun _ => True) v0_ r1 ∧ Below w.heap.size w w' := by
 have hu27 := Tryz.underlying27
 have hu58 := Tryz.underlying58
 have HR0_0 := am hr0_0
 have HC0_0 := am hc0_0
 clear hr0_0 hc0_0
 have HR0_2 := am hr0_2
 have HC0_2 := am hc0_2
 clear hr0_2 hc0_2
 have HB := am (Below.refl w.heap.size w)
 have H : ((ca_isBasin.f l0_0 a0_1 l0_2 a0_3 a0_4).bind fun t291 => (if t291 = true then ((ca_in.f a1_0 0 (wrap64 ((l0_2.length : Int) - 1))).bind fun t292 => (if t292 = true then ((ca_isHeight.f a1_1).bind fun t293 => (if t293 = true then ((ca_isFlow.f a2).bind fun t294 => (ca_Gains.j0 k a2 (!t294) l0_0 a0_1 l0_2 a0_3 a0_4 a1_0 a1_1)) else (ca_Gains.j0 k a2 true l0_0 a0_1 l0_2 a0_3 a0_4 a1_0 a1_1))) else (ca_Gains.j0 k a2 true l0_0 a0_1 l0_2 a0_3 a0_4 a1_0 a1_1))) else (ca_Gains.j0 k a2 true l0_0 a0_1 l0_2 a0_3 a0_4 a1_0 a1_1))) = some (r1,r2,r3) := h
 clear h
 have HC4 := am H
 clear H
 go_enter Tryz.func33,Tryz.ntmps33
 go_upto_region 1 with (first | ((refine gate_dst (N := 3) rfl ?_);(try (refine gate_guard (by rfl) ?_;dsimp only));refine box_event rfl (N := 3) rfl (cs := #[.slice A0_0 l0_0.length c0_0,.int .i64 a0_1,.slice A0_2 l0_2.length c0_2,.int .i64 a0_3,.int .i64 a0_4]) (t := 27) ?hr ?_;(case hr => go_simp;try rfl);intro gb289 hg w5 hbox hb;have BK289 := am (hbox);have GW289 := am (ge_new (HB.out) hg);have GE289 := am (ge_new (HB.out) hg);replace HB := am (below_step (HB.out) hb);clear hb hbox hg) | ((refine gate_dst (N := 4) rfl ?_);(try (refine gate_guard (by rfl) ?_;dsimp only));refine box_event rfl (N := 4) rfl (cs := #[.int .i64 a1_0,.int .i64 a1_1]) (t := 58) ?hr ?_;(case hr => go_simp;try rfl);intro gb290 hg w6 hbox hb;have BK290 := am (hbox);have GW290 := am (ge_new (HB.out) hg);have GE290 := am (ge_new (HB.out) hg);have NB289_290 := am (ne_new BK289.out hg);have NB290_289 := am (ne_new2 BK289.out hg);replace BK289 := (kmv hb BK289);replace HB := am (below_step (HB.out) hb);clear hb hbox hg))
 (try simp only [Act.put,List.setIfInBounds_toArray,List.set_cons_zero,List.set_cons_succ])
 go_cut [37] (fun v37 wc => ∃ (kq : Nat) (x37_3 : Bool),v37 = .bool x37_3 ∧ Aside0 (ca_Gains.j0 kq a2 x37_3 l0_0 a0_1 l0_2 a0_3 a0_4 a1_0 a1_1 = some (r1,r2,r3)) ∧ Aside0 (kq ≤ k) ∧ Aside0 (wc.heap[gb289]? = some (.cells #[(.slice A0_0 l0_0.length c0_0),.int .i64 a0_1,(.slice A0_2 l0_2.length c0_2),.int .i64 a0_3,.int .i64 a0_4] 27 (0,0))) ∧ Aside0 (wc.heap[gb290]? = some (.cells #[.int .i64 a1_0,.int .i64 a1_1] 58 (0,0))) ∧ Aside0 (Below w.heap.size w wc))
 case first =>
  have H := HC4.out
  clear HC4
  replace H := obm H
  obtain ⟨t291,A70,H⟩ := H
  replace H : (if t291 = true then ((ca_in.f a1_0 0 (wrap64 ((l0_2.length : Int) - 1))).bind fun t292 => (if t292 = true then ((ca_isHeight.f a1_1).bind fun t293 => (if t293 = true then ((ca_isFlow.f a2).bind fun t294 => (ca_Gains.j0 k a2 (!t294) l0_0 a0_1 l0_2 a0_3 a0_4 a1_0 a1_1)) else (ca_Gains.j0 k a2 true l0_0 a0_1 l0_2 a0_3 a0_4 a1_0 a1_1))) else (ca_Gains.j0 k a2 true l0_0 a0_1 l0_2 a0_3 a0_4 a1_0 a1_1))) else (ca_Gains.j0 k a2 true l0_0 a0_1 l0_2 a0_3 a0_4 a1_0 a1_1)) = some (r1,r2,r3) := H
  have A7 := am A70
  clear A70
  by_cases c8 : t291 = true
  case neg =>
   replace c8 := Bool.eq_false_iff.mpr c8
   subst c8
   replace H : (ca_Gains.j0 k a2 true l0_0 a0_1 l0_2 a0_3 a0_4 a1_0 a1_1) = some (r1,r2,r3) := by rw [if_neg (show ¬ (false = true) by decide)] at H;exact H
   replace H' := am H
   have hnb29 := NB289_290.out
   have hnc29 := NB290_289.out
   obtain ⟨hcz30_0,hcz30_1,hcz30_2,hcz30_3,hcz30_4⟩ := cO5 BK289.out
   go_wp2_with (first | ((with_reducible refine gate_callee (f := 57) rfl ?_);refine goesL_ (some 15) rfl rfl Tryz.func57 (by kernel_rfl) rfl #[.agg #[.slice A0_0 l0_0.length c0_0,.int .i64 a0_1,.slice A0_2 l0_2.length c0_2,.int .i64 a0_3,.int .i64 a0_4]] rfl (by (try simp only [List.map_toArray,List.map_cons,List.map_nil]);first | done | rfl | (simp only [List.length_drop,List.length_take];rfl)) ?_;(refine (ca_isBasin.calls _ _ l0_0 a0_1 _ _ l0_2 a0_3 a0_4 false _ ?side1 ?side2 ?side3 ?side4 A7.out).mono ?_);(case side1 => exact kC HR0_0.out HB.out);(case side2 => exact HC0_0.out);(case side3 => exact kC HR0_2.out HB.out);(case side4 => exact HC0_2.out);rintro e w31 ⟨rfl,hb⟩;refine ⟨_,rfl,?_⟩;replace BK289 := (kmv hb BK289);replace BK290 := (kmv hb BK290);replace HB := am (below_step (HB.out) hb);(try clear hb);(try clear hb2);(try clear hk);(try clear hi)))
   go_meet
   case rel => exact ⟨_,(true),(by first | rfl | (simp;done) | (simp [*];done)),H',⟨by first | omega | exact Nat.le_refl _⟩,⟨BK289.out⟩,⟨BK290.out⟩,⟨HB.out⟩⟩
  subst c8
  replace H : ((ca_in.f a1_0 0 (wrap64 ((l0_2.length : Int) - 1))).bind fun t292 => (if t292 = true then ((ca_isHeight.f a1_1).bind fun t293 => (if t293 = true then ((ca_isFlow.f a2).bind fun t294 => (ca_Gains.j0 k a2 (!t294) l0_0 a0_1 l0_2 a0_3 a0_4 a1_0 a1_1)) else (ca_Gains.j0 k a2 true l0_0 a0_1 l0_2 a0_3 a0_4 a1_0 a1_1))) else (ca_Gains.j0 k a2 true l0_0 a0_1 l0_2 a0_3 a0_4 a1_0 a1_1))) = some (r1,r2,r3) := by rw [if_pos rfl] at H;exact H
  replace H := obm H
  obtain ⟨t292,A90,H⟩ := H
  replace H : (if t292 = true then ((ca_isHeight.f a1_1).bind fun t293 => (if t293 = true then ((ca_isFlow.f a2).bind fun t294 => (ca_Gains.j0 k a2 (!t294) l0_0 a0_1 l0_2 a0_3 a0_4 a1_0 a1_1)) else (ca_Gains.j0 k a2 true l0_0 a0_1 l0_2 a0_3 a0_4 a1_0 a1_1))) else (ca_Gains.j0 k a2 true l0_0 a0_1 l0_2 a0_3 a0_4 a1_0 a1_1)) = some (r1,r2,r3) := H
  have A9 := am A90
  clear A90
  by_cases c10 : t292 = true
  case neg =>
   replace c10 := Bool.eq_false_iff.mpr c10
   subst c10
   replace H : (ca_Gains.j0 k a2 true l0_0 a0_1 l0_2 a0_3 a0_4 a1_0 a1_1) = some (r1,r2,r3) := by rw [if_neg (show ¬ (false = true) by decide)] at H;exact H
   replace H' := am H
   have hnb24 := NB289_290.out
   have hnc24 := NB290_289.out
   obtain ⟨hcz25_0,hcz25_1,hcz25_2,hcz25_3,hcz25_4⟩ := cO5 BK289.out
   go_wp2_with (first | ((with_reducible refine gate_callee (f := 57) rfl ?_);refine goesL_ (some 15) rfl rfl Tryz.func57 (by kernel_rfl) rfl #[.agg #[.slice A0_0 l0_0.length c0_0,.int .i64 a0_1,.slice A0_2 l0_2.length c0_2,.int .i64 a0_3,.int .i64 a0_4]] rfl (by (try simp only [List.map_toArray,List.map_cons,List.map_nil]);first | done | rfl | (simp only [List.length_drop,List.length_take];rfl)) ?_;(refine (ca_isBasin.calls _ _ l0_0 a0_1 _ _ l0_2 a0_3 a0_4 true _ ?side1 ?side2 ?side3 ?side4 A7.out).mono ?_);(case side1 => exact kC HR0_0.out HB.out);(case side2 => exact HC0_0.out);(case side3 => exact kC HR0_2.out HB.out);(case side4 => exact HC0_2.out);rintro e w26 ⟨rfl,hb⟩;refine ⟨_,rfl,?_⟩;replace BK289 := (kmv hb BK289);replace BK290 := (kmv hb BK290);replace HB := am (below_step (HB.out) hb);(try clear hb);(try clear hb2);(try clear hk);(try clear hi);obtain ⟨hcz27_0,hcz27_1⟩ := cO2 BK290.out;obtain ⟨hcz28_0,hcz28_1,hcz28_2,hcz28_3,hcz28_4⟩ := cO5 BK289.out) | (go_at_call 73;(refine (ca_in.calls a1_0 0 (wrap64 ((l0_2.length : Int) - 1)) false _ A9.out).mono ?_);rintro e w' ⟨rfl,⟨nd,rfl⟩⟩))
   go_meet
   case rel => exact ⟨_,(true),(by first | rfl | (simp;done) | (simp [*];done)),H',⟨by first | omega | exact Nat.le_refl _⟩,⟨BK289.out⟩,⟨BK290.out⟩,⟨pw_below_drewN HB.out _⟩⟩
  subst c10
  replace H : ((ca_isHeight.f a1_1).bind fun t293 => (if t293 = true then ((ca_isFlow.f a2).bind fun t294 => (ca_Gains.j0 k a2 (!t294) l0_0 a0_1 l0_2 a0_3 a0_4 a1_0 a1_1)) else (ca_Gains.j0 k a2 true l0_0 a0_1 l0_2 a0_3 a0_4 a1_0 a1_1))) = some (r1,r2,r3) := by rw [if_pos rfl] at H;exact H
  replace H := obm H
  obtain ⟨t293,A110,H⟩ := H
  replace H : (if t293 = true then ((ca_isFlow.f a2).bind fun t294 => (ca_Gains.j0 k a2 (!t294) l0_0 a0_1 l0_2 a0_3 a0_4 a1_0 a1_1)) else (ca_Gains.j0 k a2 true l0_0 a0_1 l0_2 a0_3 a0_4 a1_0 a1_1)) = some (r1,r2,r3) := H
  have A11 := am A110
  clear A110
  by_cases c12 : t293 = true
  case neg =>
   replace c12 := Bool.eq_false_iff.mpr c12
   subst c12
   replace H : (ca_Gains.j0 k a2 true l0_0 a0_1 l0_2 a0_3 a0_4 a1_0 a1_1) = some (r1,r2,r3) := by rw [if_neg (show ¬ (false = true) by decide)] at H;exact H
   replace H' := am H
   have hnb19 := NB289_290.out
   have hnc19 := NB290_289.out
   obtain ⟨hcz20_0,hcz20_1,hcz20_2,hcz20_3,hcz20_4⟩ := cO5 BK289.out
   go_wp2_with (first | ((with_reducible refine gate_callee (f := 57) rfl ?_);refine goesL_ (some 15) rfl rfl Tryz.func57 (by kernel_rfl) rfl #[.agg #[.slice A0_0 l0_0.length c0_0,.int .i64 a0_1,.slice A0_2 l0_2.length c0_2,.int .i64 a0_3,.int .i64 a0_4]] rfl (by (try simp only [List.map_toArray,List.map_cons,List.map_nil]);first | done | rfl | (simp only [List.length_drop,List.length_take];rfl)) ?_;(refine (ca_isBasin.calls _ _ l0_0 a0_1 _ _ l0_2 a0_3 a0_4 true _ ?side1 ?side2 ?side3 ?side4 A7.out).mono ?_);(case side1 => exact kC HR0_0.out HB.out);(case side2 => exact HC0_0.out);(case side3 => exact kC HR0_2.out HB.out);(case side4 => exact HC0_2.out);rintro e w21 ⟨rfl,hb⟩;refine ⟨_,rfl,?_⟩;replace BK289 := (kmv hb BK289);replace BK290 := (kmv hb BK290);replace HB := am (below_step (HB.out) hb);(try clear hb);(try clear hb2);(try clear hk);(try clear hi);obtain ⟨hcz22_0,hcz22_1⟩ := cO2 BK290.out;obtain ⟨hcz23_0,hcz23_1,hcz23_2,hcz23_3,hcz23_4⟩ := cO5 BK289.out) | (go_at_call 73;(refine (ca_in.calls a1_0 0 (wrap64 ((l0_2.length : Int) - 1)) true _ A9.out).mono ?_);rintro e w' ⟨rfl,⟨nd,rfl⟩⟩) | (go_at_call 68;(refine (ca_isHeight.calls a1_1 false _ A11.out).mono ?_);rintro e w' ⟨rfl,⟨nd,rfl⟩⟩))
   go_meet
   case rel => exact ⟨_,(true),(by first | rfl | (simp;done) | (simp [*];done)),H',⟨by first | omega | exact Nat.le_refl _⟩,⟨BK289.out⟩,⟨BK290.out⟩,⟨pw_below_drewN HB.out _⟩⟩
  subst c12
  replace H : ((ca_isFlow.f a2).bind fun t294 => (ca_Gains.j0 k a2 (!t294) l0_0 a0_1 l0_2 a0_3 a0_4 a1_0 a1_1)) = some (r1,r2,r3) := by rw [if_pos rfl] at H;exact H
  replace H := obm H
  obtain ⟨t294,A130,H⟩ := H
  replace H : (ca_Gains.j0 k a2 (!t294) l0_0 a0_1 l0_2 a0_3 a0_4 a1_0 a1_1) = some (r1,r2,r3) := H
  have A13 := am A130
  clear A130
  replace H' := am H
  have hnb14 := NB289_290.out
  have hnc14 := NB290_289.out
  obtain ⟨hcz15_0,hcz15_1,hcz15_2,hcz15_3,hcz15_4⟩ := cO5 BK289.out
  go_wp2_with (first | ((with_reducible refine gate_callee (f := 57) rfl ?_);refine goesL_ (some 15) rfl rfl Tryz.func57 (by kernel_rfl) rfl #[.agg #[.slice A0_0 l0_0.length c0_0,.int .i64 a0_1,.slice A0_2 l0_2.length c0_2,.int .i64 a0_3,.int .i64 a0_4]] rfl (by (try simp only [List.map_toArray,List.map_cons,List.map_nil]);first | done | rfl | (simp only [List.length_drop,List.length_take];rfl)) ?_;(refine (ca_isBasin.calls _ _ l0_0 a0_1 _ _ l0_2 a0_3 a0_4 true _ ?side1 ?side2 ?side3 ?side4 A7.out).mono ?_);(case side1 => exact kC HR0_0.out HB.out);(case side2 => exact HC0_0.out);(case side3 => exact kC HR0_2.out HB.out);(case side4 => exact HC0_2.out);rintro e w16 ⟨rfl,hb⟩;refine ⟨_,rfl,?_⟩;replace BK289 := (kmv hb BK289);replace BK290 := (kmv hb BK290);replace HB := am (below_step (HB.out) hb);(try clear hb);(try clear hb2);(try clear hk);(try clear hi);obtain ⟨hcz17_0,hcz17_1⟩ := cO2 BK290.out;obtain ⟨hcz18_0,hcz18_1,hcz18_2,hcz18_3,hcz18_4⟩ := cO5 BK289.out) | (go_at_call 73;(refine (ca_in.calls a1_0 0 (wrap64 ((l0_2.length : Int) - 1)) true _ A9.out).mono ?_);rintro e w' ⟨rfl,⟨nd,rfl⟩⟩) | (go_at_call 68;(refine (ca_isHeight.calls a1_1 true _ A11.out).mono ?_);rintro e w' ⟨rfl,⟨nd,rfl⟩⟩) | (go_at_call 58;(refine (ca_isFlow.calls a2 t294 _ A13.out).mono ?_);rintro e w' ⟨rfl,⟨nd,rfl⟩⟩))
  go_meet
  case rel => exact ⟨_,(!t294),(by first | rfl | (simp;done) | (simp [*];done)),H',⟨by first | omega | exact Nat.le_refl _⟩,⟨BK289.out⟩,⟨BK290.out⟩,⟨pw_below_drewN HB.out _⟩⟩
 case rest =>
  clear HC4
  obtain ⟨kq,x37_3,rfl,HA,HJ3,BK289,BK290,HB⟩ := hcut
  cases kq with
  | zero => exact absurd HA.out (by simp [ca_Gains.j0])
  | succ kj3 =>
   have H := HA.out
   clear HA
   simp only [ca_Gains.j0] at H
   by_cases c32 : x37_3 = true
   · subst c32
     replace H : (some (([] : List Int),0,2)) = some (r1,r2,r3) := by rw [if_pos rfl] at H;exact H
     simp only [Option.some.injEq,Prod.mk.injEq] at H
     obtain ⟨rfl,rfl,rfl⟩ := H
     go_wp2
     go_ret3
     exact ⟨_,by first | rfl | (simp [*] <;> rfl),by first | exact Kd.R_nil _ _ _ _ _ | exact Kd.N_nil _ _ _ _ _ | exact Kd.V_nil _ _ _ _ _ | exact Kd.Q_nil _ _ _ _ _ | exact Kd.S_nil _ _ _ _ _,HB.out⟩
   · replace c32 := Bool.eq_false_iff.mpr c32
     subst c32
     replace H : ((ca_fill.f kj3 l0_0 a0_1 l0_2 a0_3 a0_4).bind fun bt307 => ((gf_shares.f kj3 l0_0 bt307.1 l0_2 bt307.2.1 bt307.2.2.1 bt307.2.2.2 a2).bind fun bt313 => ((ca_changed.f l0_0 a0_1 l0_2 a0_3 a0_4 a1_0 a1_1).bind fun t326 => ((ca_fill.f kj3 l0_0 a0_1 t326 a0_3 a0_4).bind fun bt341 => ((gf_shares.f kj3 l0_0 bt341.1 t326 bt341.2.1 bt341.2.2.1 bt341.2.2.2 a2).bind fun bt347 => (ca_Gains.l0 kj3 bt313.1 bt313.2 bt347.1 bt347.2 (bt347.1.length : Int) 0)))))) = some (r1,r2,r3) := by rw [if_neg (show ¬ (false = true) by decide)] at H;exact H
     replace H := obm H
     obtain ⟨⟨t307,t308,t309,t310⟩,A330,H⟩ := H
     replace H : ((gf_shares.f kj3 l0_0 t307 l0_2 t308 t309 t310 a2).bind fun bt313 => ((ca_changed.f l0_0 a0_1 l0_2 a0_3 a0_4 a1_0 a1_1).bind fun t326 => ((ca_fill.f kj3 l0_0 a0_1 t326 a0_3 a0_4).bind fun bt341 => ((gf_shares.f kj3 l0_0 bt341.1 t326 bt341.2.1 bt341.2.2.1 bt341.2.2.2 a2).bind fun bt347 => (ca_Gains.l0 kj3 bt313.1 bt313.2 bt347.1 bt347.2 (bt347.1.length : Int) 0))))) = some (r1,r2,r3) := H
     have A33 := am A330
     clear A330
     replace H := obm H
     obtain ⟨⟨t313,t316⟩,A340,H⟩ := H
     replace H : ((ca_changed.f l0_0 a0_1 l0_2 a0_3 a0_4 a1_0 a1_1).bind fun t326 => ((ca_fill.f kj3 l0_0 a0_1 t326 a0_3 a0_4).bind fun bt341 => ((gf_shares.f kj3 l0_0 bt341.1 t326 bt341.2.1 bt341.2.2.1 bt341.2.2.2 a2).bind fun bt347 => (ca_Gains.l0 kj3 t313 t316 bt347.1 bt347.2 (bt347.1.length : Int) 0)))) = some (r1,r2,r3) := H
     have A34 := am A340
     clear A340
     replace H := obm H
     obtain ⟨t326,A350,H⟩ := H
     replace H : ((ca_fill.f kj3 l0_0 a0_1 t326 a0_3 a0_4).bind fun bt341 => ((gf_shares.f kj3 l0_0 bt341.1 t326 bt341.2.1 bt341.2.2.1 bt341.2.2.2 a2).bind fun bt347 => (ca_Gains.l0 kj3 t313 t316 bt347.1 bt347.2 (bt347.1.length : Int) 0))) = some (r1,r2,r3) := H
     have A35 := am A350
     clear A350
     replace H := obm H
     obtain ⟨⟨t341,t342,t343,t344⟩,A360,H⟩ := H
     replace H : ((gf_shares.f kj3 l0_0 t341 t326 t342 t343 t344 a2).bind fun bt347 => (ca_Gains.l0 kj3 t313 t316 bt347.1 bt347.2 (bt347.1.length : Int) 0)) = some (r1,r2,r3) := H
     have A36 := am A360
     clear A360
     replace H := obm H
     obtain ⟨⟨t347,t350⟩,A370,H⟩ := H
     replace H : (ca_Gains.l0 kj3 t313 t316 t347 t350 (t347.length : Int) 0) = some (r1,r2,r3) := H
     have A37 := am A370
     clear A370
     replace H' := am H
     have hnb38 := NB289_290.out
     have hnc38 := NB290_289.out
     obtain ⟨hcz39_0,hcz39_1,hcz39_2,hcz39_3,hcz39_4⟩ := cO5 BK289.out
     go_wp2_with (first | ((with_reducible refine gate_callee (f := 59) rfl ?_);refine goesL_ (some 40) rfl rfl Tryz.func59 (by kernel_rfl) rfl #[.agg #[.slice A0_0 l0_0.length c0_0,.int .i64 a0_1,.slice A0_2 l0_2.length c0_2,.int .i64 a0_3,.int .i64 a0_4]] rfl (by (try simp only [List.map_toArray,List.map_cons,List.map_nil]);first | done | rfl | (simp only [List.length_drop,List.length_take];rfl)) ?_;(refine (ca_fill.calls kj3 _ _ l0_0 a0_1 _ _ l0_2 a0_3 a0_4 t307 t308 t309 t310 _ ?side1 ?side2 ?side3 ?side4 A33.out).mono ?_);(case side1 => exact kC HR0_0.out HB.out);(case side2 => exact HC0_0.out);(case side3 => exact kC HR0_2.out HB.out);(case side4 => exact HC0_2.out);rintro e w40 ⟨v311,rfl,ho0,hb⟩;refine ⟨_,rfl,?_⟩;have HO312 := am (Kd.S_lower ho0 (below_size (HB.out)));replace BK289 := (kmv hb BK289);replace BK290 := (kmv hb BK290);replace HB := am (below_step (HB.out) hb);(try clear hb);(try clear hb2);(try clear hk);(try clear hi);(try clear ho0);obtain ⟨Ao41,co41,eo41⟩ := Kd.S_slice HO312.out;subst eo41) | ((with_reducible refine gate_callee (f := 60) rfl ?_);refine goesL_ (some 42) rfl rfl Tryz.func60 (by kernel_rfl) rfl #[.agg #[.slice A0_0 l0_0.length c0_0,.int .i64 t307,.slice A0_2 l0_2.length c0_2,.int .i64 t308,.int .i64 t309,.slice Ao41 t310.length co41],.int .i64 a2] rfl (by (try simp only [List.map_toArray,List.map_cons,List.map_nil]);first | done | rfl | (simp only [List.length_drop,List.length_take];rfl)) ?_;(refine (gf_shares.calls kj3 _ _ l0_0 t307 _ _ l0_2 t308 t309 _ _ t310 a2 t313 t316 _ ?side1 ?side2 ?side3 ?side4 ?side5 ?side6 A34.out).mono ?_);(case side1 => exact kC HR0_0.out HB.out);(case side2 => exact HC0_0.out);(case side3 => exact kC HR0_2.out HB.out);(case side4 => exact HC0_2.out);(case side5 => repeat (first | exact (Kd.S_reads' HO312.out).2.2 | (with_reducible refine Kd.C_alloc ?_ _) | (with_reducible refine Kd.C_drewN ?_ _) | (with_reducible refine Kd.C_drew ?_)));(case side6 => exact (Kd.S_reads' HO312.out).2.1);rintro e w42 ⟨v314,rfl,ho0,hb⟩;refine ⟨_,rfl,?_⟩;have HO315 := am (Kd.R_lower ho0 (below_size (HB.out)));replace HO312 := am (Kd.S_elder' HO312.out (Kd.R_base ho0) hb);replace BK289 := (kmv hb BK289);replace BK290 := (kmv hb BK290);replace HB := am (below_step (HB.out) hb);(try clear hb);(try clear hb2);(try clear hk);(try clear hi);(try clear ho0);obtain ⟨hcz43_0,hcz43_1,hcz43_2,hcz43_3,hcz43_4⟩ := cO5 BK289.out;obtain ⟨hcz44_0,hcz44_1⟩ := cO2 BK290.out) | ((with_reducible refine gate_callee (f := 74) rfl ?_);refine goesL_ (some 48) rfl rfl Tryz.func74 (by kernel_rfl) rfl #[.agg #[.slice A0_0 l0_0.length c0_0,.int .i64 a0_1,.slice A0_2 l0_2.length c0_2,.int .i64 a0_3,.int .i64 a0_4],.agg #[.int .i64 a1_0,.int .i64 a1_1]] rfl (by (try simp only [List.map_toArray,List.map_cons,List.map_nil]);first | done | rfl | (simp only [List.length_drop,List.length_take];rfl)) ?_;(refine (ca_changed.calls _ _ l0_0 a0_1 _ _ l0_2 a0_3 a0_4 a1_0 a1_1 t326 _ ?side1 ?side2 ?side3 ?side4 A35.out).mono ?_);(case side1 => exact kC HR0_0.out HB.out);(case side2 => exact HC0_0.out);(case side3 => exact kC HR0_2.out HB.out);(case side4 => exact HC0_2.out);rintro e w45 ⟨v327,rfl,ho0,hb⟩;refine ⟨_,rfl,?_⟩;have HO328 := am (Kd.R_lower ho0 (below_size (HB.out)));replace HO312 := am (Kd.S_below HO312.out hb);replace HO315 := am (Kd.R_below HO315.out hb);replace BK289 := (kmv hb BK289);replace BK290 := (kmv hb BK290);replace HB := am (below_step (HB.out) hb);(try clear hb);(try clear hb2);(try clear hk);(try clear hi);(try clear ho0);obtain ⟨Ao46,co46,eo46⟩ := Kd.R_slice HO328.out;subst eo46) | ((with_reducible refine gate_callee (f := 59) rfl ?_);refine goesL_ (some 49) rfl rfl Tryz.func59 (by kernel_rfl) rfl #[.agg #[.slice A0_0 l0_0.length c0_0,.int .i64 a0_1,.slice Ao46 t326.length co46,.int .i64 a0_3,.int .i64 a0_4]] rfl (by (try simp only [List.map_toArray,List.map_cons,List.map_nil]);first | done | rfl | (simp only [List.length_drop,List.length_take];rfl)) ?_;(refine (ca_fill.calls kj3 _ _ l0_0 a0_1 _ _ t326 a0_3 a0_4 t341 t342 t343 t344 _ ?side1 ?side2 ?side3 ?side4 A36.out).mono ?_);(case side1 => exact kC HR0_0.out HB.out);(case side2 => exact HC0_0.out);(case side3 => repeat (first | exact (Kd.R_reads' HO328.out).2.2 | (with_reducible refine Kd.C_alloc ?_ _) | (with_reducible refine Kd.C_drewN ?_ _) | (with_reducible refine Kd.C_drew ?_)));(case side4 => exact (Kd.R_reads' HO328.out).2.1);rintro e w47 ⟨v345,rfl,ho0,hb⟩;refine ⟨_,rfl,?_⟩;have HO346 := am (Kd.S_lower (Kd.S_new' (Kd.S_new' ho0 (Kd.S_lt HO312.out)) (Kd.R_lt HO315.out)) (below_size (HB.out)));replace HO312 := am (Kd.S_elder' HO312.out (Kd.S_base ho0) hb);replace HO315 := am (Kd.R_below HO315.out hb);replace HO328 := am (Kd.R_below HO328.out hb);replace BK289 := (kmv hb BK289);replace BK290 := (kmv hb BK290);replace HB := am (below_step (HB.out) hb);(try clear hb);(try clear hb2);(try clear hk);(try clear hi);(try clear ho0);obtain ⟨Ao48,co48,eo48⟩ := Kd.S_slice HO346.out;subst eo48) | ((with_reducible refine gate_callee (f := 60) rfl ?_);refine goesL_ (some 51) rfl rfl Tryz.func60 (by kernel_rfl) rfl #[.agg #[.slice A0_0 l0_0.length c0_0,.int .i64 t341,.slice Ao46 t326.length co46,.int .i64 t342,.int .i64 t343,.slice Ao48 t344.length co48],.int .i64 a2] rfl (by (try simp only [List.map_toArray,List.map_cons,List.map_nil]);first | done | rfl | (simp only [List.length_drop,List.length_take];rfl)) ?_;(refine (gf_shares.calls kj3 _ _ l0_0 t341 _ _ t326 t342 t343 _ _ t344 a2 t347 t350 _ ?side1 ?side2 ?side3 ?side4 ?side5 ?side6 A37.out).mono ?_);(case side1 => exact kC HR0_0.out HB.out);(case side2 => exact HC0_0.out);(case side3 => repeat (first | exact (Kd.R_reads' HO328.out).2.2 | (with_reducible refine Kd.C_alloc ?_ _) | (with_reducible refine Kd.C_drewN ?_ _) | (with_reducible refine Kd.C_drew ?_)));(case side4 => exact (Kd.R_reads' HO328.out).2.1);(case side5 => repeat (first | exact (Kd.S_reads' HO346.out).2.2 | (with_reducible refine Kd.C_alloc ?_ _) | (with_reducible refine Kd.C_drewN ?_ _) | (with_reducible refine Kd.C_drew ?_)));(case side6 => exact (Kd.S_reads' HO346.out).2.1);rintro e w49 ⟨v348,rfl,ho0,hb⟩;refine ⟨_,rfl,?_⟩;have HO349 := am (Kd.R_lower (Kd.R_new' ho0 (Kd.R_lt HO315.out)) (below_size (HB.out)));replace HO312 := am (Kd.S_elder' HO312.out (Kd.R_base ho0) hb);replace HO315 := am (Kd.R_elder' HO315.out (Kd.R_base ho0) hb);replace HO328 := am (Kd.R_below HO328.out hb);replace HO346 := am (Kd.S_elder' HO346.out (Kd.R_base ho0) hb);replace BK289 := (kmv hb BK289);replace BK290 := (kmv hb BK290);replace HB := am (below_step (HB.out) hb);(try clear hb);(try clear hb2);(try clear hk);(try clear hi);(try clear ho0);obtain ⟨Ao50,co50,eo50⟩ := Kd.R_slice HO349.out;subst eo50))
     go_loopg [56] kj3 (fun kq v56 w' => ∃ (x11_2 : List Int) (x56_2 : Int),v56 = .int .i64 x56_2 ∧ Aside0 (ca_Gains.l0 kq t313 t316 x11_2 t350 (t347.length : Int) x56_2 = some (r1,r2,r3)) ∧ Aside0 (kq ≤ kj3) ∧ Aside0 (Kd.R (Kd.int .i64) 3 w' w.heap.size (fun k_ => some k_ ≠ ((.slice Ao50 t347.length co50) : Value).ownBlock) v314 t313) ∧ Aside0 (Kd.R (Kd.int .i64) 3 w' w.heap.size (fun k_ => some k_ ≠ (v314 : Value).ownBlock) (.slice Ao50 t347.length co50) x11_2) ∧ Aside0 (w'.heap[gb289]? = some (.cells #[(.slice A0_0 l0_0.length c0_0),.int .i64 a0_1,(.slice A0_2 l0_2.length c0_2),.int .i64 a0_3,.int .i64 a0_4] 27 (0,0))) ∧ Aside0 (w'.heap[gb290]? = some (.cells #[.int .i64 a1_0,.int .i64 a1_1] 58 (0,0))) ∧ Aside0 (Below w.heap.size w w'))
     case atStart => exact ⟨(t347),(0),(by first | rfl | (simp;done) | (simp [*];done)),H',⟨Nat.le_refl _⟩,⟨by (with_reducible repeat (first | apply Kd.R_alloc | apply Kd.R_drewN | apply Kd.R_drew));exact Kd.R_mono HO315.out (fun _ hk => hk.2)⟩,⟨by (with_reducible repeat (first | apply Kd.R_alloc | apply Kd.R_drewN | apply Kd.R_drew));exact Kd.R_mono HO349.out (fun _ hk => hk.2)⟩,⟨BK289.out⟩,⟨BK290.out⟩,⟨HB.out⟩⟩
     case round =>
      clear H'
      obtain ⟨x11_2,x56_2,rfl,HA,HK2,HO_9,HO_11,BK289,BK290,HB⟩ := hrel
      have hl11_2 := (Kd.R_reads' HO_11.out).1
      rw [hl11_2] at HO_11
      (try simp only [hl11_2])
      (try simp only [hl11_2] at BK289)
      (try simp only [hl11_2] at BK290)
      (try simp only [hl11_2] at HO_9)
      cases gk with
      | zero => exact absurd HA.out (by simp [ca_Gains.l0])
      | succ k2 =>
       have H := HA.out
       clear HA
       simp only [ca_Gains.l0] at H
       by_cases c51 : x56_2 < (t347.length : Int)
       case neg =>
        rw [if_neg c51] at H
        have c51b0 : decide (x56_2 < (t347.length : Int)) = false := decide_eq_false c51
        (try simp only [hl11_2] at c51b0)
        clear c51
        simp only [Option.some.injEq,Prod.mk.injEq] at H
        obtain ⟨rfl,rfl,rfl⟩ := H
        go_wp2
        go_ret3
        exact ⟨_,by first | rfl | (simp [*] <;> rfl),by (with_reducible repeat (first | apply Kd.R_alloc | apply Kd.R_drewN | apply Kd.R_drew));exact Kd.R_mono HO_11.out (fun _ hk => trivial),HB.out⟩
       rw [if_pos c51] at H
       have c51b0 : decide (x56_2 < (t347.length : Int)) = true := decide_eq_true c51
       (try simp only [hl11_2] at c51b0)
       clear c51
       by_cases c52 : 0 ≤ x56_2
       case neg =>
        rw [if_neg c52] at H
        exact absurd H (by simp)
       rw [if_pos c52] at H
       have c52b0 : decide (0 ≤ x56_2) = true := decide_eq_true c52
       clear c52
       by_cases c53 : x56_2 < (x11_2.length : Int)
       case neg =>
        rw [if_neg c53] at H
        exact absurd H (by simp)
       rw [if_pos c53] at H
       have c53b0 : decide (x56_2 < (x11_2.length : Int)) = true := decide_eq_true c53
       (try simp only [hl11_2] at c53b0)
       clear c53
       by_cases c54 : x56_2 < (t313.length : Int)
       case neg =>
        rw [if_neg c54] at H
        exact absurd H (by simp)
       rw [if_pos c54] at H
       have c54b0 : decide (x56_2 < (t313.length : Int)) = true := decide_eq_true c54
       (try simp only [hl11_2] at c54b0)
       clear c54
       obtain ⟨y353,hy353⟩ : ∃ y_ : List Int,y_ = (x11_2.set (x56_2 : Int).toNat (wrap64 ((rd x11_2 x56_2) - (rd t313 x56_2)))) := ⟨_,rfl⟩
       replace H : (ca_Gains.l0 k2 t313 t316 y353 t350 (t347.length : Int) (wrap64 (x56_2 + 1))) = some (r1,r2,r3) := by first | (rw [hy353];with_reducible exact H) | (have H2_ := (Option.bind_some _ _).symm.trans H;rw [hy353];with_reducible exact H2_) | (have H2_ := (Option.bind_some _ _).symm.trans H;with_reducible exact H2_) | with_reducible exact H | (rw [hy353];exact H) | exact H
       have Ny353 := am hy353
       clear hy353
       replace H' := am H
       try go_wp2
       replace HO_9 := am (Kd.R_drew HO_9.out)
       replace HO_11 := am (Kd.R_drew HO_11.out)
       replace BK289 := am (blk_drew BK289.out)
       replace BK290 := am (blk_drew BK290.out)
       replace HB := am (below_drew1 HB.out)
       have p351 : 0 ≤ (x56_2 : Int) := of_decide_eq_true (by assumption)
       have q351 : x56_2 < (x11_2.length : Int) := of_decide_eq_true (by assumption)
       obtain ⟨ad351,e351,hx351_0⟩ := Kd.at_int (Kd.R_reads' HO_11.out).2.2 x56_2 p351 q351
       cases e351
       replace p351 := eq_true p351
       replace q351 := eq_true q351
       obtain ⟨Ao57,co57,eo57⟩ := Kd.R_slice HO_9.out
       (first | subst eo57 | (injection eo57 with f1_ f2_ f3_;have f4_ := f1_.symm;have f5_ := f3_.symm;clear f1_ f2_ f3_;subst f4_;subst f5_))
       have p352 : 0 ≤ (x56_2 : Int) := of_decide_eq_true (by assumption)
       have q352 : x56_2 < (t313.length : Int) := of_decide_eq_true (by assumption)
       obtain ⟨ad352,e352,hx352_0⟩ := Kd.at_int (Kd.R_reads' HO_9.out).2.2 x56_2 p352 q352
       cases e352
       replace p352 := eq_true p352
       replace q352 := eq_true q352
       have p55 : 0 ≤ (x56_2 : Int) := of_decide_eq_true (by assumption)
       have q55 : (x56_2 : Int) < ((x11_2.length : Int) : Int) := of_decide_eq_true (by assumption)
       obtain ⟨go55,co55,eo55,gb55,gl55,cl55,HG55⟩ := Kd.R_form HO_11.out (by omega)
       (first | cases eo55 | (injection eo55 with ea_ en_ ec_;(first | subst ea_ | (injection ea_ with ea_;subst ea_));subst ec_;clear en_))
       have GB55 := am gb55
       have GG55 := am HG55
       clear gb55 gl55 HG55
       (first | simp only [add_plain] at hx351_0 | skip)
       obtain ⟨hx55_0,hf55_0⟩ := Kd.R_celln 0 HO_11.out (x56_2 : Int) p55 q55
       replace p55 := eq_true p55
       replace q55 := eq_true q55
       have HP58 := Kd.R_putn HO_11.out (x56_2 : Int) (wrap64 ((rd x11_2 x56_2) - (rd t313 x56_2)))
       rw [← Ny353.out] at HP58
       have HQ58 := am HP58
       clear HP58
       refine start_ (n := 11) (S := fun w' => w'.cell? ⟨go55,(x56_2).toNat,none⟩ = some (.int .i64 (rd x11_2 x56_2)) ∧ w'.cell? (ad352.add (x56_2).toNat) = some (.int .i64 (rd t313 x56_2))) (ds := [10]) (ba 11 0) (by kernel_rfl) rfl rfl ⟨hx351_0,hx352_0⟩ (fun hHeld => ?_);refine with_tabW ca_Gains.tab8 ca_Gains.bits8 (fun HT_ HW_ => ?_)
       generalize wr.drew = w56 at HO_9 HO_11 BK289 BK290 HB GG55 HQ58 hf55_0 hx351_0 hx352_0 hx55_0 hHeld ⊢
       refine pure_ (i := 0) (N := some 59) (v := ?_) (a' := ?_) (ba 11 1) rfl rfl (any_of HT_.out (by kernel_rfl)) (fun _ _ _ h => h) (Or.inl ⟨by rfl,?_⟩) ?_ ?_
       rotate_left
       · intro w'
         go_simp
         with_reducible rfl
       rotate_left
       · simp only [Act.put,NRM]
         rfl
       refine pure_ (i := 1) (N := some 60) (v := ?_) (a' := ?_) (ba 11 3) rfl rfl (any_of HT_.out (by kernel_rfl)) (fun _ _ _ h => h) (Or.inl ⟨by rfl,?_⟩) ?_ ?_
       rotate_left
       · intro w'
         go_simp
         with_reducible rfl
       rotate_left
       · simp only [Act.put,NRM]
         rfl
       refine pure_ (i := 2) (N := some 61) (v := ?_) (a' := ?_) (ba 11 7) rfl rfl (any_of HT_.out (by kernel_rfl)) (fun _ _ _ h => h) (Or.inl ⟨by rfl,?_⟩) ?_ ?_
       rotate_left
       · intro w'
         go_simp
         with_reducible rfl
       rotate_left
       · simp only [Act.put,NRM]
         rfl
       refine pure_ (i := 4) (N := some 63) (v := ?_) (a' := ?_) (ba 11 23) rfl rfl (any_of HT_.out (by kernel_rfl)) (fun _ _ _ h => h) (Or.inl ⟨by rfl,?_⟩) ?_ ?_
       rotate_left
       · intro w'
         go_simp
         with_reducible rfl
       rotate_left
       · simp only [Act.put,NRM]
         rfl
       refine pure_ (i := 5) (N := some 64) (v := ?_) (a' := ?_) (ba 11 55) rfl rfl (any_of HT_.out (by kernel_rfl)) (fun _ _ _ h => h) (Or.inl ⟨by rfl,?_⟩) ?_ ?_
       rotate_left
       · intro w'
         go_simp
         with_reducible rfl
       rotate_left
       · simp only [Act.put,NRM]
         rfl
       refine pure_ (i := 6) (N := some 65) (v := ?_) (a' := ?_) (ba 11 119) rfl rfl (any_of HT_.out (by kernel_rfl)) (fun _ _ _ h => h) (Or.inl ⟨by rfl,?_⟩) ?_ ?_
       rotate_left
       · intro w'
         go_simp
         with_reducible rfl
       rotate_left
       · simp only [Act.put,NRM]
         rfl
       refine take_ (i := 3) (N := some 62) (v := ?_) (a' := ?_) (ba 11 127) rfl rfl (take_ofW HT_.out HW_.out (by kernel_rfl)) (fun _ _ _ h => h) (Or.inl ⟨by rfl,?_⟩) hHeld ?_ ?_
       rotate_left
       · rintro w' ⟨s0,s1⟩
         go_simp
         with_reducible rfl
       rotate_left
       · simp only [Act.put,NRM]
         rfl
       refine take_ (i := 7) (N := some 66) (v := ?_) (a' := ?_) (ba 11 255) rfl rfl (take_ofW HT_.out HW_.out (by kernel_rfl)) (fun _ _ _ h => h) (Or.inl ⟨by rfl,?_⟩) hHeld ?_ ?_
       rotate_left
       · rintro w' ⟨s0,s1⟩
         go_simp
         with_reducible rfl
       rotate_left
       · simp only [Act.put,NRM]
         rfl
       refine pure_ (i := 8) (N := some 67) (v := ?_) (a' := ?_) (ba 11 511) rfl rfl (any_of HT_.out (by kernel_rfl)) (fun _ _ _ h => h) (Or.inl ⟨by rfl,?_⟩) ?_ ?_
       rotate_left
       · intro w'
         go_simp
         with_reducible rfl
       rotate_left
       · simp only [Act.put,NRM]
         rfl
       refine pure_ (i := 9) (N := some 68) (v := ?_) (a' := ?_) (ba 11 1023) rfl rfl (any_of HT_.out (by kernel_rfl)) (fun _ _ _ h => h) (Or.inl ⟨by rfl,?_⟩) ?_ ?_
       rotate_left
       · intro w'
         go_simp
         with_reducible rfl
       rotate_left
       · simp only [Act.put,NRM]
         rfl
       refine last_ (i := 10) (N := none) (ba 11 2047) rfl rfl (one_of HT_.out (by kernel_rfl)) (by decide) (fun K hK => ?_)
       refine skip_ (w1 := ?_) (by rfl) rfl ?_ ?_
       rotate_left
       · go_simp
         rfl
       refine hK.out _ _ ?_
       clear hK K
       refine done_ (done_of HT_.out (by kernel_rfl)) ?_
       try go_wp2
       (try simp only [← hl11_2])
       go_roundg k2
       case measure => have := HJ3.out;have := HK2.out;omega
       case rel => exact ⟨(y353),(wrap64 (x56_2 + 1)),(by first | rfl | (simp;done) | (simp [*];done)),H',⟨by have := HJ3.out;have := HK2.out;omega⟩,⟨by (try simp only [hl11_2]);(with_reducible repeat (first | apply Kd.R_alloc | apply Kd.R_drewN | apply Kd.R_drew));exact Kd.R_mono (Kd.R_far (p := ⟨go55,(x56_2 : Int).toNat,none⟩) (Kd.R_mono HO_9.out (fun k_ hk => (⟨hk,fun e_ => hk (by rw [e_];rfl)⟩ : _ ∧ k_ ≠ go55))) (fun _ hk => hk.2) (.int .i64 (wrap64 ((rd x11_2 x56_2) - (rd t313 x56_2))))) (fun _ hk => hk.1)⟩,⟨by (try simp only [hl11_2]);(with_reducible repeat (first | apply Kd.R_alloc | apply Kd.R_drewN | apply Kd.R_drew));exact HQ58.out⟩,⟨by (try simp only [hl11_2]);(with_reducible repeat (first | refine blk_drewN ?_ _ | refine blk_drew ?_ | refine blk_alloc ?_ _));refine blk_far ?_ (by have h_ := Kd.R_ne HO_11.out BK289.out (by decide);intro e_;exact h_ (by rw [e_];rfl)) _;(with_reducible repeat (first | refine blk_drewN ?_ _ | refine blk_drew ?_ | refine blk_alloc ?_ _));exact BK289.out⟩,⟨by (try simp only [hl11_2]);(with_reducible repeat (first | refine blk_drewN ?_ _ | refine blk_drew ?_ | refine blk_alloc ?_ _));refine blk_far ?_ (by have h_ := Kd.R_ne HO_11.out BK290.out (by decide);intro e_;exact h_ (by rw [e_];rfl)) _;(with_reducible repeat (first | refine blk_drewN ?_ _ | refine blk_drew ?_ | refine blk_alloc ?_ _));exact BK290.out⟩,⟨by repeat (first | (with_reducible first | exact HB.out | refine below_set ?_ (Aside0.out (by assumption)) | apply below_alloc | apply pw_below_drewN) | exact HB.out)⟩⟩
def q4_in.f (a0 : Int) (a1 : Int) (a2 : Int) : Option (Bool) := if a0 ≥ a1 then (some (decide (a0 ≤ a2))) else (some false)
theorem q4_in.calls (a0 : Int) (a1 : Int) (a2 : Int) (r : Bool) (w : World) (h : q4_in.f a0 a1 a2 = some r) :
 Calls Tryz.prog 61 #[.int .i64 a0,.int .i64 a1,.int .i64 a2] w fun e w' => e = .returned (.bool r) ∧ Drawn0 w w' := by
 have H : (if a0 ≥ a1 then (some (decide (a0 ≤ a2))) else (some false)) = some r := h
 clear h
 by_cases c4 : a0 ≥ a1
 · rw [if_pos c4] at H
   have c4b0 : decide (a1 ≤ a0) = true := decide_eq_true c4
   clear c4
   obtain rfl := Option.some.inj H
   go_enter Tryz.func61,Tryz.ntmps61
   go_wp2
   go_ret
   exact ⟨by first | rfl | (simp;done) | (simp [*];done),by repeat (first | exact Drawn0.refl _ | apply Drawn0.step)⟩
 · rw [if_neg c4] at H
   have c4b0 : decide (a1 ≤ a0) = false := decide_eq_false c4
   clear c4
   obtain rfl := Option.some.inj H
   go_enter Tryz.func61,Tryz.ntmps61
   go_wp2
   go_ret
   exact ⟨by first | rfl | (simp;done) | (simp [*];done),by repeat (first | exact Drawn0.refl _ | apply Drawn0.step)⟩
def q4_Height.f (a0 : Int) : Option (Bool) := (q4_in.f a0 0 40).bind fun t461 => (some t461)
theorem q4_Height.calls (a0 : Int) (r : Bool) (w : World) (h : q4_Height.f a0 = some r) :
 Calls Tryz.prog 21 #[.int .i64 a0] w fun e w' => e = .returned (.bool r) ∧ Drawn0 w w' := by
 have H : ((q4_in.f a0 0 40).bind fun t461 => (some t461)) = some r := h
 clear h
 replace H := obm H
 obtain ⟨t461,A20,H⟩ := H
 replace H : (some t461) = some r := H
 have A2 := am A20
 clear A20
 obtain rfl := Option.some.inj H
 go_enter Tryz.func21,Tryz.ntmps21
 go_wp2_with (first | ((with_reducible refine gate_callee (f := 61) rfl ?_);refine goesL_ (some 4) rfl rfl Tryz.func61 (by kernel_rfl) rfl #[.int .i64 a0,.int .i64 0,.int .i64 40] rfl (by (try simp only [List.map_toArray,List.map_cons,List.map_nil]);first | done | rfl | (simp only [List.length_drop,List.length_take];rfl)) ?_;(with_reducible refine (q4_in.calls a0 0 40 t461 _ A2.out).mono ?_);rintro e w' ⟨rfl,⟨nd,rfl⟩⟩;refine ⟨_,rfl,?_⟩))
 go_ret
 exact ⟨by first | rfl | (simp;done) | (simp [*];done),by repeat (first | exact Drawn0.refl _ | apply Drawn0.step)⟩
def q3_in.f (a0 : Int) (a1 : Int) (a2 : Int) : Option (Bool) := if a0 ≥ a1 then (some (decide (a0 ≤ a2))) else (some false)
theorem q3_in.calls (a0 : Int) (a1 : Int) (a2 : Int) (r : Bool) (w : World) (h : q3_in.f a0 a1 a2 = some r) :
 Calls Tryz.prog 101 #[.int .i64 a0,.int .i64 a1,.int .i64 a2] w fun e w' => e = .returned (.bool r) ∧ Drawn0 w w' := by
 have H : (if a0 ≥ a1 then (some (decide (a0 ≤ a2))) else (some false)) = some r := h
 clear h
 by_cases c4 : a0 ≥ a1
 · rw [if_pos c4] at H
   have c4b0 : decide (a1 ≤ a0) = true := decide_eq_true c4
   clear c4
   obtain rfl := Option.some.inj H
   go_enter Tryz.func101,Tryz.ntmps101
   go_wp2
   go_ret
   exact ⟨by first | rfl | (simp;done) | (simp [*];done),by repeat (first | exact Drawn0.refl _ | apply Drawn0.step)⟩
 · rw [if_neg c4] at H
   have c4b0 : decide (a1 ≤ a0) = false := decide_eq_false c4
   clear c4
   obtain rfl := Option.some.inj H
   go_enter Tryz.func101,Tryz.ntmps101
   go_wp2
   go_ret
   exact ⟨by first | rfl | (simp;done) | (simp [*];done),by repeat (first | exact Drawn0.refl _ | apply Drawn0.step)⟩
end
end Go.Proofs.YticlelgmmonloaaGreatDoor.C

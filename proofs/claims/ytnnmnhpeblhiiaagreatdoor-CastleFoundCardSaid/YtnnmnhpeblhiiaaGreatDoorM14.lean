/- A part of the proof: the walks of the functions that it reaches. TIGHT. -/
import Derived.Test.YtnnmnhpeblhiiaaGreatDoorM13
import Derived.Test.YtnnmnhpeblhiiaaGreatDoorM9
set_option linter.unusedVariables false
set_option linter.unusedSimpArgs false
namespace Go.Proofs.YtnnmnhpeblhiiaaGreatDoor.C
open Go.RowKit Go.Proofs.YtnnmnhpeblhiiaaGreatDoorW.PrintWords Go.Proofs.YtnnmnhpeblhiiaaGreatDoorW.PrintLast Go.Proofs.YtnnmnhpeblhiiaaGreatDoorW.PrintMore
set_option linter.unusedVariables false
set_option linter.unusedSimpArgs false
set_option maxHeartbeats 16000000
set_option maxRecDepth 100000
def ca_isBasin_1.f (l0_0 : List S126) (x : S48) : Option Bool := (ca_in.f x.f0 0 (wrap64 ((l0_0.length : Int) - 1))).bind fun t => if t = true then (ca_isHeight.f x.f1).bind fun u => some (!u) else some true
theorem ca_isBasin_1.calls (g : Nat) (A0_0 : Option Addr) (c0_0 : Nat) (l0_0 : List S126) (a0_1 : Int) (A0_2 : Option Addr) (c0_2 : Nat) (l0_2 : List S48) (a0_3 a0_4 : Int) (x : S48) (r : Bool) (w : World) (hb : w.heap[g]? = some (.cells #[.slice A0_0 l0_0.length c0_0,.int .i64 a0_1,.slice A0_2 l0_2.length c0_2,.int .i64 a0_3,.int .i64 a0_4] 27 (0,0))) (h : ca_isBasin_1.f l0_0 x = some r) :
 Calls Tryz.prog 102 #[.agg #[.int .i64 x.f0,.int .i64 x.f1],.pointer (some ⟨g,0,none⟩)] w fun e w' => e = .returned (.bool r) ∧ Below w.heap.size w w' := by
 have hu := Tryz.underlying27
 have huz := Tryz.underlying48
 have hut := Tryz.underlying24
 have HB := am (Below.refl w.heap.size w)
 have BKg := am hb
 clear hb
 unfold ca_isBasin_1.f at h
 obtain ⟨t,ht,h⟩ := obm h
 have H1 := am ht
 clear ht
 cases t with
 | true =>
  rw [if_pos rfl] at h
  obtain ⟨u,hu2,h⟩ := obm h
  obtain rfl := Option.some.inj h
  have H2 := am hu2
  clear hu2 h
  go_enter Tryz.func102,Tryz.ntmps102
  go_wp2_with (first | ((refine gate_dst (N := 2) rfl ?_);(try (refine gate_guard (by rfl) ?_;dsimp only));refine box_event rfl (N := 2) rfl (cs := #[.int .i64 x.f0,.int .i64 x.f1]) (t := 48) ?hr ?_;(case hr => go_simp;try rfl);intro q hg w2 hbox hb;replace HB := (bmv HB hb);replace BKg := (kmv hb BKg);clear hg;have BKq := am hbox;clear hbox;(try clear hczg_0 hczg_1 hczg_2 hczg_3 hczg_4);obtain ⟨hczg_0,hczg_1,hczg_2,hczg_3,hczg_4⟩ := cO5 BKg.out;(try clear hczq_0 hczq_1);obtain ⟨hczq_0,hczq_1⟩ := cO2 BKq.out;clear hb) | (go_at_call 79;(with_reducible refine (ca_in.calls x.f0 0 (wrap64 ((l0_0.length : Int) - 1)) true _ H1.out).mono ?_);rintro e w1 ⟨rfl,hd⟩;have hb := hd.below;clear hd;replace HB := (bmv HB hb);replace BKg := (kmv hb BKg);replace BKq := (kmv hb BKq);(try clear hczg_0 hczg_1 hczg_2 hczg_3 hczg_4);obtain ⟨hczg_0,hczg_1,hczg_2,hczg_3,hczg_4⟩ := cO5 BKg.out;(try clear hczq_0 hczq_1);obtain ⟨hczq_0,hczq_1⟩ := cO2 BKq.out;clear hb) | (go_at_call 86;(with_reducible refine (ca_isHeight.calls x.f1 u _ H2.out).mono ?_);rintro e w1 ⟨rfl,hd⟩;have hb := hd.below;clear hd;replace HB := (bmv HB hb);replace BKg := (kmv hb BKg);replace BKq := (kmv hb BKq);(try clear hczg_0 hczg_1 hczg_2 hczg_3 hczg_4);obtain ⟨hczg_0,hczg_1,hczg_2,hczg_3,hczg_4⟩ := cO5 BKg.out;(try clear hczq_0 hczq_1);obtain ⟨hczq_0,hczq_1⟩ := cO2 BKq.out;clear hb))
  go_ret
  exact ⟨rfl,HB.out⟩
 | false =>
  rw [if_neg (by decide)] at h
  obtain rfl := Option.some.inj h
  clear h
  go_enter Tryz.func102,Tryz.ntmps102
  go_wp2_with (first | ((refine gate_dst (N := 2) rfl ?_);(try (refine gate_guard (by rfl) ?_;dsimp only));refine box_event rfl (N := 2) rfl (cs := #[.int .i64 x.f0,.int .i64 x.f1]) (t := 48) ?hr ?_;(case hr => go_simp;try rfl);intro q hg w2 hbox hb;replace HB := (bmv HB hb);replace BKg := (kmv hb BKg);clear hg;have BKq := am hbox;clear hbox;(try clear hczg_0 hczg_1 hczg_2 hczg_3 hczg_4);obtain ⟨hczg_0,hczg_1,hczg_2,hczg_3,hczg_4⟩ := cO5 BKg.out;(try clear hczq_0 hczq_1);obtain ⟨hczq_0,hczq_1⟩ := cO2 BKq.out;clear hb) | (go_at_call 79;(with_reducible refine (ca_in.calls x.f0 0 (wrap64 ((l0_0.length : Int) - 1)) false _ H1.out).mono ?_);rintro e w1 ⟨rfl,hd⟩;have hb := hd.below;clear hd;replace HB := (bmv HB hb);replace BKg := (kmv hb BKg);replace BKq := (kmv hb BKq);(try clear hczg_0 hczg_1 hczg_2 hczg_3 hczg_4);obtain ⟨hczg_0,hczg_1,hczg_2,hczg_3,hczg_4⟩ := cO5 BKg.out;(try clear hczq_0 hczq_1);obtain ⟨hczq_0,hczq_1⟩ := cO2 BKq.out;clear hb))
  go_ret
  exact ⟨rfl,HB.out⟩
def ca_isBasin.f (l0_0 : List S126) (a0_1 : Int) (l0_2 : List S48) (a0_3 a0_4 : Int) : Option Bool :=
 (nz_Check.f l0_0 a0_1).bind fun t1 => if t1 = 0 then (ca_in.f (l0_2.length : Int) 1 6).bind fun t2 => (if t2 = true then (ca_isHeight.f a0_3).bind fun t3 => (if t3 = true then (ca_in.f a0_4 0 100).bind fun t4 => (if t4 = true then (anyM (ca_isBasin_1.f l0_0) l0_2).bind fun u => some (!u) else some false) else some false) else some false) else some false
theorem ca_isBasin.calls (A0_0 : Option Addr) (c0_0 : Nat) (l0_0 : List S126) (a0_1 : Int) (A0_2 : Option Addr) (c0_2 : Nat) (l0_2 : List S48) (a0_3 a0_4 : Int) (r : Bool) (w : World) (hr0_0 : Kd.C k126 w A0_0 l0_0.length l0_0) (hc0_0 : l0_0.length ≤ c0_0) (hr0_2 : Kd.C k48 w A0_2 l0_2.length l0_2) (hc0_2 : l0_2.length ≤ c0_2) (h : ca_isBasin.f l0_0 a0_1 l0_2 a0_3 a0_4 = some r) :
 Calls Tryz.prog 64 #[.agg #[.slice A0_0 l0_0.length c0_0,.int .i64 a0_1,.slice A0_2 l0_2.length c0_2,.int .i64 a0_3,.int .i64 a0_4]] w fun e w' => e = .returned (.bool r) ∧ Below w.heap.size w w' := by
 have hu := Tryz.underlying27
 have hut := Tryz.underlying24
 have hm : l0_2.length ≤ 9223372036854775807 := Kd.C_max hr0_2
 have HR := am hr0_0
 have HC := am hc0_0
 have HR2 := am hr0_2
 have HC2 := am hc0_2
 have HB := am (Below.refl w.heap.size w)
 clear hr0_0 hc0_0 hr0_2 hc0_2
 unfold ca_isBasin.f at h
 obtain ⟨t1,ht,h⟩ := obm h
 have H1 := am ht
 clear ht
 by_cases h1 : t1 = 0
 case neg =>
  rw [if_neg h1] at h
  obtain rfl := Option.some.inj h
  clear h
  have b1 : (t1 == 0) = false := beq_eq_false_iff_ne.2 h1
  clear h1
  go_enter Tryz.func64,Tryz.ntmps64
  go_wp2_with (first | ((refine gate_dst (N := 1) rfl ?_);(try (refine gate_guard (by rfl) ?_;dsimp only));refine box_event rfl (N := 1) rfl (cs := #[.slice A0_0 l0_0.length c0_0,.int .i64 a0_1,.slice A0_2 l0_2.length c0_2,.int .i64 a0_3,.int .i64 a0_4]) (t := 27) ?hr ?_;(case hr => go_simp;try rfl);intro g hg w2 hbox hb;replace HR := (cmv HR hb);replace HR2 := (cmv HR2 hb);replace HB := (bmv HB hb);clear hg;have BKg := am hbox;clear hbox;(try clear hczg_0 hczg_1 hczg_2 hczg_3 hczg_4);obtain ⟨hczg_0,hczg_1,hczg_2,hczg_3,hczg_4⟩ := cO5 BKg.out;clear hb) | (go_at_call 103;(with_reducible refine (nz_Check.calls A0_0 c0_0 l0_0 a0_1 t1 _ HR.out HC.out H1.out).mono ?_);rintro e w1 ⟨rfl,hb⟩;replace HR := (cmv HR hb);replace HR2 := (cmv HR2 hb);replace HB := (bmv HB hb);replace BKg := (kmv hb BKg);(try clear hczg_0 hczg_1 hczg_2 hczg_3 hczg_4);obtain ⟨hczg_0,hczg_1,hczg_2,hczg_3,hczg_4⟩ := cO5 BKg.out;clear hb))
  go_ret
  exact ⟨rfl,HB.out⟩
 subst h1
 rw [if_pos rfl] at h
 obtain ⟨t2,ht,h⟩ := obm h
 have H2 := am ht
 clear ht
 cases t2 with
 | false =>
  rw [if_neg (by decide)] at h
  obtain rfl := Option.some.inj h
  clear h
  go_enter Tryz.func64,Tryz.ntmps64
  go_wp2_with (first | ((refine gate_dst (N := 1) rfl ?_);(try (refine gate_guard (by rfl) ?_;dsimp only));refine box_event rfl (N := 1) rfl (cs := #[.slice A0_0 l0_0.length c0_0,.int .i64 a0_1,.slice A0_2 l0_2.length c0_2,.int .i64 a0_3,.int .i64 a0_4]) (t := 27) ?hr ?_;(case hr => go_simp;try rfl);intro g hg w2 hbox hb;replace HR := (cmv HR hb);replace HR2 := (cmv HR2 hb);replace HB := (bmv HB hb);clear hg;have BKg := am hbox;clear hbox;(try clear hczg_0 hczg_1 hczg_2 hczg_3 hczg_4);obtain ⟨hczg_0,hczg_1,hczg_2,hczg_3,hczg_4⟩ := cO5 BKg.out;clear hb) | (go_at_call 103;(with_reducible refine (nz_Check.calls A0_0 c0_0 l0_0 a0_1 0 _ HR.out HC.out H1.out).mono ?_);rintro e w1 ⟨rfl,hb⟩;replace HR := (cmv HR hb);replace HR2 := (cmv HR2 hb);replace HB := (bmv HB hb);replace BKg := (kmv hb BKg);(try clear hczg_0 hczg_1 hczg_2 hczg_3 hczg_4);obtain ⟨hczg_0,hczg_1,hczg_2,hczg_3,hczg_4⟩ := cO5 BKg.out;clear hb) | (go_at_call 79;(with_reducible refine (ca_in.calls (l0_2.length : Int) 1 6 false _ H2.out).mono ?_);rintro e w1 ⟨rfl,hd⟩;have hb := hd.below;clear hd;replace HR := (cmv HR hb);replace HR2 := (cmv HR2 hb);replace HB := (bmv HB hb);replace BKg := (kmv hb BKg);(try clear hczg_0 hczg_1 hczg_2 hczg_3 hczg_4);obtain ⟨hczg_0,hczg_1,hczg_2,hczg_3,hczg_4⟩ := cO5 BKg.out;clear hb))
  go_ret
  exact ⟨rfl,HB.out⟩
 | true =>
  rw [if_pos rfl] at h
  obtain ⟨t3,ht,h⟩ := obm h
  have H3 := am ht
  clear ht
  cases t3 with
  | false =>
   rw [if_neg (by decide)] at h
   obtain rfl := Option.some.inj h
   clear h
   go_enter Tryz.func64,Tryz.ntmps64
   go_wp2_with (first | ((refine gate_dst (N := 1) rfl ?_);(try (refine gate_guard (by rfl) ?_;dsimp only));refine box_event rfl (N := 1) rfl (cs := #[.slice A0_0 l0_0.length c0_0,.int .i64 a0_1,.slice A0_2 l0_2.length c0_2,.int .i64 a0_3,.int .i64 a0_4]) (t := 27) ?hr ?_;(case hr => go_simp;try rfl);intro g hg w2 hbox hb;replace HR := (cmv HR hb);replace HR2 := (cmv HR2 hb);replace HB := (bmv HB hb);clear hg;have BKg := am hbox;clear hbox;(try clear hczg_0 hczg_1 hczg_2 hczg_3 hczg_4);obtain ⟨hczg_0,hczg_1,hczg_2,hczg_3,hczg_4⟩ := cO5 BKg.out;clear hb) | (go_at_call 103;(with_reducible refine (nz_Check.calls A0_0 c0_0 l0_0 a0_1 0 _ HR.out HC.out H1.out).mono ?_);rintro e w1 ⟨rfl,hb⟩;replace HR := (cmv HR hb);replace HR2 := (cmv HR2 hb);replace HB := (bmv HB hb);replace BKg := (kmv hb BKg);(try clear hczg_0 hczg_1 hczg_2 hczg_3 hczg_4);obtain ⟨hczg_0,hczg_1,hczg_2,hczg_3,hczg_4⟩ := cO5 BKg.out;clear hb) | (go_at_call 79;(with_reducible refine (ca_in.calls (l0_2.length : Int) 1 6 true _ H2.out).mono ?_);rintro e w1 ⟨rfl,hd⟩;have hb := hd.below;clear hd;replace HR := (cmv HR hb);replace HR2 := (cmv HR2 hb);replace HB := (bmv HB hb);replace BKg := (kmv hb BKg);(try clear hczg_0 hczg_1 hczg_2 hczg_3 hczg_4);obtain ⟨hczg_0,hczg_1,hczg_2,hczg_3,hczg_4⟩ := cO5 BKg.out;clear hb) | (go_at_call 86;(with_reducible refine (ca_isHeight.calls a0_3 false _ H3.out).mono ?_);rintro e w1 ⟨rfl,hd⟩;have hb := hd.below;clear hd;replace HR := (cmv HR hb);replace HR2 := (cmv HR2 hb);replace HB := (bmv HB hb);replace BKg := (kmv hb BKg);(try clear hczg_0 hczg_1 hczg_2 hczg_3 hczg_4);obtain ⟨hczg_0,hczg_1,hczg_2,hczg_3,hczg_4⟩ := cO5 BKg.out;clear hb))
   go_ret
   exact ⟨rfl,HB.out⟩
  | true =>
   rw [if_pos rfl] at h
   obtain ⟨t4,ht,h⟩ := obm h
   have H4 := am ht
   clear ht
   cases t4 with
   | false =>
    rw [if_neg (by decide)] at h
    obtain rfl := Option.some.inj h
    clear h
    go_enter Tryz.func64,Tryz.ntmps64
    go_wp2_with (first | ((refine gate_dst (N := 1) rfl ?_);(try (refine gate_guard (by rfl) ?_;dsimp only));refine box_event rfl (N := 1) rfl (cs := #[.slice A0_0 l0_0.length c0_0,.int .i64 a0_1,.slice A0_2 l0_2.length c0_2,.int .i64 a0_3,.int .i64 a0_4]) (t := 27) ?hr ?_;(case hr => go_simp;try rfl);intro g hg w2 hbox hb;replace HR := (cmv HR hb);replace HR2 := (cmv HR2 hb);replace HB := (bmv HB hb);clear hg;have BKg := am hbox;clear hbox;(try clear hczg_0 hczg_1 hczg_2 hczg_3 hczg_4);obtain ⟨hczg_0,hczg_1,hczg_2,hczg_3,hczg_4⟩ := cO5 BKg.out;clear hb) | (go_at_call 103;(with_reducible refine (nz_Check.calls A0_0 c0_0 l0_0 a0_1 0 _ HR.out HC.out H1.out).mono ?_);rintro e w1 ⟨rfl,hb⟩;replace HR := (cmv HR hb);replace HR2 := (cmv HR2 hb);replace HB := (bmv HB hb);replace BKg := (kmv hb BKg);(try clear hczg_0 hczg_1 hczg_2 hczg_3 hczg_4);obtain ⟨hczg_0,hczg_1,hczg_2,hczg_3,hczg_4⟩ := cO5 BKg.out;clear hb) | (go_at_call 79;(with_reducible refine (ca_in.calls (l0_2.length : Int) 1 6 true _ H2.out).mono ?_);rintro e w1 ⟨rfl,hd⟩;have hb := hd.below;clear hd;replace HR := (cmv HR hb);replace HR2 := (cmv HR2 hb);replace HB := (bmv HB hb);replace BKg := (kmv hb BKg);(try clear hczg_0 hczg_1 hczg_2 hczg_3 hczg_4);obtain ⟨hczg_0,hczg_1,hczg_2,hczg_3,hczg_4⟩ := cO5 BKg.out;clear hb) | (go_at_call 86;(with_reducible refine (ca_isHeight.calls a0_3 true _ H3.out).mono ?_);rintro e w1 ⟨rfl,hd⟩;have hb := hd.below;clear hd;replace HR := (cmv HR hb);replace HR2 := (cmv HR2 hb);replace HB := (bmv HB hb);replace BKg := (kmv hb BKg);(try clear hczg_0 hczg_1 hczg_2 hczg_3 hczg_4);obtain ⟨hczg_0,hczg_1,hczg_2,hczg_3,hczg_4⟩ := cO5 BKg.out;clear hb) | (go_at_call 79;(with_reducible refine (ca_in.calls a0_4 0 100 false _ H4.out).mono ?_);rintro e w1 ⟨rfl,hd⟩;have hb := hd.below;clear hd;replace HR := (cmv HR hb);replace HR2 := (cmv HR2 hb);replace HB := (bmv HB hb);replace BKg := (kmv hb BKg);(try clear hczg_0 hczg_1 hczg_2 hczg_3 hczg_4);obtain ⟨hczg_0,hczg_1,hczg_2,hczg_3,hczg_4⟩ := cO5 BKg.out;clear hb))
    go_ret
    exact ⟨rfl,HB.out⟩
   | true =>
    rw [if_pos rfl] at h
    obtain ⟨u,ht,h⟩ := obm h
    obtain rfl := Option.some.inj h
    have H5 := am ht
    clear ht h
    go_enter Tryz.func64,Tryz.ntmps64
    go_wp2_with (first | ((refine gate_dst (N := 1) rfl ?_);(try (refine gate_guard (by rfl) ?_;dsimp only));refine box_event rfl (N := 1) rfl (cs := #[.slice A0_0 l0_0.length c0_0,.int .i64 a0_1,.slice A0_2 l0_2.length c0_2,.int .i64 a0_3,.int .i64 a0_4]) (t := 27) ?hr ?_;(case hr => go_simp;try rfl);intro g hg w2 hbox hb;replace HR := (cmv HR hb);replace HR2 := (cmv HR2 hb);replace HB := (bmv HB hb);clear hg;have BKg := am hbox;clear hbox;(try clear hczg_0 hczg_1 hczg_2 hczg_3 hczg_4);obtain ⟨hczg_0,hczg_1,hczg_2,hczg_3,hczg_4⟩ := cO5 BKg.out;clear hb) | (go_at_call 103;(with_reducible refine (nz_Check.calls A0_0 c0_0 l0_0 a0_1 0 _ HR.out HC.out H1.out).mono ?_);rintro e w1 ⟨rfl,hb⟩;replace HR := (cmv HR hb);replace HR2 := (cmv HR2 hb);replace HB := (bmv HB hb);replace BKg := (kmv hb BKg);(try clear hczg_0 hczg_1 hczg_2 hczg_3 hczg_4);obtain ⟨hczg_0,hczg_1,hczg_2,hczg_3,hczg_4⟩ := cO5 BKg.out;clear hb) | (go_at_call 79;(with_reducible refine (ca_in.calls (l0_2.length : Int) 1 6 true _ H2.out).mono ?_);rintro e w1 ⟨rfl,hd⟩;have hb := hd.below;clear hd;replace HR := (cmv HR hb);replace HR2 := (cmv HR2 hb);replace HB := (bmv HB hb);replace BKg := (kmv hb BKg);(try clear hczg_0 hczg_1 hczg_2 hczg_3 hczg_4);obtain ⟨hczg_0,hczg_1,hczg_2,hczg_3,hczg_4⟩ := cO5 BKg.out;clear hb) | (go_at_call 86;(with_reducible refine (ca_isHeight.calls a0_3 true _ H3.out).mono ?_);rintro e w1 ⟨rfl,hd⟩;have hb := hd.below;clear hd;replace HR := (cmv HR hb);replace HR2 := (cmv HR2 hb);replace HB := (bmv HB hb);replace BKg := (kmv hb BKg);(try clear hczg_0 hczg_1 hczg_2 hczg_3 hczg_4);obtain ⟨hczg_0,hczg_1,hczg_2,hczg_3,hczg_4⟩ := cO5 BKg.out;clear hb) | (go_at_call 79;(with_reducible refine (ca_in.calls a0_4 0 100 true _ H4.out).mono ?_);rintro e w1 ⟨rfl,hd⟩;have hb := hd.below;clear hd;replace HR := (cmv HR hb);replace HR2 := (cmv HR2 hb);replace HB := (bmv HB hb);replace BKg := (kmv hb BKg);(try clear hczg_0 hczg_1 hczg_2 hczg_3 hczg_4);obtain ⟨hczg_0,hczg_1,hczg_2,hczg_3,hczg_4⟩ := cO5 BKg.out;clear hb) | (go_at_call 104;refine (any_isBasin g (ca_isBasin_1.f l0_0) A0_2 c0_2 l0_2 u _ HR2.out (fun x b W hx hq hb => ca_isBasin_1.calls g A0_0 c0_0 l0_0 a0_1 A0_2 c0_2 l0_2 a0_3 a0_4 x b W (blk_below BKg.out hb) hq) H5.out).mono ?_;rintro e w1 ⟨rfl,hb⟩;replace HR := (cmv HR hb);replace HR2 := (cmv HR2 hb);replace HB := (bmv HB hb);replace BKg := (kmv hb BKg);(try clear hczg_0 hczg_1 hczg_2 hczg_3 hczg_4);obtain ⟨hczg_0,hczg_1,hczg_2,hczg_3,hczg_4⟩ := cO5 BKg.out;clear hb))
    go_ret
    exact ⟨rfl,HB.out⟩
section
attribute [local go_sem] max2_int min2_int max_two min_two
def q1_Same.l0 : Nat → List Int → List Int → Int → Option (Bool)
 | 0,_,_,_ => none
 | k + 1,x0,x1,x5 => if x5 < (x0.length : Int) then (if 0 ≤ x5 then (if x5 < (x1.length : Int) then (if (rd x0 x5) = (rd x1 x5) then (q1_Same.l0 k x0 x1 (wrap64 (x5 + 1))) else (some false)) else (none)) else (none)) else (some true)
def q1_Same.f (k : Nat) (l0 : List Int) (l1 : List Int) : Option (Bool) := if (l0.length : Int) = (l1.length : Int) then (q1_Same.l0 k l0 l1 0) else (some false)
theorem q1_Same.calls (k : Nat) (A0 : Option Addr) (c0 : Nat) (l0 : List Int) (A1 : Option Addr) (c1 : Nat) (l1 : List Int) (r : Bool) (w : World) (hr0 : Kd.C (Kd.int .i64) w A0 l0.length l0) (hc0 : l0.length ≤ c0) (hr1 : Kd.C (Kd.int .i64) w A1 l1.length l1) (hc1 : l1.length ≤ c1) (h : q1_Same.f k l0 l1 = some r) :
 Calls Tryz.prog 88 #[.slice A0 l0.length c0,.slice A1 l1.length c1] w fun e w' => e = .returned (.bool r) ∧ Drawn0 w w' := by
 have HR0 := am hr0
 have HC0 := am hc0
 clear hr0 hc0
 have HR1 := am hr1
 have HC1 := am hc1
 clear hr1 hc1
 have H : (if (l0.length : Int) = (l1.length : Int) then (q1_Same.l0 k l0 l1 0) else (some false)) = some r := h
 clear h
 by_cases c3 : (l0.length : Int) = (l1.length : Int)
 case neg =>
  rw [if_neg c3] at H
  have c3b0 : ((l0.length : Int) == (l1.length : Int)) = false := beq_eq_false_iff_ne.mpr c3
  have c3b1 : ((l0.length : Int) != (l1.length : Int)) = true := bne_iff_ne.mpr c3
  have c3b2 : (l0.length == l1.length) = false := by first | simpa using c3 | (simp at c3 ⊢;omega)
  obtain rfl := Option.some.inj H
  go_enter Tryz.func88,Tryz.ntmps88
  go_wp2
  repeat (go_quiet (fail);try go_wp2)
  go_ret
  exact ⟨by first | rfl | (simp;done) | (simp [*];done),by repeat (first | exact Drawn0.refl _ | apply Drawn0.step)⟩
 rw [if_pos c3] at H
 have c3b0 : ((l0.length : Int) == (l1.length : Int)) = true := beq_iff_eq.mpr c3
 have c3b1 : ((l0.length : Int) != (l1.length : Int)) = false := bne_eq_false_iff_eq.mpr c3
 have c3b2 : (l0.length == l1.length) = true := by first | simpa using c3 | (simp at c3 ⊢;omega)
 clear c3
 replace H' := am H
 go_enter Tryz.func88,Tryz.ntmps88
 go_wp2
 repeat (go_quiet (fail);try go_wp2)
 go_loopg [5] k (fun kq v5 w' => ∃ (x5_1 : Int),v5 = .int .i64 x5_1 ∧ Aside0 (q1_Same.l0 kq l0 l1 x5_1 = some r) ∧ Aside0 (kq ≤ k) ∧ Drawn0 w w')
 case atStart => exact ⟨(0),(by first | rfl | (simp;done) | (simp [*];done)),H',⟨Nat.le_refl _⟩,by repeat (first | exact Drawn0.refl _ | apply Drawn0.step)⟩
 case round =>
  clear H'
  obtain ⟨x5_1,rfl,HA,HK1,⟨m1,rfl⟩⟩ := hrel
  cases gk with
  | zero => exact absurd HA.out (by simp [q1_Same.l0])
  | succ k1 =>
   have H := HA.out
   clear HA
   simp only [q1_Same.l0] at H
   by_cases c4 : x5_1 < (l0.length : Int)
   case neg =>
    rw [if_neg c4] at H
    have c4b0 : decide (x5_1 < (l0.length : Int)) = false := decide_eq_false c4
    clear c4
    obtain rfl := Option.some.inj H
    go_wp2
    repeat (go_quiet (fail);try go_wp2)
    go_ret
    exact ⟨by first | rfl | (simp;done) | (simp [*];done),by repeat (first | exact Drawn0.refl _ | apply Drawn0.step)⟩
   rw [if_pos c4] at H
   have c4b0 : decide (x5_1 < (l0.length : Int)) = true := decide_eq_true c4
   clear c4
   by_cases c5 : 0 ≤ x5_1
   case neg =>
    rw [if_neg c5] at H
    exact absurd H (by simp)
   rw [if_pos c5] at H
   have c5b0 : decide (0 ≤ x5_1) = true := decide_eq_true c5
   clear c5
   by_cases c6 : x5_1 < (l1.length : Int)
   case neg =>
    rw [if_neg c6] at H
    exact absurd H (by simp)
   rw [if_pos c6] at H
   have c6b0 : decide (x5_1 < (l1.length : Int)) = true := decide_eq_true c6
   clear c6
   by_cases c7 : (rd l0 x5_1) = (rd l1 x5_1)
   case neg =>
    rw [if_neg c7] at H
    have c7b0 : ((rd l0 x5_1) == (rd l1 x5_1)) = false := beq_eq_false_iff_ne.mpr c7
    have c7b1 : ((rd l0 x5_1) != (rd l1 x5_1)) = true := bne_iff_ne.mpr c7
    obtain rfl := Option.some.inj H
    have p360 : 0 ≤ (x5_1 : Int) := of_decide_eq_true (by assumption)
    have q360 : x5_1 < (l0.length : Int) := of_decide_eq_true (by assumption)
    obtain ⟨ad360,e360,hx360_0⟩ := Kd.at_int HR0.out x5_1 p360 q360
    cases e360
    replace p360 := eq_true p360
    replace q360 := eq_true q360
    have p361 : 0 ≤ (x5_1 : Int) := of_decide_eq_true (by assumption)
    have q361 : x5_1 < (l1.length : Int) := of_decide_eq_true (by assumption)
    obtain ⟨ad361,e361,hx361_0⟩ := Kd.at_int HR1.out x5_1 p361 q361
    cases e361
    replace p361 := eq_true p361
    replace q361 := eq_true q361
    go_wp2
    repeat (go_quiet (fail);try go_wp2)
    go_ret
    exact ⟨by first | rfl | (simp;done) | (simp [*];done),by repeat (first | exact Drawn0.refl _ | apply Drawn0.step)⟩
   rw [if_pos c7] at H
   have c7b0 : ((rd l0 x5_1) == (rd l1 x5_1)) = true := beq_iff_eq.mpr c7
   have c7b1 : ((rd l0 x5_1) != (rd l1 x5_1)) = false := bne_eq_false_iff_eq.mpr c7
   clear c7
   replace H' := am H
   have p360 : 0 ≤ (x5_1 : Int) := of_decide_eq_true (by assumption)
   have q360 : x5_1 < (l0.length : Int) := of_decide_eq_true (by assumption)
   obtain ⟨ad360,e360,hx360_0⟩ := Kd.at_int HR0.out x5_1 p360 q360
   cases e360
   replace p360 := eq_true p360
   replace q360 := eq_true q360
   have p361 : 0 ≤ (x5_1 : Int) := of_decide_eq_true (by assumption)
   have q361 : x5_1 < (l1.length : Int) := of_decide_eq_true (by assumption)
   obtain ⟨ad361,e361,hx361_0⟩ := Kd.at_int HR1.out x5_1 p361 q361
   cases e361
   replace p361 := eq_true p361
   replace q361 := eq_true q361
   go_wp2
   repeat (go_quiet (fail);try go_wp2)
   go_roundg k1
   case measure => have := HK1.out;omega
   case rel => exact ⟨(wrap64 (x5_1 + 1)),(by first | rfl | (simp;done) | (simp [*];done)),H',⟨by have := HK1.out;omega⟩,by repeat (first | exact Drawn0.refl _ | apply Drawn0.step)⟩
def q4_Same.f (k : Nat) (l0 : List Int) (l1 : List Int) : Option (Bool) := (q1_Same.f k l0 l1).bind fun t362 => (some t362)
theorem q4_Same.calls (k : Nat) (A0 : Option Addr) (c0 : Nat) (l0 : List Int) (A1 : Option Addr) (c1 : Nat) (l1 : List Int) (r : Bool) (w : World) (hr0 : Kd.C (Kd.int .i64) w A0 l0.length l0) (hc0 : l0.length ≤ c0) (hr1 : Kd.C (Kd.int .i64) w A1 l1.length l1) (hc1 : l1.length ≤ c1) (h : q4_Same.f k l0 l1 = some r) :
 Calls Tryz.prog 45 #[.slice A0 l0.length c0,.slice A1 l1.length c1] w fun e w' => e = .returned (.bool r) ∧ Drawn0 w w' := by
 have HR0 := am hr0
 have HC0 := am hc0
 clear hr0 hc0
 have HR1 := am hr1
 have HC1 := am hc1
 clear hr1 hc1
 have H : ((q1_Same.f k l0 l1).bind fun t362 => (some t362)) = some r := h
 clear h
 replace H := obm H
 obtain ⟨t362,A30,H⟩ := H
 replace H : (some t362) = some r := H
 have A3 := am A30
 clear A30
 obtain rfl := Option.some.inj H
 go_enter Tryz.func45,Tryz.ntmps45
 go_wp2_with (first | ((with_reducible refine gate_callee (f := 88) rfl ?_);refine goesL_ (some 7) rfl rfl Tryz.func88 (by kernel_rfl) rfl #[.slice A0 l0.length c0,.slice A1 l1.length c1] rfl (by (try simp only [List.map_toArray,List.map_cons,List.map_nil]);first | done | rfl | (simp only [List.length_drop,List.length_take];rfl)) ?_;(refine (q1_Same.calls k _ _ l0 _ _ l1 t362 _ ?side1 ?side2 ?side3 ?side4 A3.out).mono ?_);(case side1 => repeat (first | exact HR0.out | (with_reducible refine Kd.C_alloc ?_ _) | (with_reducible refine Kd.C_drewN ?_ _) | (with_reducible refine Kd.C_drew ?_)));(case side2 => exact HC0.out);(case side3 => repeat (first | exact HR1.out | (with_reducible refine Kd.C_alloc ?_ _) | (with_reducible refine Kd.C_drewN ?_ _) | (with_reducible refine Kd.C_drew ?_)));(case side4 => exact HC1.out);rintro e w' ⟨rfl,⟨nd,rfl⟩⟩;refine ⟨_,rfl,?_⟩))
 go_ret
 exact ⟨by first | rfl | (simp;done) | (simp [*];done),by repeat (first | exact Drawn0.refl _ | apply Drawn0.step)⟩
def q4_Out.l0 : Nat → Int → List Int → Int → List (S126) → Int → List (S48) → Int → Int → Option (List Int × Int)
 | 0,_,_,_,_,_,_,_,_ => none
 | k + 1,x1,x6,x7,x497000,x497001,x497002,x497003,x497004 => if x7 < (x497002.length : Int) then (if 0 ≤ x7 then (if 0 ≤ ((rd_T48 x497002 x7).f0) then (if ((rd_T48 x497002 x7).f0) < (x497000.length : Int) then (if x6.length < 17592186044416 then (q4_Out.l0 k x1 (x6 ++ [wrap64 (Int.tdiv (wrap64 (((rd_T126 x497000 ((rd_T48 x497002 x7).f0)).f2) * (mn 5 (mx 0 (wrap64 (x1 - ((rd_T48 x497002 x7).f1))))))) 5)]) (wrap64 (x7 + 1)) x497000 x497001 x497002 x497003 x497004) else (none)) else (none)) else (none)) else (none)) else (some (x6,wrap64 (x497004 * (mx 0 (wrap64 (x1 - x497003))))))
def q4_Out.f (k : Nat) (l0_0 : List (S126)) (a0_1 : Int) (l0_2 : List (S48)) (a0_3 : Int) (a0_4 : Int) (a1 : Int) : Option (List Int × Int) := q4_Out.l0 k a1 ([] : List Int) 0 l0_0 a0_1 l0_2 a0_3 a0_4
def q4_Out.T6 : Bool × List (List Nat × List Nat) := (true,[([],[]),([],[]),([1],[1]),([2],[2]),([],[]),([4],[4]),([3,5],[3,5]),([6],[6]),([7],[7]),([],[]),([],[]),([10],[10]),([9,11],[9,11]),([12],[12]),([13],[13]),([8,14],[8,14]),([15],[15]),([16],[16]),([0,17],[0,17]),([18,18,0,1,2,3,4,5,6,7,8,9,10,11,12,13,14,15,16,17,18],[0,18])])
def q4_Out.B6 : List Nat := [0,0,2,6,0,16,62,126,254,0,0,1024,3584,7680,15872,32766,65534,131070,262143,524287]
theorem q4_Out.tab6 : rtab .any (opsOf Tryz.f44 6) = q4_Out.T6 := by kernel_rfl
theorem q4_Out.bits6 : waitsOk q4_Out.T6.2 q4_Out.B6 = true := by kernel_rfl
def q4_Out.T7 : Bool × List (List Nat × List Nat) := (true,[([],[]),([],[]),([1],[1]),([],[]),([],[]),([4],[4]),([3,5],[3,5]),([6],[6]),([2,7],[2,7]),([0,0],[0]),([8,9,0,1,2,3,4,5,6,7,8,9],[8])])
def q4_Out.B7 : List Nat := [0,0,2,0,0,16,56,120,254,1,1023]
theorem q4_Out.tab7 : rtab .any (opsOf Tryz.f44 7) = q4_Out.T7 := by kernel_rfl
theorem q4_Out.bits7 : waitsOk q4_Out.T7.2 q4_Out.B7 = true := by kernel_rfl
theorem q4_Out.calls (k : Nat) (A0_0 : Option Addr) (c0_0 : Nat) (l0_0 : List (S126)) (a0_1 : Int) (A0_2 : Option Addr) (c0_2 : Nat) (l0_2 : List (S48)) (a0_3 : Int) (a0_4 : Int) (a1 : Int) (r1 : List Int) (r2 : Int) (w : World) (hr0_0 : Kd.C k126 w A0_0 l0_0.length l0_0) (hc0_0 : l0_0.length ≤ c0_0) (hr0_2 : Kd.C k48 w A0_2 l0_2.length l0_2) (hc0_2 : l0_2.length ≤ c0_2) (h : q4_Out.f k l0_0 a0_1 l0_2 a0_3 a0_4 a1 = some (r1,r2)) :
 Calls Tryz.prog 44 #[.agg #[.slice A0_0 l0_0.length c0_0,.int .i64 a0_1,.slice A0_2 l0_2.length c0_2,.int .i64 a0_3,.int .i64 a0_4],.int .i64 a1] w fun e w' => ∃ v0_ : Value,e = .returned (.tuple #[v0_,.int .i64 r2]) ∧ Kd.R (Kd.int .i64) 3 w' w.heap.size (fun _ => True) v0_ r1 ∧ Below w.heap.size w w' := by
 have hu27 := Tryz.underlying27
 have hu48 := Tryz.underlying48
 have HR0_0 := am hr0_0
 have HC0_0 := am hc0_0
 clear hr0_0 hc0_0
 have HR0_2 := am hr0_2
 have HC0_2 := am hc0_2
 clear hr0_2 hc0_2
 have HB := am (Below.refl w.heap.size w)
 have H : (q4_Out.l0 k a1 ([] : List Int) 0 l0_0 a0_1 l0_2 a0_3 a0_4) = some (r1,r2) := h
 clear h
 replace H' := am H
 go_enter Tryz.func44,Tryz.ntmps44
 go_wp2_with (first | ((refine gate_dst (N := 2) rfl ?_);refine box_event rfl (N := 2) rfl (cs := #[.slice A0_0 l0_0.length c0_0,.int .i64 a0_1,.slice A0_2 l0_2.length c0_2,.int .i64 a0_3,.int .i64 a0_4]) (t := 27) ?hr ?_;(case hr => go_simp;try rfl);intro gb496 hg w3 hbox hb;have BK496 := am (hbox);have GW496 := am (ge_new (HB.out) hg);have GE496 := am (ge_new (HB.out) hg);replace HB := am (below_step (HB.out) hb);clear hb hbox hg))
 go_loopg [6,7] k (fun kq v6 v7 w' => ∃ (x6_1 : List Int) (x7_1 : Int),v7 = .int .i64 x7_1 ∧ Aside0 (q4_Out.l0 kq a1 x6_1 x7_1 l0_0 a0_1 l0_2 a0_3 a0_4 = some (r1,r2)) ∧ Aside0 (kq ≤ k) ∧ Aside0 (Kd.R (Kd.int .i64) 3 w' w.heap.size (fun _ => True) v6 x6_1) ∧ Aside0 (w'.heap[gb496]? = some (.cells #[(.slice A0_0 l0_0.length c0_0),.int .i64 a0_1,(.slice A0_2 l0_2.length c0_2),.int .i64 a0_3,.int .i64 a0_4] 27 (0,0))) ∧ Aside0 (Below w.heap.size w w'))
 case atStart => exact ⟨(([] : List Int)),(0),(by first | rfl | (simp;done) | (simp [*];done)),H',⟨Nat.le_refl _⟩,⟨by first | exact Kd.R_nil _ _ _ _ _ | exact Kd.N_nil _ _ _ _ _ | exact Kd.V_nil _ _ _ _ _ | exact Kd.Q_nil _ _ _ _ _ | exact Kd.S_nil _ _ _ _ _⟩,⟨BK496.out⟩,⟨HB.out⟩⟩
 case round =>
  clear H'
  obtain ⟨x6_1,x7_1,rfl,HA,HK1,HO_6,BK496,HB⟩ := hrel
  cases gk with
  | zero => exact absurd HA.out (by simp [q4_Out.l0])
  | succ k1 =>
   have H := HA.out
   clear HA
   simp only [q4_Out.l0] at H
   by_cases c4 : x7_1 < (l0_2.length : Int)
   case neg =>
    rw [if_neg c4] at H
    have c4b0 : decide (x7_1 < (l0_2.length : Int)) = false := decide_eq_false c4
    clear c4
    obtain ⟨ji18,hji18⟩ : ∃ j_ : Int,(mx 0 (wrap64 (a1 - a0_3))) = j_ := ⟨_,rfl⟩
    replace H : (some (x6_1,wrap64 (a0_4 * (ji18)))) = some (r1,r2) := by first | (rw [hji18] at H;exact H) | (simp only [hji18] at H ⊢;exact H)
    (try (have hji18l : 0 ≤ ji18 := by (rw [← hji18];unfold mx;(repeat' split) <;> omega)))
    (try (have hji18m : 0 ≤ ji18 := by omega))
    have hji18_ : (if 0 < (wrap64 (a1 - a0_3)) then (wrap64 (a1 - a0_3)) else 0) = ji18 := hji18
    simp only [Option.some.injEq,Prod.mk.injEq] at H
    obtain ⟨rfl,rfl⟩ := H
    obtain ⟨hcz19_0,hcz19_1,hcz19_2,hcz19_3,hcz19_4⟩ := cO5 BK496.out
    try go_wp2
    replace HO_6 := am (Kd.R_drew HO_6.out)
    replace BK496 := am (blk_drew BK496.out)
    replace HB := am (below_drew1 HB.out)
    refine start_ (n := 11) (S := fun w' => w'.cell? ⟨gb496,0,none⟩ = some (.slice A0_0 l0_0.length c0_0) ∧ w'.cell? ⟨gb496,1,none⟩ = some (.int .i64 a0_1) ∧ w'.cell? ⟨gb496,2,none⟩ = some (.slice A0_2 l0_2.length c0_2) ∧ w'.cell? ⟨gb496,3,none⟩ = some (.int .i64 a0_3) ∧ w'.cell? ⟨gb496,4,none⟩ = some (.int .i64 a0_4)) (ds := []) (ba 11 0) (by kernel_rfl) rfl rfl ⟨(blk_cell BK496.out 0).trans rfl,(blk_cell BK496.out 1).trans rfl,(blk_cell BK496.out 2).trans rfl,(blk_cell BK496.out 3).trans rfl,(blk_cell BK496.out 4).trans rfl⟩ (fun hHeld => ?_);refine with_tabW q4_Out.tab7 q4_Out.bits7 (fun HT_ HW_ => ?_)
    generalize wr.drew = w20 at HO_6 BK496 HB hHeld ⊢
    refine pure_ (i := 0) (N := some 40) (v := ?_) (a' := ?_) (ba 11 1) rfl rfl (any_of HT_.out (by kernel_rfl)) (fun _ _ _ h => h) (Or.inl ⟨by rfl,?_⟩) ?_ ?_
    rotate_left
    · intro w'
      go_simp
      with_reducible rfl
    rotate_left
    · simp only [Act.put,NRM]
      rfl
    refine pure_ (i := 1) (N := some 41) (v := ?_) (a' := ?_) (ba 11 3) rfl rfl (any_of HT_.out (by kernel_rfl)) (fun _ _ _ h => h) (Or.inl ⟨by rfl,?_⟩) ?_ ?_
    rotate_left
    · intro w'
      go_simp
      with_reducible rfl
    rotate_left
    · simp only [Act.put,NRM]
      rfl
    refine pure_ (i := 3) (N := some 43) (v := ?_) (a' := ?_) (ba 11 11) rfl rfl (any_of HT_.out (by kernel_rfl)) (fun _ _ _ h => h) (Or.inl ⟨by rfl,?_⟩) ?_ ?_
    rotate_left
    · intro w'
      go_simp
      with_reducible rfl
    rotate_left
    · simp only [Act.put,NRM]
      rfl
    refine pure_ (i := 4) (N := some 44) (v := ?_) (a' := ?_) (ba 11 27) rfl rfl (any_of HT_.out (by kernel_rfl)) (fun _ _ _ h => h) (Or.inl ⟨by rfl,?_⟩) ?_ ?_
    rotate_left
    · intro w'
      go_simp
      with_reducible rfl
    rotate_left
    · simp only [Act.put,NRM]
      rfl
    refine pure_ (i := 9) (N := some 4) (v := ?_) (a' := ?_) (ba 11 539) rfl rfl (any_of HT_.out (by kernel_rfl)) (fun _ _ _ h => h) (Or.inl ⟨by rfl,?_⟩) ?_ ?_
    rotate_left
    · intro w'
      go_simp
      with_reducible rfl
    rotate_left
    · simp only [Act.put,NRM]
      rfl
    refine take_ (i := 2) (N := some 42) (v := ?_) (a' := ?_) (ba 11 543) rfl rfl (take_ofW HT_.out HW_.out (by kernel_rfl)) (fun _ _ _ h => h) (Or.inl ⟨by rfl,?_⟩) hHeld ?_ ?_
    rotate_left
    · rintro w' ⟨s0,s1,s2,s3,s4⟩
      go_simp
      with_reducible rfl
    rotate_left
    · simp only [Act.put,NRM]
      rfl
    refine take_ (i := 5) (N := some 45) (v := ?_) (a' := ?_) (ba 11 575) rfl rfl (take_ofW HT_.out HW_.out (by kernel_rfl)) (fun _ _ _ h => h) (Or.inl ⟨by rfl,?_⟩) hHeld ?_ ?_
    rotate_left
    · rintro w' ⟨s0,s1,s2,s3,s4⟩
      go_simp
      with_reducible rfl
    rotate_left
    · simp only [Act.put,NRM]
      rfl
    refine pure_ (i := 6) (N := some 46) (v := ?_) (a' := ?_) (ba 11 639) rfl rfl (any_of HT_.out (by kernel_rfl)) (fun _ _ _ h => h) (Or.inl ⟨by rfl,?_⟩) ?_ ?_
    rotate_left
    · intro w'
      go_simp
      with_reducible rfl
    rotate_left
    · simp only [Act.put,NRM]
      rfl
    refine pure_ (i := 7) (N := some 47) (v := ?_) (a' := ?_) (ba 11 767) rfl rfl (any_of HT_.out (by kernel_rfl)) (fun _ _ _ h => h) (Or.inl ⟨by rfl,?_⟩) ?_ ?_
    rotate_left
    · intro w'
      go_simp
      with_reducible rfl
    rotate_left
    · simp only [Act.put,NRM]
      rfl
    refine pure_ (i := 8) (N := some 48) (v := ?_) (a' := ?_) (ba 11 1023) rfl rfl (any_of HT_.out (by kernel_rfl)) (fun _ _ _ h => h) (Or.inl ⟨by rfl,?_⟩) ?_ ?_
    rotate_left
    · intro w'
      go_simp
      with_reducible rfl
    rotate_left
    · simp only [Act.put,NRM]
      rfl
    refine pure_ (i := 10) (N := some 5) (v := ?_) (a' := ?_) (ba 11 2047) rfl rfl (any_of HT_.out (by kernel_rfl)) (fun _ _ _ h => h) (Or.inl ⟨by rfl,?_⟩) ?_ ?_
    rotate_left
    · intro w'
      go_simp
      with_reducible rfl
    rotate_left
    · simp only [Act.put,NRM]
      rfl
    refine done_ (done_of HT_.out (by kernel_rfl)) ?_
    try go_wp2
    go_ret2
    exact ⟨_,by first | rfl | (simp [errW_none,errW_some] <;> rfl) | (simp only [← hji18];first | rfl | (simp [errW_none,errW_some] <;> rfl)) | (simp [*,errW_none,errW_some] <;> rfl),by (with_reducible repeat (first | apply Kd.R_alloc | apply Kd.R_drewN | apply Kd.R_drew));exact HO_6.out,HB.out⟩
   rw [if_pos c4] at H
   have c4b0 : decide (x7_1 < (l0_2.length : Int)) = true := decide_eq_true c4
   clear c4
   by_cases c5 : 0 ≤ x7_1
   case neg =>
    rw [if_neg c5] at H
    exact absurd H (by simp)
   rw [if_pos c5] at H
   have c5b0 : decide (0 ≤ x7_1) = true := decide_eq_true c5
   clear c5
   by_cases c6 : 0 ≤ ((rd_T48 l0_2 x7_1).f0)
   case neg =>
    rw [if_neg c6] at H
    exact absurd H (by simp)
   rw [if_pos c6] at H
   have c6b0 : decide (0 ≤ ((rd_T48 l0_2 x7_1).f0)) = true := decide_eq_true c6
   clear c6
   by_cases c7 : ((rd_T48 l0_2 x7_1).f0) < (l0_0.length : Int)
   case neg =>
    rw [if_neg c7] at H
    exact absurd H (by simp)
   rw [if_pos c7] at H
   have c7b0 : decide (((rd_T48 l0_2 x7_1).f0) < (l0_0.length : Int)) = true := decide_eq_true c7
   clear c7
   obtain ⟨ji8,hji8⟩ : ∃ j_ : Int,(mx 0 (wrap64 (a1 - ((rd_T48 l0_2 x7_1).f1)))) = j_ := ⟨_,rfl⟩
   replace H : (if x6_1.length < 17592186044416 then (q4_Out.l0 k1 a1 (x6_1 ++ [wrap64 (Int.tdiv (wrap64 (((rd_T126 l0_0 ((rd_T48 l0_2 x7_1).f0)).f2) * (mn 5 (ji8)))) 5)]) (wrap64 (x7_1 + 1)) l0_0 a0_1 l0_2 a0_3 a0_4) else (none)) = some (r1,r2) := by first | (rw [hji8] at H;exact H) | (simp only [hji8] at H ⊢;exact H)
   have hji8_ : (if 0 < (wrap64 (a1 - ((rd_T48 l0_2 x7_1).f1))) then (wrap64 (a1 - ((rd_T48 l0_2 x7_1).f1))) else 0) = ji8 := hji8
   obtain ⟨ji9,hji9⟩ : ∃ j_ : Int,(mn 5 (ji8)) = j_ := ⟨_,rfl⟩
   replace H : (if x6_1.length < 17592186044416 then (q4_Out.l0 k1 a1 (x6_1 ++ [wrap64 (Int.tdiv (wrap64 (((rd_T126 l0_0 ((rd_T48 l0_2 x7_1).f0)).f2) * (ji9))) 5)]) (wrap64 (x7_1 + 1)) l0_0 a0_1 l0_2 a0_3 a0_4) else (none)) = some (r1,r2) := by first | (rw [hji9] at H;exact H) | (simp only [hji9] at H ⊢;exact H)
   have hji9_ : (if (ji8) < 5 then (ji8) else 5) = ji9 := hji9
   by_cases c10 : x6_1.length < 17592186044416
   case neg =>
    rw [if_neg c10] at H
    exact absurd H (by simp)
   rw [if_pos c10] at H
   have LMc10 := am c10
   clear c10
   obtain ⟨y500,hy500⟩ : ∃ y_ : List Int,y_ = (x6_1 ++ [wrap64 (Int.tdiv (wrap64 (((rd_T126 l0_0 ((rd_T48 l0_2 x7_1).f0)).f2) * (ji9))) 5)]) := ⟨_,rfl⟩
   replace H : (q4_Out.l0 k1 a1 y500 (wrap64 (x7_1 + 1)) l0_0 a0_1 l0_2 a0_3 a0_4) = some (r1,r2) := by first | (rw [hy500];with_reducible exact H) | (have H2_ := (Option.bind_some _ _).symm.trans H;rw [hy500];with_reducible exact H2_) | (have H2_ := (Option.bind_some _ _).symm.trans H;with_reducible exact H2_) | with_reducible exact H | (rw [hy500];exact H) | exact H
   have Ny500 := am hy500
   clear hy500
   replace H' := am H
   obtain ⟨hcz11_0,hcz11_1,hcz11_2,hcz11_3,hcz11_4⟩ := cO5 BK496.out
   have p497 : 0 ≤ (x7_1 : Int) := of_decide_eq_true (by assumption)
   have q497 : x7_1 < (l0_2.length : Int) := of_decide_eq_true (by assumption)
   obtain ⟨ad497,e497,hx497_0,hx497_1⟩ := at_T48 HR0_2.out x7_1 p497 q497
   cases e497
   replace hx497_0 := (HB.out.cell (wbl hx497_0)).trans hx497_0
   replace hx497_1 := (HB.out.cell (wbl hx497_1)).trans hx497_1
   replace p497 := eq_true p497
   replace q497 := eq_true q497
   try go_wp2_with (first | ((refine gate_dst (N := 8) rfl ?_);refine box_event rfl (N := 8) rfl (cs := #[.int .i64 0,.int .i64 0]) (t := 48) ?hr ?_;(case hr => go_simp;try rfl);intro gb498 hg w12 hbox hb;have BK498 := am (hbox);have GW498 := am (ge_new (HB.out) hg);have GE498 := am (ge_new (HB.out) hg);have NB496_498 := am (ne_new BK496.out hg);have NB498_496 := am (ne_new2 BK496.out hg);replace HO_6 := am (Kd.R_below HO_6.out hb);replace BK496 := (kmv hb BK496);replace HB := am (below_step (HB.out) hb);clear hb hbox hg;have hnb13 := NB498_496.out;have hnc13 := NB496_498.out;obtain ⟨hcz14_0,hcz14_1⟩ := cO2 BK498.out;have hfz14_0 := blk_frozen BK498.out 0;have hfz14_1 := blk_frozen BK498.out 1))
   have n0_ : Aside0 (Kd.R (Kd.int .i64) 3 ((w12.setCell ⟨gb498,0,none⟩ (.int .i64 ((rd_T48 l0_2 x7_1).f0))).setCell ⟨gb498,1,none⟩ (.int .i64 ((rd_T48 l0_2 x7_1).f1))) w.heap.size (fun _ => True) u6 x6_1) := ⟨by (with_reducible repeat (first | apply Kd.R_alloc | apply Kd.R_drewN | apply Kd.R_drew));exact Kd.R_mono (Kd.R_far (p := ⟨gb498,1,none⟩) (Kd.R_far (p := ⟨gb498,0,none⟩) (Kd.R_types HO_6.out BK498.out (by decide)) (fun _ hk => hk.2) (.int .i64 ((rd_T48 l0_2 x7_1).f0))) (fun _ hk => hk.2) (.int .i64 ((rd_T48 l0_2 x7_1).f1))) (fun _ hk => trivial)⟩
   have n1_ : Aside0 (((w12.setCell ⟨gb498,0,none⟩ (.int .i64 ((rd_T48 l0_2 x7_1).f0))).setCell ⟨gb498,1,none⟩ (.int .i64 ((rd_T48 l0_2 x7_1).f1))).heap[gb496]? = some (.cells #[.slice A0_0 l0_0.length c0_0,.int .i64 a0_1,.slice (some ad497) l0_2.length c0_2,.int .i64 a0_3,.int .i64 a0_4] 27 (0,0))) := ⟨(blk_far (blk_far BK496.out NB496_498.out _) NB496_498.out _)⟩
   have n2_ : Aside0 (((w12.setCell ⟨gb498,0,none⟩ (.int .i64 ((rd_T48 l0_2 x7_1).f0))).setCell ⟨gb498,1,none⟩ (.int .i64 ((rd_T48 l0_2 x7_1).f1))).heap[gb498]? = some (.cells #[.int .i64 ((rd_T48 l0_2 x7_1).f0),.int .i64 ((rd_T48 l0_2 x7_1).f1)] 48 (0,0))) := ⟨(blk_put (cs := #[.int .i64 ((rd_T48 l0_2 x7_1).f0),.int .i64 0]) (blk_put (cs := #[.int .i64 0,.int .i64 0]) BK498.out 0 _ rfl) 1 _ rfl)⟩
   have n3_ : Aside0 (Below w.heap.size w ((w12.setCell ⟨gb498,0,none⟩ (.int .i64 ((rd_T48 l0_2 x7_1).f0))).setCell ⟨gb498,1,none⟩ (.int .i64 ((rd_T48 l0_2 x7_1).f1)))) := ⟨by repeat (first | (with_reducible first | exact HB.out | refine below_set ?_ (Aside0.out (by assumption)) | apply below_alloc | apply pw_below_drewN) | exact HB.out)⟩
   (try clear HO_6)
   (try clear BK496)
   (try clear BK498)
   (try clear HB)
   generalize ((w12.setCell ⟨gb498,0,none⟩ (.int .i64 ((rd_T48 l0_2 x7_1).f0))).setCell ⟨gb498,1,none⟩ (.int .i64 ((rd_T48 l0_2 x7_1).f1))) = w15 at n0_ n1_ n2_ n3_ ⊢
   have HO_6 := n0_
   have BK496 := n1_
   have BK498 := n2_
   have HB := n3_
   clear n0_ n1_ n2_ n3_
   replace HO_6 := am (Kd.R_drew HO_6.out)
   replace BK496 := am (blk_drew BK496.out)
   replace BK498 := am (blk_drew BK498.out)
   replace HB := am (below_drew1 HB.out)
   have p499 : 0 ≤ (((rd_T48 l0_2 x7_1).f0) : Int) := of_decide_eq_true (by assumption)
   have q499 : ((rd_T48 l0_2 x7_1).f0) < (l0_0.length : Int) := of_decide_eq_true (by assumption)
   obtain ⟨ad499,e499,hx499_0,hx499_1,hx499_2⟩ := at_T126 HR0_0.out ((rd_T48 l0_2 x7_1).f0) p499 q499
   have hw499_2 := hx499_2
   have hw499_1 := hx499_1
   have hw499_0 := hx499_0
   cases e499
   replace hx499_0 := (HB.out.cell (wbl hx499_0)).trans hx499_0
   replace hx499_1 := (HB.out.cell (wbl hx499_1)).trans hx499_1
   replace hx499_2 := (HB.out.cell (wbl hx499_2)).trans hx499_2
   replace p499 := eq_true p499
   replace q499 := eq_true q499
   refine start_ (n := 20) (S := fun w' => w'.cell? ⟨gb496,0,none⟩ = some (.slice (some ad499) l0_0.length c0_0) ∧ w'.cell? ⟨gb496,1,none⟩ = some (.int .i64 a0_1) ∧ w'.cell? ⟨gb496,2,none⟩ = some (.slice (some ad497) l0_2.length c0_2) ∧ w'.cell? ⟨gb496,3,none⟩ = some (.int .i64 a0_3) ∧ w'.cell? ⟨gb496,4,none⟩ = some (.int .i64 a0_4) ∧ w'.cell? ⟨gb498,0,none⟩ = some (.int .i64 ((rd_T48 l0_2 x7_1).f0)) ∧ w'.cell? ⟨gb498,1,none⟩ = some (.int .i64 ((rd_T48 l0_2 x7_1).f1)) ∧ w'.cell? (ad499.add ((((rd_T48 l0_2 x7_1).f0)).toNat * 3)) = some (.int .i64 ((rd_T126 l0_0 ((rd_T48 l0_2 x7_1).f0)).f0)) ∧ w'.cell? ⟨(ad499.add ((((rd_T48 l0_2 x7_1).f0)).toNat * 3)).block,(ad499.add ((((rd_T48 l0_2 x7_1).f0)).toNat * 3)).off + 1,none⟩ = some (.int .i64 ((rd_T126 l0_0 ((rd_T48 l0_2 x7_1).f0)).f1)) ∧ w'.cell? ⟨(ad499.add ((((rd_T48 l0_2 x7_1).f0)).toNat * 3)).block,(ad499.add ((((rd_T48 l0_2 x7_1).f0)).toNat * 3)).off + 2,none⟩ = some (.int .i64 ((rd_T126 l0_0 ((rd_T48 l0_2 x7_1).f0)).f2))) (ds := []) (ba 20 0) (by kernel_rfl) rfl rfl ⟨(blk_cell BK496.out 0).trans rfl,(blk_cell BK496.out 1).trans rfl,(blk_cell BK496.out 2).trans rfl,(blk_cell BK496.out 3).trans rfl,(blk_cell BK496.out 4).trans rfl,(blk_cell BK498.out 0).trans rfl,(blk_cell BK498.out 1).trans rfl,((HB.out.cell (wbl hw499_0)).trans hw499_0),((HB.out.cell (wbl hw499_1)).trans hw499_1),((HB.out.cell (wbl hw499_2)).trans hw499_2)⟩ (fun hHeld => ?_);refine with_tabW q4_Out.tab6 q4_Out.bits6 (fun HT_ HW_ => ?_)
   generalize w15.drew = w16 at HO_6 BK496 BK498 HB hx499_0 hx499_1 hx499_2 hHeld ⊢
   refine pure_ (i := 0) (N := some 21) (v := ?_) (a' := ?_) (ba 20 1) rfl rfl (any_of HT_.out (by kernel_rfl)) (fun _ _ _ h => h) (Or.inl ⟨by rfl,?_⟩) ?_ ?_
   rotate_left
   · intro w'
     go_simp
     with_reducible rfl
   rotate_left
   · simp only [Act.put,NRM]
     rfl
   refine pure_ (i := 1) (N := some 22) (v := ?_) (a' := ?_) (ba 20 3) rfl rfl (any_of HT_.out (by kernel_rfl)) (fun _ _ _ h => h) (Or.inl ⟨by rfl,?_⟩) ?_ ?_
   rotate_left
   · intro w'
     go_simp
     with_reducible rfl
   rotate_left
   · simp only [Act.put,NRM]
     rfl
   refine pure_ (i := 2) (N := some 23) (v := ?_) (a' := ?_) (ba 20 7) rfl rfl (any_of HT_.out (by kernel_rfl)) (fun _ _ _ h => h) (Or.inl ⟨by rfl,?_⟩) ?_ ?_
   rotate_left
   · intro w'
     go_simp
     with_reducible rfl
   rotate_left
   · simp only [Act.put,NRM]
     rfl
   refine pure_ (i := 4) (N := some 25) (v := ?_) (a' := ?_) (ba 20 23) rfl rfl (any_of HT_.out (by kernel_rfl)) (fun _ _ _ h => h) (Or.inl ⟨by rfl,?_⟩) ?_ ?_
   rotate_left
   · intro w'
     go_simp
     with_reducible rfl
   rotate_left
   · simp only [Act.put,NRM]
     rfl
   refine pure_ (i := 9) (N := some 30) (v := ?_) (a' := ?_) (ba 20 535) rfl rfl (any_of HT_.out (by kernel_rfl)) (fun _ _ _ h => h) (Or.inl ⟨by rfl,?_⟩) ?_ ?_
   rotate_left
   · intro w'
     go_simp
     with_reducible rfl
   rotate_left
   · simp only [Act.put,NRM]
     rfl
   refine pure_ (i := 10) (N := some 31) (v := ?_) (a' := ?_) (ba 20 1559) rfl rfl (any_of HT_.out (by kernel_rfl)) (fun _ _ _ h => h) (Or.inl ⟨by rfl,?_⟩) ?_ ?_
   rotate_left
   · intro w'
     go_simp
     with_reducible rfl
   rotate_left
   · simp only [Act.put,NRM]
     rfl
   refine take_ (i := 3) (N := some 24) (v := ?_) (a' := ?_) (ba 20 1567) rfl rfl (take_ofW HT_.out HW_.out (by kernel_rfl)) (fun _ _ _ h => h) (Or.inl ⟨by rfl,?_⟩) hHeld ?_ ?_
   rotate_left
   · rintro w' ⟨s0,s1,s2,s3,s4,s5,s6,s7,s8,s9⟩
     go_simp
     with_reducible rfl
   rotate_left
   · simp only [Act.put,NRM]
     rfl
   refine take_ (i := 5) (N := some 26) (v := ?_) (a' := ?_) (ba 20 1599) rfl rfl (take_ofW HT_.out HW_.out (by kernel_rfl)) (fun _ _ _ h => h) (Or.inl ⟨by rfl,?_⟩) hHeld ?_ ?_
   rotate_left
   · rintro w' ⟨s0,s1,s2,s3,s4,s5,s6,s7,s8,s9⟩
     go_simp
     with_reducible rfl
   rotate_left
   · simp only [Act.put,NRM]
     rfl
   refine pure_ (i := 6) (N := some 27) (v := ?_) (a' := ?_) (ba 20 1663) rfl rfl (any_of HT_.out (by kernel_rfl)) (fun _ _ _ h => h) (Or.inl ⟨by rfl,?_⟩) ?_ ?_
   rotate_left
   · intro w'
     go_simp
     with_reducible rfl
   rotate_left
   · simp only [Act.put,NRM]
     rfl
   refine pure_ (i := 7) (N := some 28) (v := ?_) (a' := ?_) (ba 20 1791) rfl rfl (any_of HT_.out (by kernel_rfl)) (fun _ _ _ h => h) (Or.inl ⟨by rfl,?_⟩) ?_ ?_
   rotate_left
   · intro w'
     go_simp
     with_reducible rfl
   rotate_left
   · simp only [Act.put,NRM]
     rfl
   refine take_ (i := 8) (N := some 29) (v := ?_) (a' := ?_) (ba 20 2047) rfl rfl (take_ofW HT_.out HW_.out (by kernel_rfl)) (fun _ _ _ h => h) (Or.inl ⟨by rfl,?_⟩) hHeld ?_ ?_
   rotate_left
   · rintro w' ⟨s0,s1,s2,s3,s4,s5,s6,s7,s8,s9⟩
     go_simp
     with_reducible rfl
   rotate_left
   · simp only [Act.put,NRM]
     rfl
   refine take_ (i := 11) (N := some 32) (v := ?_) (a' := ?_) (ba 20 4095) rfl rfl (take_ofW HT_.out HW_.out (by kernel_rfl)) (fun _ _ _ h => h) (Or.inl ⟨by rfl,?_⟩) hHeld ?_ ?_
   rotate_left
   · rintro w' ⟨s0,s1,s2,s3,s4,s5,s6,s7,s8,s9⟩
     go_simp
     with_reducible rfl
   rotate_left
   · simp only [Act.put,NRM]
     rfl
   refine pure_ (i := 12) (N := some 33) (v := ?_) (a' := ?_) (ba 20 8191) rfl rfl (any_of HT_.out (by kernel_rfl)) (fun _ _ _ h => h) (Or.inl ⟨by rfl,?_⟩) ?_ ?_
   rotate_left
   · intro w'
     go_simp
     with_reducible rfl
   rotate_left
   · simp only [Act.put,NRM]
     rfl
   refine pure_ (i := 13) (N := some 34) (v := ?_) (a' := ?_) (ba 20 16383) rfl rfl (any_of HT_.out (by kernel_rfl)) (fun _ _ _ h => h) (Or.inl ⟨by rfl,?_⟩) ?_ ?_
   rotate_left
   · intro w'
     go_simp
     with_reducible rfl
   rotate_left
   · simp only [Act.put,NRM]
     rfl
   refine pure_ (i := 14) (N := some 35) (v := ?_) (a' := ?_) (ba 20 32767) rfl rfl (any_of HT_.out (by kernel_rfl)) (fun _ _ _ h => h) (Or.inl ⟨by rfl,?_⟩) ?_ ?_
   rotate_left
   · intro w'
     go_simp
     with_reducible rfl
   rotate_left
   · simp only [Act.put,NRM]
     rfl
   refine pure_ (i := 15) (N := some 36) (v := ?_) (a' := ?_) (ba 20 65535) rfl rfl (any_of HT_.out (by kernel_rfl)) (fun _ _ _ h => h) (Or.inl ⟨by rfl,?_⟩) ?_ ?_
   rotate_left
   · intro w'
     go_simp
     with_reducible rfl
   rotate_left
   · simp only [Act.put,NRM]
     rfl
   refine pure_ (i := 16) (N := some 37) (v := ?_) (a' := ?_) (ba 20 131071) rfl rfl (any_of HT_.out (by kernel_rfl)) (fun _ _ _ h => h) (Or.inl ⟨by rfl,?_⟩) ?_ ?_
   rotate_left
   · intro w'
     go_simp
     with_reducible rfl
   rotate_left
   · simp only [Act.put,NRM]
     rfl
   refine one_ (i := 17) (N := some 38) (ba 20 262143) rfl rfl (one_of HT_.out (by kernel_rfl)) (by decide) (fun K hK => ?_)
   refine value_ (w1 := ?_) (v := ?_) (by rfl) rfl ?_ ?_
   rotate_left 2
   · go_simp
     constructor
     · rfl
     · rfl
   refine hK.out _ _ ⟨(blk_cell (blk_alloc BK496.out _) 0).trans rfl,(blk_cell (blk_alloc BK496.out _) 1).trans rfl,(blk_cell (blk_alloc BK496.out _) 2).trans rfl,(blk_cell (blk_alloc BK496.out _) 3).trans rfl,(blk_cell (blk_alloc BK496.out _) 4).trans rfl,(blk_cell (blk_alloc BK498.out _) 0).trans rfl,(blk_cell (blk_alloc BK498.out _) 1).trans rfl,(World.cell?_alloc_lt _ _ _ (World.block_lt_of_cell? _ _ (((HB.out.cell (wbl hw499_0)).trans hw499_0)))).trans (((HB.out.cell (wbl hw499_0)).trans hw499_0)),(World.cell?_alloc_lt _ _ _ (World.block_lt_of_cell? _ _ (((HB.out.cell (wbl hw499_1)).trans hw499_1)))).trans (((HB.out.cell (wbl hw499_1)).trans hw499_1)),(World.cell?_alloc_lt _ _ _ (World.block_lt_of_cell? _ _ (((HB.out.cell (wbl hw499_2)).trans hw499_2)))).trans (((HB.out.cell (wbl hw499_2)).trans hw499_2))⟩ (fun hHeld => ?_)
   clear hK K
   refine norm_ (a' := ?_) ?_ ?_
   rotate_left
   · show Act.put _ (some 38) _ = _
     simp only [Act.put,NRM]
     rfl
   refine one_ (i := 18) (N := some 39) (ba 20 524287) rfl rfl (one_of HT_.out (by kernel_rfl)) (by decide) (fun K hK => ?_)
   refine Kd.R_append_step (Kd.int .i64) (w0 := w) w.heap.size (by rfl) (.tmp 21) (.tmp 38) 28 3 (.int .i64 0) 8 rfl Tryz.underlying28 info3 rfl (by decide) (by omega) u6 x6_1 (wrap64 (Int.tdiv (wrap64 (((rd_T126 l0_0 ((rd_T48 l0_2 x7_1).f0)).f2) * (ji9))) 5)) [.int .i64 (wrap64 (Int.tdiv (wrap64 (((rd_T126 l0_0 ((rd_T48 l0_2 x7_1).f0)).f2) * (ji9))) 5))] (fun _ => True) (fun _ => False) rfl rfl ?aP (fun _ hk => hk.elim) ?aF ?aO ?aB ?aS ?aL ?_
   (case aP => exact rfl)
   (case aB => exact (HB.out))
   (case aF => exact (fun _ _ => trivial))
   (case aO => exact HO_6.out)
   (case aS => exact (below_size (HB.out)))
   (case aL => have := LMc10.out;omega)
   intro v501 w17 ho hb hg hat
   rw [← Ny500.out] at ho
   have n0_ := am (blk_grown (g := gb496) (o := .cells #[.slice (some ad499) l0_0.length c0_0,.int .i64 a0_1,.slice (some ad497) l0_2.length c0_2,.int .i64 a0_3,.int .i64 a0_4] 27 (0,0)) BK496.out hg (Kd.R_ne HO_6.out BK496.out (by decide)))
   have n1_ := am (blk_grown (g := gb498) (o := .cells #[.int .i64 ((rd_T48 l0_2 x7_1).f0),.int .i64 ((rd_T48 l0_2 x7_1).f1)] 48 (0,0)) BK498.out hg (Kd.R_ne HO_6.out BK498.out (by decide)))
   have n2_ := am (hb)
   have n3_ := am (ho)
   clear BK496
   clear BK498
   clear HB
   clear HO_6
   have BK496 := n0_
   have BK498 := n1_
   have HB := n2_
   have HO502 := n3_
   clear n0_ n1_ n2_ n3_
   clear ho hb hg hat
   refine hK.out _ _ ⟨(blk_cell BK496.out 0).trans rfl,(blk_cell BK496.out 1).trans rfl,(blk_cell BK496.out 2).trans rfl,(blk_cell BK496.out 3).trans rfl,(blk_cell BK496.out 4).trans rfl,(blk_cell BK498.out 0).trans rfl,(blk_cell BK498.out 1).trans rfl,((HB.out.cell (wbl hw499_0)).trans hw499_0),((HB.out.cell (wbl hw499_1)).trans hw499_1),((HB.out.cell (wbl hw499_2)).trans hw499_2)⟩ (fun hHeld => ?_)
   clear hK K
   refine norm_ (a' := ?_) ?_ ?_
   rotate_left
   · show Act.put _ (some 39) _ = _
     simp only [Act.put,NRM]
     rfl
   refine pure_ (i := 19) (N := some 6) (v := ?_) (a' := ?_) (ba 20 1048575) rfl rfl (any_of HT_.out (by kernel_rfl)) (fun _ _ _ h => h) (Or.inl ⟨by rfl,?_⟩) ?_ ?_
   rotate_left
   · intro w'
     go_simp
     with_reducible rfl
   rotate_left
   · simp only [Act.put,NRM]
     rfl
   refine done_ (done_of HT_.out (by kernel_rfl)) ?_
   try go_wp2
   go_roundg k1
   case measure => have := HK1.out;omega
   case rel => exact ⟨(y500),(wrap64 (x7_1 + 1)),(by first | rfl | (simp;done) | (simp [*];done)),H',⟨by have := HK1.out;omega⟩,⟨by (with_reducible repeat (first | apply Kd.R_alloc | apply Kd.R_drewN | apply Kd.R_drew));exact HO502.out⟩,⟨BK496.out⟩,⟨HB.out⟩⟩
end
end Go.Proofs.YtnnmnhpeblhiiaaGreatDoor.C
namespace Go.Abs
open Go.RowKit Go.Proofs.YtnnmnhpeblhiiaaGreatDoorW.PrintWords Go.Proofs.YtnnmnhpeblhiiaaGreatDoorW.PrintMore
set_option linter.unusedVariables false
set_option linter.unusedSimpArgs false
set_option maxHeartbeats 16000000
set_option maxRecDepth 100000
noncomputable def capOk (k : Nat) (s : St) (v : AV) : Bool :=
 match v with
 | .nilSlice => true
 | .slice _ _ n c => Nat.ble n c
 | .opn b n => match s.heap.get b with
  | some (.cells _ (some k') cs) => Nat.beq k' k && Nat.ble 1 k && Nat.ble (n * k) cs.length
  | some (.ro _ (some k') cs) => Nat.beq k' k && Nat.ble 1 k && Nat.ble (n * k) cs.length
  | _ => false
 | _ => false
theorem capOk_le {e : Env} {s : St} {w : World} (hs : Sim e s w) {k n m c : Nat} {v : AV} {A : Option Addr} (h : capOk k s v = true) (hx : conc e v = some (.slice A m c)) : m ≤ c := by
 unfold capOk at h
 split at h
 · simp only [conc,Option.some.injEq,Value.slice.injEq] at hx;omega
 · simp only [conc,Option.map_eq_some_iff,Value.slice.injEq] at hx
   obtain ⟨p,_,_,rfl,rfl⟩ := hx
   exact Nat.le_of_ble_eq_true h
 · simp only [conc,Option.map_eq_some_iff,Value.slice.injEq] at hx
   obtain ⟨p,hp,_,rfl,rfl⟩ := hx
   have key : ∀ {n' k' : Nat} {cs : List AV} {vs rest : List Value},(Nat.beq k' k && Nat.ble 1 k && Nat.ble (n' * k) cs.length) = true → concL e cs = some vs → (vs ++ rest).length = p.2 * k' → n' ≤ p.2 := by
    intro n' k' cs vs rest h h1 h2
    simp only [Bool.and_eq_true,Nat.beq_eq,Nat.ble_eq] at h
    obtain ⟨⟨rfl,h3⟩,h4⟩ := h
    rw [List.length_append,concL_length h1] at h2
    exact Nat.le_of_mul_le_mul_right (by omega : n' * k' ≤ p.2 * k') (by omega)
   split at h
   · rename_i hb
     obtain ⟨b,q,ob,he,_,vs,rest,h1,rfl,h2⟩ := hs.at_ _ _ hb
     rw [hp] at he;cases he
     exact key h h1 h2
   · rename_i hb
     obtain ⟨b,q,ob,he,_,vs,rest,h1,rfl,h2⟩ := hs.at_ _ _ hb
     rw [hp] at he;cases he
     exact key h h1 (h2 _ rfl)
   · cases h
 · cases h
theorem first_cells {e : Env} {s : St} {w : World} (hs : Sim e s w) {m n c : Nat} {v : AV} {cs : List AV} {A : Option Addr} (h : firstA m v s = some cs) (hx : conc e v = some (.slice A n c)) (hm : 0 < m) :
 ∃ ad vs,A = some ad ∧ concL e cs = some vs ∧ ∀ i u,vs[i]? = some u → w.cell? (ad.add i) = some u := by
 have cell : ∀ {g o : Nat} {t : TypeId} {vs rest us : List Value},w.heap[g]? = some (.cells (vs ++ rest).toArray t (0,0)) → (∀ i u,us[i]? = some u → vs[o + i]? = some u) → ∀ i u,us[i]? = some u → w.cell? ((⟨g,o,none⟩ : Addr).add i) = some u := by
  intro g o t vs rest us hg hus i u hu
  have h1 := hus i u hu
  have h2 : o + i < vs.length := (List.getElem?_eq_some_iff.1 h1).1
  rw [addr_add]
  simp only [World.cell?,hg]
  simp only [Option.isSome_none,Bool.false_eq_true,if_false,List.getElem?_toArray]
  rw [List.getElem?_append_left h2];exact h1
 unfold firstA at h
 split at h
 · split at h
   · omega
   · cases h
 · simp only [Option.bind_eq_some_iff] at h
   obtain ⟨ds,hg,h⟩ := h
   split at h
   · simp only [Option.some.injEq] at h;subst h
     obtain ⟨g,q,t,vs,rest,he,hb,hvs⟩ := rd_at hs hg
     simp only [conc,he,Option.map_some,Option.some.injEq,Value.slice.injEq] at hx
     obtain ⟨rfl,_,_⟩ := hx
     refine ⟨_,_,rfl,concL_take (concL_drop hvs _) _,cell hb fun i u hu => ?_⟩
     rw [List.getElem?_take] at hu
     split at hu
     · rw [List.getElem?_drop] at hu;exact hu
     · cases hu
   · cases h
 · simp only [Option.bind_eq_some_iff] at h
   obtain ⟨ds,hg,h⟩ := h
   split at h
   · simp only [Option.some.injEq] at h;subst h
     obtain ⟨g,q,t,vs,rest,he,hb,hvs⟩ := rd_at hs hg
     simp only [conc,he,Option.map_some,Option.some.injEq,Value.slice.injEq] at hx
     obtain ⟨rfl,_,_⟩ := hx
     refine ⟨_,_,rfl,concL_take hvs _,cell hb fun i u hu => ?_⟩
     rw [List.getElem?_take] at hu
     split at hu
     · rw [Nat.zero_add];exact hu
     · cases hu
   · cases h
 · cases h
noncomputable def rdG {α : Type} (sz : Nat) (dec : List AV → Option (List α)) (s : St) (v : AV) : Option (List α) :=
 if capOk sz s v then (lenSl v).bind fun n => if Nat.ble n 1000000 then (firstA (n * sz) v s).bind fun cs => (dec cs).bind fun xs => if Nat.beq xs.length n then some xs else none else none else none
theorem rdG_ok {α : Type} {d : Kd α} {e : Env} {s : St} {w : World} (hs : Sim e s w) {dec : List AV → Option (List α)} (hsz : 0 < d.sz)
 (hdec : ∀ cs xs vs,dec cs = some xs → concL e cs = some vs → ∀ j p,xs[j]? = some p → d.K w p ((vs.drop (j * d.sz)).take d.sz))
 {v : AV} {xs : List α} {x : Value} (h : rdG d.sz dec s v = some xs) (hx : conc e v = some x) : ∃ A c,x = .slice A xs.length c ∧ xs.length ≤ c ∧ d.C w A xs.length xs := by
 unfold rdG at h
 split at h
 case isFalse => cases h
 rename_i hcap
 simp only [Option.bind_eq_some_iff] at h
 obtain ⟨n,hn,h⟩ := h
 split at h
 case isFalse => cases h
 rename_i hle
 simp only [Option.bind_eq_some_iff] at h
 obtain ⟨cs,hcs,xs',hxs,h⟩ := h
 split at h
 case isFalse => cases h
 rename_i hlen
 cases h
 have hlen : xs.length = n := Nat.eq_of_beq_eq_true hlen
 subst hlen
 obtain ⟨_,A,c,rfl⟩ := lenSl_run hn hx
 refine ⟨A,c,rfl,capOk_le hs (n := 0) hcap hx,rfl,by have := Nat.le_of_ble_eq_true hle;omega,fun h0 => ?_⟩
 obtain ⟨ad,vs,rfl,hvs,hcell⟩ := first_cells hs hcs hx (Nat.mul_pos h0 hsz)
 refine ⟨ad,rfl,fun j p hj => ⟨_,d.K_len (hdec cs xs vs hxs hvs j p hj),hdec cs xs vs hxs hvs j p hj,fun i u hu => ?_⟩⟩
 rw [List.getElem?_take] at hu
 split at hu
 · rw [List.getElem?_drop] at hu
   exact hcell _ u hu
 · cases hu
def intsA : List AV → Option (List Int)
 | [] => some []
 | .int .i64 a :: l => (intsA l).map (a :: ·)
 | _ => none
theorem intsA_eq : ∀ {cs : List AV} {xs : List Int},intsA cs = some xs → cs = xs.map (.int .i64)
 | [],_,h => by cases h;rfl
 | a :: l,xs,h => by
  unfold intsA at h
  split at h
  · cases ‹_ :: _ = []›
  · rename_i heq;cases heq
    simp only [Option.map_eq_some_iff] at h
    obtain ⟨ys,h1,rfl⟩ := h
    rw [intsA_eq h1];rfl
  · cases h
theorem concL_ints (e : Env) : ∀ xs : List Int,concL e (xs.map (.int .i64)) = some (xs.map (Value.int .i64))
 | [] => rfl
 | x :: xs => by simp [concL,conc,concL_ints e xs]
noncomputable def rdInts : St → AV → Option (List Int) := rdG 1 intsA
theorem rdInts_ok {e : Env} {s : St} {w : World} (hs : Sim e s w) {v : AV} {xs : List Int} {x : Value} (h : rdInts s v = some xs) (hx : conc e v = some x) : ∃ A c,x = .slice A xs.length c ∧ xs.length ≤ c ∧ (Kd.int .i64).C w A xs.length xs := by
 refine rdG_ok (d := Kd.int .i64) hs (by show 0 < 1;omega) (fun cs xs vs h1 h2 j p hj => ?_) h hx
 rw [intsA_eq h1,concL_ints] at h2;cases h2
 show ((xs.map (Value.int .i64)).drop (j * 1)).take 1 = [.int .i64 p]
 have : (xs.map (Value.int .i64))[j * 1]? = some (.int .i64 p) := by simp [hj]
 rw [List.drop_eq_getElem?_toList_append]
 rw [this];rfl
noncomputable def eachA {α : Type} (f : AV → Option α) : List AV → Option (List α)
 | [] => some []
 | v :: l => (f v).bind fun x => (eachA f l).map (x :: ·)
theorem eachA_at {α : Type} {f : AV → Option α} : ∀ {cs : List AV} {xs : List α},eachA f cs = some xs → ∀ {e : Env} {vs : List Value},concL e cs = some vs → ∀ j p,xs[j]? = some p → ∃ v y,f v = some p ∧ conc e v = some y ∧ (vs.drop (j * 1)).take 1 = [y]
 | [],_,h,e,vs,hv,j,p,hj => by cases h;simp at hj
 | c :: cs,xs,h,e,vs,hv,j,p,hj => by
  simp only [eachA,Option.bind_eq_some_iff,Option.map_eq_some_iff] at h
  obtain ⟨x,hx,ys,hys,rfl⟩ := h
  obtain ⟨y,zs,hy,hzs,rfl⟩ := concL_cons hv
  cases j with
  | zero => cases hj;exact ⟨c,y,hx,hy,by simp⟩
  | succ j =>
   obtain ⟨v,y',h1,h2,h3⟩ := eachA_at hys hzs j p (by simpa using hj)
   exact ⟨v,y',h1,h2,by rw [show (j + 1) * 1 = j * 1 + 1 by omega];exact h3⟩
noncomputable def rdLists (s : St) : AV → Option (List (List Int)) := rdG 1 (eachA (rdInts s)) s
theorem rdLists_ok {e : Env} {s : St} {w : World} (hs : Sim e s w) {v : AV} {xs : List (List Int)} {x : Value} (h : rdLists s v = some xs) (hx : conc e v = some x) : ∃ A c,x = .slice A xs.length c ∧ xs.length ≤ c ∧ (Kd.slice 3 (Kd.int .i64)).C w A xs.length xs := by
 refine rdG_ok (d := Kd.slice 3 (Kd.int .i64)) hs (by show 0 < 1;omega) (fun cs xs vs h1 h2 j p hj => ?_) h hx
 obtain ⟨v,y,h3,h4,h5⟩ := eachA_at h1 h2 j p hj
 obtain ⟨A,c,rfl,h6,h7⟩ := rdInts_ok hs h3 h4
 exact ⟨A,c,h5,h6,h7⟩
theorem grow {e : Env} {s : St} {w w' : World} (h : Sim e s w) (hb : Below w.heap.size w w') : Sim e s w' ∧ Goes e s w e s w' := by
 refine ⟨⟨fun n x hx => ?_,h.inj,fun n b q hn => Nat.lt_of_lt_of_le (h.bound n b q hn) hb.size⟩,⟨Env.le.refl e,fun _ h => .inl h,fun _ _ h => h,fun _ _ h => h,fun b hb' _ => hb.block b hb',hb.size,hb.os,hb.tape,hb.output,fun _ _ => rfl,fun _ h => h,Nat.le_refl _⟩⟩
 obtain ⟨b,q,ob,he,hw,hr⟩ := h.at_ n x hx
 exact ⟨b,q,ob,he,(hb.block b (h.bound n b q he)).trans hw,hr⟩
def RwBelow (e : Env) (s : St) (B : Nat) : Prop := ∀ n x b q,s.heap.get n = some x → x.rw → e n = some (b,q) → b < B
theorem addAt {e0 e : Env} {s0 s : St} {w0 w : World} (hg : Goes e0 s0 w0 e s w) (h : Sim e s w) (hr : RwBelow e s w0.heap.size) {g q : Nat} {blk : Blk} {ob : Obj} (hfree : e s.next = none) (h0 : w0.heap.size ≤ g) (hlt : g < w.heap.size)
 (hro : ¬ blk.rw ∨ ∀ n x q,s.heap.get n = some x → e n ≠ some (g,q)) (hob : w.heap[g]? = some ob) (hb : BlkRel (e.upd s.next (g,q)) q blk ob) :
 Sim (e.upd s.next (g,q)) (s.add blk) w ∧ Goes e0 s0 w0 (e.upd s.next (g,q)) (s.add blk) w ∧ (¬ blk.rw → RwBelow (e.upd s.next (g,q)) (s.add blk) w0.heap.size) := by
 have hle := Env.le_upd (g,q) hfree
 refine ⟨⟨?_,?_,?_⟩,⟨hg.le.trans hle,?_,?_,?_,hg.frame,hg.size,hg.os,hg.tape,hg.output,?_,?_,Nat.le_trans hg.next (Nat.le_succ _)⟩,?_⟩
 · intro m x hx
   simp only [St.add,Tr.get_set] at hx
   split at hx
   · subst m;cases hx;exact ⟨g,q,ob,Env.upd_self ..,hob,hb⟩
   · obtain ⟨b',q',ob',he',hb',hr'⟩ := h.at_ m x hx
     exact ⟨b',q',ob',hle _ _ he',hb',hr'.le hle⟩
 · intro m k b' q1 q2 x y hm hmr hk em ek
   simp only [St.add,Tr.get_set] at hm hk
   by_cases e1 : m = s.next <;> by_cases e2 : k = s.next
   · rw [e1,e2]
   · subst e1;rw [Env.upd_self] at em;cases em;rw [Env.upd_ne _ _ e2] at ek;rw [if_neg e2] at hk;rw [if_pos rfl] at hm;cases hm
     rcases hro with hro | hro
     · exact absurd hmr hro
     · exact absurd ek (hro _ _ _ hk)
   · subst e2;rw [Env.upd_self] at ek;cases ek;rw [Env.upd_ne _ _ e1] at em;rw [if_neg e1] at hm
     exact absurd (hr m _ _ _ hm hmr em) (by omega)
   · rw [if_neg e1] at hm;rw [if_neg e2] at hk;rw [Env.upd_ne _ _ e1] at em;rw [Env.upd_ne _ _ e2] at ek
     exact h.inj m k b' q1 q2 _ _ hm hmr hk em ek
 · intro m b' q' hm
   by_cases e1 : m = s.next
   · subst e1;rw [Env.upd_self] at hm;cases hm;exact hlt
   · rw [Env.upd_ne _ _ e1] at hm;exact h.bound m b' q' hm
 · intro m hm
   by_cases e1 : m = s.next
   · exact .inr ⟨by rw [e1];exact hg.next,by simp only [St.add];omega⟩
   · rw [Env.upd_ne _ _ e1] at hm
     rcases hg.rng m hm with h1 | ⟨h1,h2⟩
     · exact .inl h1
     · exact .inr ⟨h1,Nat.lt_succ_of_lt h2⟩
 · rintro b' hb' ⟨m,x,q',hx,hxr,hm⟩
   simp only [St.add,Tr.get_set] at hx
   by_cases e1 : m = s.next
   · subst e1;rw [Env.upd_self] at hm;cases hm;omega
   · rw [if_neg e1] at hx;rw [Env.upd_ne _ _ e1] at hm;exact hg.own b' hb' ⟨m,x,q',hx,hxr,hm⟩
 · rintro b' hb' ⟨m,x,q',hx,hm⟩
   simp only [St.add,Tr.get_set] at hx
   by_cases e1 : m = s.next
   · subst e1;rw [Env.upd_self] at hm;cases hm;omega
   · rw [if_neg e1] at hx;rw [Env.upd_ne _ _ e1] at hm;exact hg.met b' hb' ⟨m,x,q',hx,hm⟩
 · intro m hm
   simp only [St.add,List.mem_cons,not_or] at hm ⊢
   rw [Tr.get_set,if_neg hm.1];exact hg.log m hm.2
 · intro m hm;exact List.mem_cons_of_mem _ (hg.logs m hm)
 · intro hro m x b' q' hx hxr hm
   simp only [St.add,Tr.get_set] at hx
   by_cases e1 : m = s.next
   · subst e1;rw [if_pos rfl] at hx;cases hx;exact absurd hxr hro
   · rw [if_neg e1] at hx;rw [Env.upd_ne _ _ e1] at hm;exact hr m x b' q' hx hxr hm
theorem rwBelow {e : Env} {s : St} {w : World} (h : Sim e s w) : RwBelow e s w.heap.size := fun n x b q _ _ he => h.bound n b q he
theorem endsC {P : Program} {f : FuncId} {xs : Array Value} {w : World} {R : Ending → World → Prop} (h : Calls P f xs w R) (c : Frame) (cs : List Frame) :
 ∃ e w',R e w' ∧ ∀ v,e = .returned v → Steps P (lone (Frame.enter P f xs .normal) (c :: cs) w) (lone (c.finish v) cs w') := by
 obtain ⟨e,w',fr,hR,hc,_,hl⟩ := h (c :: cs)
 refine ⟨e,w',hR,fun v hv => ?_⟩
 subst hv
 exact Steps.trans hc (.one (step_leave_returned hl))
theorem row_of {d : Kd Int} {e base n : Nat} {w : World} {ok : Nat → Prop} {v : Value} {xs : List Int} (h : (Kd.int .i64).R e w base ok v xs) (hx : xs ≠ []) :
 ∃ g cap rest,v = .slice (some ⟨g,0,none⟩) xs.length cap ∧ base ≤ g ∧ g < w.heap.size ∧ w.heap[g]? = some (.cells (xs.map (Value.int .i64) ++ rest).toArray e (0,0)) ∧ (xs.map (Value.int .i64) ++ rest).length = cap * 1 := by
 obtain ⟨_,inner,ho,hr⟩ := h
 obtain ⟨h1,h2⟩ := ho
 rcases h2 with ⟨_,h2⟩ | ⟨g,cap,cur,rfl,h3,h4,h5,h6,h7,h8⟩
 · exact absurd (List.length_eq_zero_iff.1 h2) hx
 have hin : inner = xs.map (Value.int .i64) := by
  apply List.ext_getElem?
  intro j
  have hl : inner.length = xs.length * 1 := h1
  cases hj : xs[j]? with
  | none =>
   rw [List.getElem?_map,hj,List.getElem?_eq_none];· rfl
   have := List.getElem?_eq_none_iff.1 hj;omega
  | some p =>
   have h9 : (inner.drop (j * 1)).take 1 = [.int .i64 p] := hr.2 j p hj
   rw [List.getElem?_map,hj]
   have : ((inner.drop (j * 1)).take 1)[0]? = some (Value.int .i64 p) := by rw [h9];rfl
   rw [List.getElem?_take,if_pos (by omega),List.getElem?_drop] at this
   simpa using this
 have hsz : (Kd.int .i64).sz = 1 := rfl
 rw [hsz] at h7 h8
 refine ⟨g,cap,cur.toList.drop (xs.length * 1),rfl,h3,(Array.getElem?_eq_some_iff.1 h4).1,?_,?_⟩
 · rw [h4,← hin,← h8,List.take_append_drop]
 · rw [← hin,← h8,List.take_append_drop,Array.length_toList];exact h7
noncomputable def addInts (t : TypeId) : List (List Int) → St → List AV × St
 | [],s => ([],s)
 | l :: r,s => let q := addInts t r (s.add (.ro t (some 1) (l.map (.int .i64))));(.opn s.next l.length :: q.1,q.2)
theorem addInts_next (t : TypeId) : ∀ (l : List (List Int)) (s : St),(addInts t l s).2.next = s.next + l.length
 | [],s => rfl
 | x :: r,s => by
  show (addInts t r _).2.next = _
  rw [addInts_next t r];simp only [St.add,List.length_cons];omega
theorem addInts_ok {e0 : Env} {s0 : St} {w0 w : World} {t : TypeId} {ok : Nat → Prop} : ∀ {l : List (List Int)} {vs : List Value} {e : Env} {s : St},Goes e0 s0 w0 e s w → Sim e s w → RwBelow e s w0.heap.size → Free e s.next (s.next + l.length) →
 vs.length = l.length → (∀ (j : Nat) (xs : List Int),l[j]? = some xs → xs ≠ [] ∧ ∃ v,vs[j]? = some v ∧ (Kd.int .i64).R t w w0.heap.size ok v xs) →
 ∃ e',Goes e0 s0 w0 e' (addInts t l s).2 w ∧ Sim e' (addInts t l s).2 w ∧ RwBelow e' (addInts t l s).2 w0.heap.size ∧ e.le e' ∧ concL e' (addInts t l s).1 = some vs ∧ ∀ n,s.next + l.length ≤ n → e n = none → e' n = none
 | [],vs,e,s,hg,hs,hr,hf,hl,h => by
  obtain rfl : vs = [] := List.length_eq_zero_iff.1 hl
  exact ⟨e,hg,hs,hr,Env.le.refl e,rfl,fun _ _ h => h⟩
 | x :: r,vs,e,s,hg,hs,hr,hf,hl,h => by
  obtain ⟨v,vs,rfl⟩ : ∃ v vs',vs = v :: vs' := by cases vs with | nil => simp at hl | cons a b => exact ⟨a,b,rfl⟩
  obtain ⟨hx,v',hv',hR⟩ := h 0 x rfl
  cases hv'
  obtain ⟨g,cap,rest,rfl,h1,h2,h3,h4⟩ := row_of (d := Kd.int .i64) (n := 0) hR hx
  have hfree : e s.next = none := hf _ (Nat.le_refl _) (by simp only [List.length_cons];omega)
  have hle := Env.le_upd (g,cap) hfree
  obtain ⟨q1,q2,q3⟩ := addAt (q := cap) (blk := .ro t (some 1) (x.map (.int .i64))) hg hs hr hfree h1 h2 (.inl fun z => z) h3 ⟨_,rest,concL_ints _ x,rfl,fun m hm => by cases hm;exact h4⟩
  obtain ⟨e',p1,p2,p3,p4,p5,p6⟩ := addInts_ok (l := r) (vs := vs) (s := s.add (.ro t (some 1) (x.map (.int .i64)))) q2 q1 (q3 fun z => z) (fun n a b => by
   rw [Env.upd_ne _ _ (by simp only [St.add] at a;omega)]
   exact hf n (by simp only [St.add] at a;omega) (by simp only [St.add] at b;simp only [List.length_cons];omega)) (by simpa using hl) (fun j xs hj => h (j + 1) xs (by simpa using hj))
  refine ⟨e',p1,p2,p3,hle.trans p4,?_,fun n a b => p6 n (by simp only [St.add,List.length_cons] at a ⊢;omega) ?_⟩
  · simp only [addInts,concL,conc,p4 _ _ (Env.upd_self e s.next (g,cap)),Option.map_some,Option.bind_some,p5]
  · rw [Env.upd_ne _ _ (by simp only [List.length_cons] at a;omega)];exact b
end Go.Abs

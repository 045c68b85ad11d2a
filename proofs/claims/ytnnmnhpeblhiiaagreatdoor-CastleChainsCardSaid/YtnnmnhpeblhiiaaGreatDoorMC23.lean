/- A part of the proof: the walks of the functions that it reaches. TIGHT. -/
import Derived.Test.YtnnmnhpeblhiiaaGreatDoorMC13
import Derived.Test.YtnnmnhpeblhiiaaGreatDoorMC16
import Derived.Test.YtnnmnhpeblhiiaaGreatDoorMC22
import Derived.Laws.EntriesVeiled
set_option linter.unusedVariables false
set_option linter.unusedSimpArgs false
namespace Go.Proofs.YtnnmnhpeblhiiaaGreatDoor.C
open Go.RowKit Go.Proofs.YtnnmnhpeblhiiaaGreatDoorW.PrintWords Go.Proofs.YtnnmnhpeblhiiaaGreatDoorW.PrintLast Go.Proofs.YtnnmnhpeblhiiaaGreatDoorW.PrintMore
set_option linter.unusedVariables false
set_option linter.unusedSimpArgs false
set_option maxHeartbeats 16000000
set_option maxRecDepth 100000
section
attribute [local go_sem] max2_int min2_int max_two min_two
mutual
def l4_CastleChains.j0 : Nat → Int → List (List Int) → List Int → Int → Bool → List (S27) → List (S66) → Option (Bool)
 | 0,_,_,_,_,_,_,_ => none
 | k + 1,x1,x6,x7,x8,x39,x885000,x885001 => if x39 = true then (none) else ((q4_Chain.f k x885000 x885001).bind fun t896 => (if t896 = true then ((q4_Cups.f x1).bind fun t897 => (l4_CastleChains.j1 k x1 x6 x7 x8 (!t897) x885000 x885001)) else (l4_CastleChains.j1 k x1 x6 x7 x8 true x885000 x885001)))
def l4_CastleChains.j1 : Nat → Int → List (List Int) → List Int → Int → Bool → List (S27) → List (S66) → Option (Bool)
 | 0,_,_,_,_,_,_,_ => none
 | k + 1,x1,x6,x7,x8,x47,x885000,x885001 => if x47 = true then (if x8 = 2 then (if (x6.length : Int) = 0 then (if (x7.length : Int) = 0 then ((l4_known.f).bind fun t898 => (some t898)) else (none)) else (none)) else (none)) else ((q4_Flows.f k x885000 x885001 x1).bind fun bt899 => (if x8 = 0 then ((q4_SameLists.f k x6 bt899.1).bind fun t905 => (if t905 = true then ((q4_Same.f k x7 bt899.2).bind fun t906 => (if t906 = true then ((l4_known.f).bind fun t907 => (some t907)) else (none))) else (none))) else (none)))
end
def l4_CastleChains.f (k : Nat) (l0_0 : List (S27)) (l0_1 : List (S66)) (a1 : Int) : Option (Bool) := (l4_brief.f k l0_0 l0_1).bind fun t885 => (if t885 = true then ((ca_Chain.f l0_0 l0_1).bind fun t887 => ((ca_Flow.f k l0_0 l0_1 a1).bind fun bt888 => ((q4_Chain.f k l0_0 l0_1).bind fun t895 => (if t895 = true then (if t887 = 0 then (l4_CastleChains.j0 k a1 bt888.1 bt888.2.1 bt888.2.2 false l0_0 l0_1) else (l4_CastleChains.j0 k a1 bt888.1 bt888.2.1 bt888.2.2 true l0_0 l0_1)) else (l4_CastleChains.j0 k a1 bt888.1 bt888.2.1 bt888.2.2 (t887 != 2) l0_0 l0_1))))) else ((l4_known.f).bind fun t886 => (some t886)))
theorem l4_CastleChains.j0_dead {k_ : Nat} {y0_} {y1_} {y2_} {y3_} {y5_} {y6_} {r_ : Bool} : l4_CastleChains.j0 k_ y0_ y1_ y2_ y3_ true y5_ y6_ ≠ some r_ := by cases k_ <;> simp [l4_CastleChains.j0]
theorem l4_CastleChains.calls (k : Nat) (A0_0 : Option Addr) (c0_0 : Nat) (l0_0 : List (S27)) (A0_1 : Option Addr) (c0_1 : Nat) (l0_1 : List (S66)) (a1 : Int) (r : Bool) (w : World) (hr0_0 : Kd.C k27 w A0_0 l0_0.length l0_0) (hc0_0 : l0_0.length ≤ c0_0) (hr0_1 : Kd.C k66 w A0_1 l0_1.length l0_1) (hc0_1 : l0_1.length ≤ c0_1) (h : l4_CastleChains.f k l0_0 l0_1 a1 = some r) :
 Calls Tryz.prog 10 #[.agg #[.slice A0_0 l0_0.length c0_0,.slice A0_1 l0_1.length c0_1],.int .i64 a1] w fun e w' => e = .returned (.bool r) ∧ Below w.heap.size w w' := by
 have hu59 := Tryz.underlying59
 have HR0_0 := am hr0_0
 have HC0_0 := am hc0_0
 clear hr0_0 hc0_0
 have HR0_1 := am hr0_1
 have HC0_1 := am hc0_1
 clear hr0_1 hc0_1
 have HB := am (Below.refl w.heap.size w)
 have H : ((l4_brief.f k l0_0 l0_1).bind fun t885 => (if t885 = true then ((ca_Chain.f l0_0 l0_1).bind fun t887 => ((ca_Flow.f k l0_0 l0_1 a1).bind fun bt888 => ((q4_Chain.f k l0_0 l0_1).bind fun t895 => (if t895 = true then (if t887 = 0 then (l4_CastleChains.j0 k a1 bt888.1 bt888.2.1 bt888.2.2 false l0_0 l0_1) else (l4_CastleChains.j0 k a1 bt888.1 bt888.2.1 bt888.2.2 true l0_0 l0_1)) else (l4_CastleChains.j0 k a1 bt888.1 bt888.2.1 bt888.2.2 (t887 != 2) l0_0 l0_1))))) else ((l4_known.f).bind fun t886 => (some t886)))) = some r := h
 clear h
 replace H := obm H
 obtain ⟨t885,A30,H⟩ := H
 replace H : (if t885 = true then ((ca_Chain.f l0_0 l0_1).bind fun t887 => ((ca_Flow.f k l0_0 l0_1 a1).bind fun bt888 => ((q4_Chain.f k l0_0 l0_1).bind fun t895 => (if t895 = true then (if t887 = 0 then (l4_CastleChains.j0 k a1 bt888.1 bt888.2.1 bt888.2.2 false l0_0 l0_1) else (l4_CastleChains.j0 k a1 bt888.1 bt888.2.1 bt888.2.2 true l0_0 l0_1)) else (l4_CastleChains.j0 k a1 bt888.1 bt888.2.1 bt888.2.2 (t887 != 2) l0_0 l0_1))))) else ((l4_known.f).bind fun t886 => (some t886))) = some r := H
 have A3 := am A30
 clear A30
 by_cases c4 : t885 = true
 case neg =>
  replace c4 := Bool.eq_false_iff.mpr c4
  subst c4
  replace H : ((l4_known.f).bind fun t886 => (some t886)) = some r := by rw [if_neg (show ¬ (false = true) by decide)] at H;exact H
  replace H := obm H
  obtain ⟨t886,A510,H⟩ := H
  replace H : (some t886) = some r := H
  have A51 := am A510
  clear A510
  obtain rfl := Option.some.inj H
  go_enter Tryz.func10,Tryz.ntmps10
  go_wp2_with (first | ((refine gate_dst (N := 2) rfl ?_);(try (refine gate_guard (by rfl) ?_;dsimp only));refine box_event rfl (N := 2) rfl (cs := #[.slice A0_0 l0_0.length c0_0,.slice A0_1 l0_1.length c0_1]) (t := 59) ?hr ?_;(case hr => go_simp;try rfl);intro gb884 hg w52 hbox hb;have BK884 := am (hbox);have GW884 := am (ge_new (HB.out) hg);have GE884 := am (ge_new (HB.out) hg);replace HB := am (below_step (HB.out) hb);clear hb hbox hg;obtain ⟨hcz53_0,hcz53_1⟩ := cO2 BK884.out) | ((with_reducible refine gate_callee (f := 30) rfl ?_);refine goesL_ (some 13) rfl rfl Tryz.func30 (by kernel_rfl) rfl #[.agg #[.slice A0_0 l0_0.length c0_0,.slice A0_1 l0_1.length c0_1]] rfl (by (try simp only [List.map_toArray,List.map_cons,List.map_nil]);first | done | rfl | (simp only [List.length_drop,List.length_take];rfl)) ?_;(with_reducible refine (l4_brief.calls k _ _ l0_0 _ _ l0_1 false _ ?side1 ?side2 ?side3 ?side4 A3.out).mono ?_);(case side1 => exact kC HR0_0.out HB.out);(case side2 => exact HC0_0.out);(case side3 => exact kC HR0_1.out HB.out);(case side4 => exact HC0_1.out);rintro e w54 ⟨rfl,hb⟩;refine ⟨_,rfl,?_⟩;replace BK884 := am (blk_below (g := gb884) (o := .cells #[.slice A0_0 l0_0.length c0_0,.slice A0_1 l0_1.length c0_1] 59 (0,0)) (by (with_reducible repeat (first | refine blk_drewN ?_ _ | refine blk_drew ?_ | refine blk_alloc ?_ _));exact BK884.out) hb);replace HB := am (below_step (HB.out) hb);(try clear hb);(try clear hb2);(try clear hk);(try clear hi)) | ((with_reducible refine gate_callee (f := 19) rfl ?_);refine goesL_ (some 15) rfl rfl Tryz.func19 (by kernel_rfl) rfl #[] rfl (by (try simp only [List.map_toArray,List.map_cons,List.map_nil]);first | done | rfl | (simp only [List.length_drop,List.length_take];rfl)) ?_;(with_reducible refine (l4_known.calls  t886 _ A51.out).mono ?_);rintro e w55 ⟨rfl,hb⟩;refine ⟨_,rfl,?_⟩;replace BK884 := am (blk_below (g := gb884) (o := .cells #[.slice A0_0 l0_0.length c0_0,.slice A0_1 l0_1.length c0_1] 59 (0,0)) (by (with_reducible repeat (first | refine blk_drewN ?_ _ | refine blk_drew ?_ | refine blk_alloc ?_ _));exact BK884.out) hb);replace HB := am (below_step (HB.out) hb);(try clear hb);(try clear hb2);(try clear hk);(try clear hi)))
  go_ret
  exact ⟨by first | rfl | (simp [*] <;> rfl),HB.out⟩
 subst c4
 replace H : ((ca_Chain.f l0_0 l0_1).bind fun t887 => ((ca_Flow.f k l0_0 l0_1 a1).bind fun bt888 => ((q4_Chain.f k l0_0 l0_1).bind fun t895 => (if t895 = true then (if t887 = 0 then (l4_CastleChains.j0 k a1 bt888.1 bt888.2.1 bt888.2.2 false l0_0 l0_1) else (l4_CastleChains.j0 k a1 bt888.1 bt888.2.1 bt888.2.2 true l0_0 l0_1)) else (l4_CastleChains.j0 k a1 bt888.1 bt888.2.1 bt888.2.2 (t887 != 2) l0_0 l0_1))))) = some r := by rw [if_pos rfl] at H;exact H
 replace H := obm H
 obtain ⟨t887,A50,H⟩ := H
 replace H : ((ca_Flow.f k l0_0 l0_1 a1).bind fun bt888 => ((q4_Chain.f k l0_0 l0_1).bind fun t895 => (if t895 = true then (if t887 = 0 then (l4_CastleChains.j0 k a1 bt888.1 bt888.2.1 bt888.2.2 false l0_0 l0_1) else (l4_CastleChains.j0 k a1 bt888.1 bt888.2.1 bt888.2.2 true l0_0 l0_1)) else (l4_CastleChains.j0 k a1 bt888.1 bt888.2.1 bt888.2.2 (t887 != 2) l0_0 l0_1)))) = some r := H
 have A5 := am A50
 clear A50
 replace H := obm H
 obtain ⟨⟨t888,t891,t894⟩,A60,H⟩ := H
 replace H : ((q4_Chain.f k l0_0 l0_1).bind fun t895 => (if t895 = true then (if t887 = 0 then (l4_CastleChains.j0 k a1 t888 t891 t894 false l0_0 l0_1) else (l4_CastleChains.j0 k a1 t888 t891 t894 true l0_0 l0_1)) else (l4_CastleChains.j0 k a1 t888 t891 t894 (t887 != 2) l0_0 l0_1))) = some r := H
 have A6 := am A60
 clear A60
 replace H := obm H
 obtain ⟨t895,A70,H⟩ := H
 replace H : (if t895 = true then (if t887 = 0 then (l4_CastleChains.j0 k a1 t888 t891 t894 false l0_0 l0_1) else (l4_CastleChains.j0 k a1 t888 t891 t894 true l0_0 l0_1)) else (l4_CastleChains.j0 k a1 t888 t891 t894 (t887 != 2) l0_0 l0_1)) = some r := H
 have A7 := am A70
 clear A70
 have HC8 := am H
 clear H
 go_enter Tryz.func10,Tryz.ntmps10
 go_upto_region 6 with (first | ((refine gate_dst (N := 2) rfl ?_);(try (refine gate_guard (by rfl) ?_;dsimp only));refine box_event rfl (N := 2) rfl (cs := #[.slice A0_0 l0_0.length c0_0,.slice A0_1 l0_1.length c0_1]) (t := 59) ?hr ?_;(case hr => go_simp;try rfl);intro gb884 hg w9 hbox hb;have BK884 := am (hbox);have GW884 := am (ge_new (HB.out) hg);have GE884 := am (ge_new (HB.out) hg);replace HB := am (below_step (HB.out) hb);clear hb hbox hg;obtain ⟨hcz10_0,hcz10_1⟩ := cO2 BK884.out) | ((with_reducible refine gate_callee (f := 30) rfl ?_);refine goesL_ (some 13) rfl rfl Tryz.func30 (by kernel_rfl) rfl #[.agg #[.slice A0_0 l0_0.length c0_0,.slice A0_1 l0_1.length c0_1]] rfl (by (try simp only [List.map_toArray,List.map_cons,List.map_nil]);first | done | rfl | (simp only [List.length_drop,List.length_take];rfl)) ?_;(with_reducible refine (l4_brief.calls k _ _ l0_0 _ _ l0_1 true _ ?side1 ?side2 ?side3 ?side4 A3.out).mono ?_);(case side1 => exact kC HR0_0.out HB.out);(case side2 => exact HC0_0.out);(case side3 => exact kC HR0_1.out HB.out);(case side4 => exact HC0_1.out);rintro e w11 ⟨rfl,hb⟩;refine ⟨_,rfl,?_⟩;replace BK884 := am (blk_below (g := gb884) (o := .cells #[.slice A0_0 l0_0.length c0_0,.slice A0_1 l0_1.length c0_1] 59 (0,0)) (by (with_reducible repeat (first | refine blk_drewN ?_ _ | refine blk_drew ?_ | refine blk_alloc ?_ _));exact BK884.out) hb);replace HB := am (below_step (HB.out) hb);(try clear hb);(try clear hb2);(try clear hk);(try clear hi);obtain ⟨hcz12_0,hcz12_1⟩ := cO2 BK884.out) | ((with_reducible refine gate_callee (f := 46) rfl ?_);refine goesL_ (some 17) rfl rfl Tryz.func46 (by kernel_rfl) rfl #[.agg #[.slice A0_0 l0_0.length c0_0,.slice A0_1 l0_1.length c0_1]] rfl (by (try simp only [List.map_toArray,List.map_cons,List.map_nil]);first | done | rfl | (simp only [List.length_drop,List.length_take];rfl)) ?_;(with_reducible refine (ca_Chain.calls _ _ l0_0 _ _ l0_1 t887 _ ?side1 ?side2 ?side3 ?side4 A5.out).mono ?_);(case side1 => exact kC HR0_0.out HB.out);(case side2 => exact HC0_0.out);(case side3 => exact kC HR0_1.out HB.out);(case side4 => exact HC0_1.out);rintro e w13 ⟨rfl,hb⟩;refine ⟨_,rfl,?_⟩;replace BK884 := am (blk_below (g := gb884) (o := .cells #[.slice A0_0 l0_0.length c0_0,.slice A0_1 l0_1.length c0_1] 59 (0,0)) (by (with_reducible repeat (first | refine blk_drewN ?_ _ | refine blk_drew ?_ | refine blk_alloc ?_ _));exact BK884.out) hb);replace HB := am (below_step (HB.out) hb);(try clear hb);(try clear hb2);(try clear hk);(try clear hi);obtain ⟨hcz14_0,hcz14_1⟩ := cO2 BK884.out) | ((with_reducible refine gate_callee (f := 32) rfl ?_);refine goesL_ (some 21) rfl rfl Tryz.func32 (by kernel_rfl) rfl #[.agg #[.slice A0_0 l0_0.length c0_0,.slice A0_1 l0_1.length c0_1],.int .i64 a1] rfl (by (try simp only [List.map_toArray,List.map_cons,List.map_nil]);first | done | rfl | (simp only [List.length_drop,List.length_take];rfl)) ?_;(with_reducible refine (ca_Flow.calls k _ _ l0_0 _ _ l0_1 a1 t888 t891 t894 _ ?side1 ?side2 ?side3 ?side4 A6.out).mono ?_);(case side1 => exact kC HR0_0.out HB.out);(case side2 => exact HC0_0.out);(case side3 => exact kC HR0_1.out HB.out);(case side4 => exact HC0_1.out);rintro e w15 ⟨v889,v892,rfl,ho0,ho1,hb⟩;refine ⟨_,rfl,?_⟩;have HO890 := am (Kd.N_lower (Kd.N_mono (ok' := fun k_ => some k_ ≠ (v892 : Value).ownBlock ∧ k_ ≠ gb884) (N_swapB ho0) (fun k_ hk_ => ⟨hk_.1,(Kd.freshB (g := gb884) (o := .cells #[.slice A0_0 l0_0.length c0_0,.slice A0_1 l0_1.length c0_1] 59 (0,0)) (by (with_reducible repeat (first | refine blk_drewN ?_ _ | refine blk_drew ?_ | refine blk_alloc ?_ _));exact BK884.out) k_ hk_.2.1)⟩)) (below_size (HB.out)));have HO893 := am (Kd.R_lower ho1 (below_size (HB.out)));replace BK884 := am (blk_below (g := gb884) (o := .cells #[.slice A0_0 l0_0.length c0_0,.slice A0_1 l0_1.length c0_1] 59 (0,0)) (by (with_reducible repeat (first | refine blk_drewN ?_ _ | refine blk_drew ?_ | refine blk_alloc ?_ _));exact BK884.out) hb);replace HB := am (below_step (HB.out) hb);(try clear hb);(try clear hb2);(try clear hk);(try clear hi);(try clear ho0);(try clear ho1);obtain ⟨hcz16_0,hcz16_1⟩ := cO2 BK884.out) | ((with_reducible refine gate_callee (f := 31) rfl ?_);refine goesL_ (some 26) rfl rfl Tryz.func31 (by kernel_rfl) rfl #[.agg #[.slice A0_0 l0_0.length c0_0,.slice A0_1 l0_1.length c0_1]] rfl (by (try simp only [List.map_toArray,List.map_cons,List.map_nil]);first | done | rfl | (simp only [List.length_drop,List.length_take];rfl)) ?_;(with_reducible refine (q4_Chain.calls k _ _ l0_0 _ _ l0_1 t895 _ ?side1 ?side2 ?side3 ?side4 A7.out).mono ?_);(case side1 => exact kC HR0_0.out HB.out);(case side2 => exact HC0_0.out);(case side3 => exact kC HR0_1.out HB.out);(case side4 => exact HC0_1.out);rintro e w17 ⟨rfl,hb⟩;refine ⟨_,rfl,?_⟩;replace HO890 := am (Kd.N_below (by (with_reducible repeat (first | apply Kd.N_alloc | apply Kd.N_drewN | apply Kd.N_drew));exact HO890.out) hb);replace HO893 := am (Kd.R_below (by (with_reducible repeat (first | apply Kd.R_alloc | apply Kd.R_drewN | apply Kd.R_drew));exact HO893.out) hb);replace BK884 := am (blk_below (g := gb884) (o := .cells #[.slice A0_0 l0_0.length c0_0,.slice A0_1 l0_1.length c0_1] 59 (0,0)) (by (with_reducible repeat (first | refine blk_drewN ?_ _ | refine blk_drew ?_ | refine blk_alloc ?_ _));exact BK884.out) hb);replace HB := am (below_step (HB.out) hb);(try clear hb);(try clear hb2);(try clear hk);(try clear hi)))
 (try simp only [Act.put,List.setIfInBounds_toArray,List.set_cons_zero,List.set_cons_succ])
 go_cut [39] (fun v39 wc => ∃ (kq : Nat) (x39_7 : Bool),v39 = .bool x39_7 ∧ Aside0 (l4_CastleChains.j0 kq a1 t888 t891 t894 x39_7 l0_0 l0_1 = some r) ∧ Aside0 (kq ≤ k) ∧ Aside0 (Kd.N (Kd.slice 3 (Kd.int .i64)) 28 wc w.heap.size (fun k_ => some k_ ≠ (v892 : Value).ownBlock ∧ k_ ≠ gb884) v889 t888) ∧ Aside0 (Kd.R (Kd.int .i64) 3 wc w.heap.size (fun _ => True) v892 t891) ∧ Aside0 (wc.heap[gb884]? = some (.cells #[(.slice A0_0 l0_0.length c0_0),(.slice A0_1 l0_1.length c0_1)] 59 (0,0))) ∧ Aside0 (Below w.heap.size w wc))
 case first =>
  have H := HC8.out
  clear HC8
  by_cases c18 : t895 = true
  case neg =>
   replace c18 := Bool.eq_false_iff.mpr c18
   subst c18
   replace H : (l4_CastleChains.j0 k a1 t888 t891 t894 (t887 != 2) l0_0 l0_1) = some r := by rw [if_neg (show ¬ (false = true) by decide)] at H;exact H
   replace H' := am H
   go_wp2
   go_meet
   case rel => exact ⟨_,((t887 != 2)),(by first | rfl | (simp;done) | (simp [*];done)),H',⟨by first | omega | exact Nat.le_refl _⟩,⟨by (with_reducible repeat (first | apply Kd.N_alloc | apply Kd.N_drewN | apply Kd.N_drew));exact HO890.out⟩,⟨by (with_reducible repeat (first | apply Kd.R_alloc | apply Kd.R_drewN | apply Kd.R_drew));exact HO893.out⟩,⟨BK884.out⟩,⟨HB.out⟩⟩
  subst c18
  replace H : (if t887 = 0 then (l4_CastleChains.j0 k a1 t888 t891 t894 false l0_0 l0_1) else (l4_CastleChains.j0 k a1 t888 t891 t894 true l0_0 l0_1)) = some r := by rw [if_pos rfl] at H;exact H
  by_cases c19 : t887 = 0
  case neg =>
   rw [if_neg c19] at H
   exact absurd H l4_CastleChains.j0_dead
  rw [if_pos c19] at H
  have c19b0 : (t887 == 0) = true := beq_iff_eq.mpr c19
  have c19b1 : (t887 != 0) = false := bne_eq_false_iff_eq.mpr c19
  clear c19
  (first | rw [c19b0] | (simp only [i64_w,i32_w];rw [c19b0]) | skip)
  replace H' := am H
  go_wp2
  go_meet
  case rel => exact ⟨_,(false),(by first | rfl | (simp;done) | (simp [*];done)),H',⟨by first | omega | exact Nat.le_refl _⟩,⟨by (with_reducible repeat (first | apply Kd.N_alloc | apply Kd.N_drewN | apply Kd.N_drew));exact HO890.out⟩,⟨by (with_reducible repeat (first | apply Kd.R_alloc | apply Kd.R_drewN | apply Kd.R_drew));exact HO893.out⟩,⟨BK884.out⟩,⟨HB.out⟩⟩
 case rest =>
  clear HC8
  obtain ⟨kq,x39_7,rfl,HA,HJ7,HO_6,HO_7,BK884,HB⟩ := hcut
  cases kq with
  | zero => exact absurd HA.out (by simp [l4_CastleChains.j0])
  | succ kj7 =>
   have H := HA.out
   clear HA
   simp only [l4_CastleChains.j0] at H
   by_cases c20 : x39_7 = true
   · subst c20
     replace H : (none) = some r := by rw [if_pos rfl] at H;exact H
     exact absurd H (by simp)
   · replace c20 := Bool.eq_false_iff.mpr c20
     subst c20
     replace H : ((q4_Chain.f kj7 l0_0 l0_1).bind fun t896 => (if t896 = true then ((q4_Cups.f a1).bind fun t897 => (l4_CastleChains.j1 kj7 a1 t888 t891 t894 (!t897) l0_0 l0_1)) else (l4_CastleChains.j1 kj7 a1 t888 t891 t894 true l0_0 l0_1))) = some r := by rw [if_neg (show ¬ (false = true) by decide)] at H;exact H
     have HC21 := am H
     clear H
     go_upto_region 8 with (fail)
     go_cut [47] (fun v47 wc => ∃ (kq : Nat) (x47_20 : Bool),v47 = .bool x47_20 ∧ Aside0 (l4_CastleChains.j1 kq a1 t888 t891 t894 x47_20 l0_0 l0_1 = some r) ∧ Aside0 (kq ≤ kj7) ∧ Aside0 (Kd.N (Kd.slice 3 (Kd.int .i64)) 28 wc w.heap.size (fun k_ => some k_ ≠ (v892 : Value).ownBlock ∧ k_ ≠ gb884) v889 t888) ∧ Aside0 (Kd.R (Kd.int .i64) 3 wc w.heap.size (fun _ => True) v892 t891) ∧ Aside0 (wc.heap[gb884]? = some (.cells #[(.slice A0_0 l0_0.length c0_0),(.slice A0_1 l0_1.length c0_1)] 59 (0,0))) ∧ Aside0 (Below w.heap.size w wc))
     case first =>
      have H := HC21.out
      clear HC21
      replace H := obm H
      obtain ⟨t896,A220,H⟩ := H
      replace H : (if t896 = true then ((q4_Cups.f a1).bind fun t897 => (l4_CastleChains.j1 kj7 a1 t888 t891 t894 (!t897) l0_0 l0_1)) else (l4_CastleChains.j1 kj7 a1 t888 t891 t894 true l0_0 l0_1)) = some r := H
      have A22 := am A220
      clear A220
      by_cases c23 : t896 = true
      case neg =>
       replace c23 := Bool.eq_false_iff.mpr c23
       subst c23
       replace H : (l4_CastleChains.j1 kj7 a1 t888 t891 t894 true l0_0 l0_1) = some r := by rw [if_neg (show ¬ (false = true) by decide)] at H;exact H
       replace H' := am H
       obtain ⟨hcz27_0,hcz27_1⟩ := cO2 BK884.out
       go_wp2_with (first | ((with_reducible refine gate_callee (f := 31) rfl ?_);refine goesL_ (some 41) rfl rfl Tryz.func31 (by kernel_rfl) rfl #[.agg #[.slice A0_0 l0_0.length c0_0,.slice A0_1 l0_1.length c0_1]] rfl (by (try simp only [List.map_toArray,List.map_cons,List.map_nil]);first | done | rfl | (simp only [List.length_drop,List.length_take];rfl)) ?_;(with_reducible refine (q4_Chain.calls kj7 _ _ l0_0 _ _ l0_1 false _ ?side1 ?side2 ?side3 ?side4 A22.out).mono ?_);(case side1 => exact kC HR0_0.out HB.out);(case side2 => exact HC0_0.out);(case side3 => exact kC HR0_1.out HB.out);(case side4 => exact HC0_1.out);rintro e w28 ⟨rfl,hb⟩;refine ⟨_,rfl,?_⟩;replace HO_6 := am (Kd.N_below (by (with_reducible repeat (first | apply Kd.N_alloc | apply Kd.N_drewN | apply Kd.N_drew));exact HO_6.out) hb);replace HO_7 := am (Kd.R_below (by (with_reducible repeat (first | apply Kd.R_alloc | apply Kd.R_drewN | apply Kd.R_drew));exact HO_7.out) hb);replace BK884 := am (blk_below (g := gb884) (o := .cells #[.slice A0_0 l0_0.length c0_0,.slice A0_1 l0_1.length c0_1] 59 (0,0)) (by (with_reducible repeat (first | refine blk_drewN ?_ _ | refine blk_drew ?_ | refine blk_alloc ?_ _));exact BK884.out) hb);replace HB := am (below_step (HB.out) hb);(try clear hb);(try clear hb2);(try clear hk);(try clear hi)))
       go_meet
       case rel => exact ⟨_,(true),(by first | rfl | (simp;done) | (simp [*];done)),H',⟨by have := HJ7.out;first | omega | exact Nat.le_refl _⟩,⟨by (with_reducible repeat (first | apply Kd.N_alloc | apply Kd.N_drewN | apply Kd.N_drew));exact HO_6.out⟩,⟨by (with_reducible repeat (first | apply Kd.R_alloc | apply Kd.R_drewN | apply Kd.R_drew));exact HO_7.out⟩,⟨BK884.out⟩,⟨HB.out⟩⟩
      subst c23
      replace H : ((q4_Cups.f a1).bind fun t897 => (l4_CastleChains.j1 kj7 a1 t888 t891 t894 (!t897) l0_0 l0_1)) = some r := by rw [if_pos rfl] at H;exact H
      replace H := obm H
      obtain ⟨t897,A240,H⟩ := H
      replace H : (l4_CastleChains.j1 kj7 a1 t888 t891 t894 (!t897) l0_0 l0_1) = some r := H
      have A24 := am A240
      clear A240
      replace H' := am H
      obtain ⟨hcz25_0,hcz25_1⟩ := cO2 BK884.out
      go_wp2_with (first | ((with_reducible refine gate_callee (f := 31) rfl ?_);refine goesL_ (some 41) rfl rfl Tryz.func31 (by kernel_rfl) rfl #[.agg #[.slice A0_0 l0_0.length c0_0,.slice A0_1 l0_1.length c0_1]] rfl (by (try simp only [List.map_toArray,List.map_cons,List.map_nil]);first | done | rfl | (simp only [List.length_drop,List.length_take];rfl)) ?_;(with_reducible refine (q4_Chain.calls kj7 _ _ l0_0 _ _ l0_1 true _ ?side1 ?side2 ?side3 ?side4 A22.out).mono ?_);(case side1 => exact kC HR0_0.out HB.out);(case side2 => exact HC0_0.out);(case side3 => exact kC HR0_1.out HB.out);(case side4 => exact HC0_1.out);rintro e w26 ⟨rfl,hb⟩;refine ⟨_,rfl,?_⟩;replace HO_6 := am (Kd.N_below (by (with_reducible repeat (first | apply Kd.N_alloc | apply Kd.N_drewN | apply Kd.N_drew));exact HO_6.out) hb);replace HO_7 := am (Kd.R_below (by (with_reducible repeat (first | apply Kd.R_alloc | apply Kd.R_drewN | apply Kd.R_drew));exact HO_7.out) hb);replace BK884 := am (blk_below (g := gb884) (o := .cells #[.slice A0_0 l0_0.length c0_0,.slice A0_1 l0_1.length c0_1] 59 (0,0)) (by (with_reducible repeat (first | refine blk_drewN ?_ _ | refine blk_drew ?_ | refine blk_alloc ?_ _));exact BK884.out) hb);replace HB := am (below_step (HB.out) hb);(try clear hb);(try clear hb2);(try clear hk);(try clear hi)) | (go_at_call 17;(with_reducible refine (q4_Cups.calls a1 t897 _ A24.out).mono ?_);rintro e w' ⟨rfl,⟨nd,rfl⟩⟩))
      go_meet
      case rel => exact ⟨_,(!t897),(by first | rfl | (simp;done) | (simp [*];done)),H',⟨by have := HJ7.out;first | omega | exact Nat.le_refl _⟩,⟨by (with_reducible repeat (first | apply Kd.N_alloc | apply Kd.N_drewN | apply Kd.N_drew));exact HO_6.out⟩,⟨by (with_reducible repeat (first | apply Kd.R_alloc | apply Kd.R_drewN | apply Kd.R_drew));exact HO_7.out⟩,⟨BK884.out⟩,⟨pw_below_drewN HB.out _⟩⟩
     case rest =>
      clear HC21
      obtain ⟨kq,x47_20,rfl,HA,HJ20,HO_6,HO_7,BK884,HB⟩ := hcut
      cases kq with
      | zero => exact absurd HA.out (by simp [l4_CastleChains.j1])
      | succ kj20 =>
       have H := HA.out
       clear HA
       simp only [l4_CastleChains.j1] at H
       by_cases c29 : x47_20 = true
       · subst c29
         replace H : (if t894 = 2 then (if (t888.length : Int) = 0 then (if (t891.length : Int) = 0 then ((l4_known.f).bind fun t898 => (some t898)) else (none)) else (none)) else (none)) = some r := by rw [if_pos rfl] at H;exact H
         by_cases c30 : t894 = 2
         case neg =>
          rw [if_neg c30] at H
          exact absurd H (by simp)
         rw [if_pos c30] at H
         have c30b0 : (t894 == 2) = true := beq_iff_eq.mpr c30
         have c30b1 : (t894 != 2) = false := bne_eq_false_iff_eq.mpr c30
         clear c30
         by_cases c31 : (t888.length : Int) = 0
         case neg =>
          rw [if_neg c31] at H
          exact absurd H (by simp)
         rw [if_pos c31] at H
         have c31b0 : ((t888.length : Int) == 0) = true := beq_iff_eq.mpr c31
         have c31b1 : ((t888.length : Int) != 0) = false := bne_eq_false_iff_eq.mpr c31
         clear c31
         by_cases c32 : (t891.length : Int) = 0
         case neg =>
          rw [if_neg c32] at H
          exact absurd H (by simp)
         rw [if_pos c32] at H
         have c32b0 : ((t891.length : Int) == 0) = true := beq_iff_eq.mpr c32
         have c32b1 : ((t891.length : Int) != 0) = false := bne_eq_false_iff_eq.mpr c32
         clear c32
         replace H := obm H
         obtain ⟨t898,A330,H⟩ := H
         replace H : (some t898) = some r := H
         have A33 := am A330
         clear A330
         obtain rfl := Option.some.inj H
         obtain ⟨Ao34,co34,eo34⟩ := Kd.N_slice HO_6.out
         subst eo34
         obtain ⟨Ao35,co35,eo35⟩ := Kd.R_slice HO_7.out
         subst eo35
         go_wp2_with (first | (go_at_call 19;(with_reducible refine (l4_known.calls  t898 _ A33.out).mono ?_);rintro e w36 ⟨rfl,hb⟩;replace HO_6 := am (Kd.N_below (by (with_reducible repeat (first | apply Kd.N_alloc | apply Kd.N_drewN | apply Kd.N_drew));exact HO_6.out) hb);replace HO_7 := am (Kd.R_below (by (with_reducible repeat (first | apply Kd.R_alloc | apply Kd.R_drewN | apply Kd.R_drew));exact HO_7.out) hb);replace BK884 := am (blk_below (g := gb884) (o := .cells #[.slice A0_0 l0_0.length c0_0,.slice A0_1 l0_1.length c0_1] 59 (0,0)) (by (with_reducible repeat (first | refine blk_drewN ?_ _ | refine blk_drew ?_ | refine blk_alloc ?_ _));exact BK884.out) hb);replace HB := am (below_step (HB.out) hb);(try clear hb);(try clear hb2);(try clear hk);(try clear hi)))
         go_ret
         exact ⟨by first | rfl | (simp [*] <;> rfl),HB.out⟩
       · replace c29 := Bool.eq_false_iff.mpr c29
         subst c29
         replace H : ((q4_Flows.f kj20 l0_0 l0_1 a1).bind fun bt899 => (if t894 = 0 then ((q4_SameLists.f kj20 t888 bt899.1).bind fun t905 => (if t905 = true then ((q4_Same.f kj20 t891 bt899.2).bind fun t906 => (if t906 = true then ((l4_known.f).bind fun t907 => (some t907)) else (none))) else (none))) else (none))) = some r := by rw [if_neg (show ¬ (false = true) by decide)] at H;exact H
         replace H := obm H
         obtain ⟨⟨t899,t902⟩,A370,H⟩ := H
         replace H : (if t894 = 0 then ((q4_SameLists.f kj20 t888 t899).bind fun t905 => (if t905 = true then ((q4_Same.f kj20 t891 t902).bind fun t906 => (if t906 = true then ((l4_known.f).bind fun t907 => (some t907)) else (none))) else (none))) else (none)) = some r := H
         have A37 := am A370
         clear A370
         by_cases c38 : t894 = 0
         case neg =>
          rw [if_neg c38] at H
          exact absurd H (by simp)
         rw [if_pos c38] at H
         have c38b0 : (t894 == 0) = true := beq_iff_eq.mpr c38
         have c38b1 : (t894 != 0) = false := bne_eq_false_iff_eq.mpr c38
         clear c38
         replace H := obm H
         obtain ⟨t905,A390,H⟩ := H
         replace H : (if t905 = true then ((q4_Same.f kj20 t891 t902).bind fun t906 => (if t906 = true then ((l4_known.f).bind fun t907 => (some t907)) else (none))) else (none)) = some r := H
         have A39 := am A390
         clear A390
         by_cases c40 : t905 = true
         case neg =>
          replace c40 := Bool.eq_false_iff.mpr c40
          subst c40
          replace H : (none) = some r := by rw [if_neg (show ¬ (false = true) by decide)] at H;exact H
          exact absurd H (by simp)
         subst c40
         replace H : ((q4_Same.f kj20 t891 t902).bind fun t906 => (if t906 = true then ((l4_known.f).bind fun t907 => (some t907)) else (none))) = some r := by rw [if_pos rfl] at H;exact H
         replace H := obm H
         obtain ⟨t906,A410,H⟩ := H
         replace H : (if t906 = true then ((l4_known.f).bind fun t907 => (some t907)) else (none)) = some r := H
         have A41 := am A410
         clear A410
         by_cases c42 : t906 = true
         case neg =>
          replace c42 := Bool.eq_false_iff.mpr c42
          subst c42
          replace H : (none) = some r := by rw [if_neg (show ¬ (false = true) by decide)] at H;exact H
          exact absurd H (by simp)
         subst c42
         replace H : ((l4_known.f).bind fun t907 => (some t907)) = some r := by rw [if_pos rfl] at H;exact H
         replace H := obm H
         obtain ⟨t907,A430,H⟩ := H
         replace H : (some t907) = some r := H
         have A43 := am A430
         clear A430
         obtain rfl := Option.some.inj H
         obtain ⟨hcz44_0,hcz44_1⟩ := cO2 BK884.out
         go_wp2_with (first | ((with_reducible refine gate_callee (f := 47) rfl ?_);refine goesL_ (some 66) rfl rfl Tryz.func47 (by kernel_rfl) rfl #[.agg #[.slice A0_0 l0_0.length c0_0,.slice A0_1 l0_1.length c0_1],.int .i64 a1] rfl (by (try simp only [List.map_toArray,List.map_cons,List.map_nil]);first | done | rfl | (simp only [List.length_drop,List.length_take];rfl)) ?_;(with_reducible refine (q4_Flows.calls kj20 _ _ l0_0 _ _ l0_1 a1 t899 t902 _ ?side1 ?side2 ?side3 ?side4 A37.out).mono ?_);(case side1 => exact kC HR0_0.out HB.out);(case side2 => exact HC0_0.out);(case side3 => exact kC HR0_1.out HB.out);(case side4 => exact HC0_1.out);rintro e w45 ⟨v900,v903,rfl,ho0,ho1,hb⟩;refine ⟨_,rfl,?_⟩;have HO901 := am (Kd.N_lower (Kd.N_mono (ok' := fun k_ => some k_ ≠ (v903 : Value).ownBlock ∧ some k_ ≠ (v889 : Value).ownBlock ∧ some k_ ≠ (v892 : Value).ownBlock ∧ k_ ≠ gb884) (Kd.S_N (Kd.S_bound ho0)) (fun k_ hk_ => ⟨hk_.1,(Kd.fresh' (Kd.N_lt (by (with_reducible repeat (first | apply Kd.N_alloc | apply Kd.N_drewN | apply Kd.N_drew));exact HO_6.out)) k_ hk_.2.1),(Kd.fresh' (Kd.R_lt (by (with_reducible repeat (first | apply Kd.R_alloc | apply Kd.R_drewN | apply Kd.R_drew));exact HO_7.out)) k_ hk_.2.1),(Kd.freshB (g := gb884) (o := .cells #[.slice A0_0 l0_0.length c0_0,.slice A0_1 l0_1.length c0_1] 59 (0,0)) (by (with_reducible repeat (first | refine blk_drewN ?_ _ | refine blk_drew ?_ | refine blk_alloc ?_ _));exact BK884.out) k_ hk_.2.1)⟩)) (below_size (HB.out)));have HO904 := am (Kd.R_lower (Kd.R_new' ho1 (Kd.R_lt (by (with_reducible repeat (first | apply Kd.R_alloc | apply Kd.R_drewN | apply Kd.R_drew));exact HO_7.out))) (below_size (HB.out)));replace HO_6 := am (Kd.N_mono (Kd.N_told (Kd.N_told (Kd.N_old (by (with_reducible repeat (first | apply Kd.N_alloc | apply Kd.N_drewN | apply Kd.N_drew));exact HO_6.out) hb) (Kd.S_base ho0)) (Kd.R_base ho1)) (fun _ h_ => h_.1));replace HO_7 := am (Kd.R_elder' (by (with_reducible repeat (first | apply Kd.R_alloc | apply Kd.R_drewN | apply Kd.R_drew));exact HO_7.out) (Kd.R_base ho1) hb);replace BK884 := am (blk_below (g := gb884) (o := .cells #[.slice A0_0 l0_0.length c0_0,.slice A0_1 l0_1.length c0_1] 59 (0,0)) (by (with_reducible repeat (first | refine blk_drewN ?_ _ | refine blk_drew ?_ | refine blk_alloc ?_ _));exact BK884.out) hb);replace HB := am (below_step (HB.out) hb);(try clear hb);(try clear hb2);(try clear hk);(try clear hi);(try clear ho0);(try clear ho1);obtain ⟨Ao46,co46,eo46⟩ := Kd.N_slice HO_6.out;subst eo46;obtain ⟨Ao47,co47,eo47⟩ := Kd.N_slice HO901.out;subst eo47) | (go_at_call 48;(with_reducible refine (q4_SameLists.calls kj20 _ _ t888 _ _ t899 true _ ?side1 ?side2 ?side3 ?side4 A39.out).mono ?_);(case side1 => repeat (first | exact (Kd.N_reads' HO_6.out).2.2 | (with_reducible refine Kd.C_alloc ?_ _) | (with_reducible refine Kd.C_drewN ?_ _) | (with_reducible refine Kd.C_drew ?_)));(case side2 => exact (Kd.N_reads' HO_6.out).2.1);(case side3 => repeat (first | exact (Kd.N_reads' HO901.out).2.2 | (with_reducible refine Kd.C_alloc ?_ _) | (with_reducible refine Kd.C_drewN ?_ _) | (with_reducible refine Kd.C_drew ?_)));(case side4 => exact (Kd.N_reads' HO901.out).2.1);rintro e w' ⟨rfl,⟨nd,rfl⟩⟩;obtain ⟨Ao48,co48,eo48⟩ := Kd.R_slice HO_7.out;subst eo48;obtain ⟨Ao49,co49,eo49⟩ := Kd.R_slice HO904.out;subst eo49) | (go_at_call 45;(with_reducible refine (q4_Same.calls kj20 _ _ t891 _ _ t902 true _ ?side1 ?side2 ?side3 ?side4 A41.out).mono ?_);(case side1 => repeat (first | exact (Kd.R_reads' HO_7.out).2.2 | (with_reducible refine Kd.C_alloc ?_ _) | (with_reducible refine Kd.C_drewN ?_ _) | (with_reducible refine Kd.C_drew ?_)));(case side2 => exact (Kd.R_reads' HO_7.out).2.1);(case side3 => repeat (first | exact (Kd.R_reads' HO904.out).2.2 | (with_reducible refine Kd.C_alloc ?_ _) | (with_reducible refine Kd.C_drewN ?_ _) | (with_reducible refine Kd.C_drew ?_)));(case side4 => exact (Kd.R_reads' HO904.out).2.1);rintro e w' ⟨rfl,⟨nd,rfl⟩⟩) | (go_at_call 19;(with_reducible refine (l4_known.calls  t907 _ A43.out).mono ?_);rintro e w50 ⟨rfl,hb⟩;replace HO_6 := am (Kd.N_below (by (with_reducible repeat (first | apply Kd.N_alloc | apply Kd.N_drewN | apply Kd.N_drew));exact HO_6.out) hb);replace HO_7 := am (Kd.R_below (by (with_reducible repeat (first | apply Kd.R_alloc | apply Kd.R_drewN | apply Kd.R_drew));exact HO_7.out) hb);replace HO901 := am (Kd.N_below (by (with_reducible repeat (first | apply Kd.N_alloc | apply Kd.N_drewN | apply Kd.N_drew));exact HO901.out) hb);replace HO904 := am (Kd.R_below (by (with_reducible repeat (first | apply Kd.R_alloc | apply Kd.R_drewN | apply Kd.R_drew));exact HO904.out) hb);replace BK884 := am (blk_below (g := gb884) (o := .cells #[.slice A0_0 l0_0.length c0_0,.slice A0_1 l0_1.length c0_1] 59 (0,0)) (by (with_reducible repeat (first | refine blk_drewN ?_ _ | refine blk_drew ?_ | refine blk_alloc ?_ _));exact BK884.out) hb);replace HB := am (below_step (pw_below_drewN HB.out _) hb);(try clear hb);(try clear hb2);(try clear hk);(try clear hi)))
         go_ret
         exact ⟨by first | rfl | (simp [*] <;> rfl),HB.out⟩
set_option linter.unusedSimpArgs false
set_option linter.unusedSimpArgs false
end
theorem w64 {n : Int} (h : -9223372036854775808≤n∧n≤9223372036854775807) : wrap64 n = n:=by unfold wrap64;omega
theorem ksucc {k : Nat} (h : 0 < k) : ∃ m,k = m + 1:=⟨k - 1,by omega⟩
def rowOk (r : S126) : Bool:=decide (1≤r.f0∧r.f0≤60) && (decide (1≤r.f1∧r.f1≤60) && decide (1≤r.f2∧r.f2≤1000))
def nozOk (n : Int) (z : S48) : Bool:=decide (0≤z.f0∧z.f0≤n - 1) && decide (0≤z.f1∧z.f1≤40)
def okT (rows : List S126) (draw : Int) : Bool:=decide (1≤(rows.length : Int)∧(rows.length : Int)≤12) && (decide (0≤draw∧draw≤100) && rows.all rowOk)
def okB (rows : List S126) (draw : Int) (noz : List S48) (weir spill : Int) : Bool:=
 okT rows draw && (decide (1≤(noz.length : Int)∧(noz.length : Int)≤6) && (decide (0≤weir∧weir≤40) && (decide (0≤spill∧spill≤100) && noz.all (nozOk rows.length))))
theorem c_in (a b c : Int) : ca_in.f a b c = some (decide (b≤a∧a≤c)):=by
 unfold ca_in.f
 by_cases h : a ≥ b
 ·rw [if_pos h];have : b≤a:=h;simp [this]
 ·rw [if_neg h];have : ¬ b≤a:=h;simp [this]
theorem n_in (a b c : Int) : nz_in.f a b c = some (decide (b≤a∧a≤c)):=c_in a b c
theorem r4_in (a b c : Int) : q4_in.f a b c = some (decide (b≤a∧a≤c)):=c_in a b c
theorem r3_in (a b c : Int) : q3_in.f a b c = some (decide (b≤a∧a≤c)):=c_in a b c
theorem c_height (a : Int) : ca_isHeight.f a = some (decide (0≤a∧a≤40)):=by unfold ca_isHeight.f;rw [c_in];rfl
theorem c_flow (a : Int) : ca_isFlow.f a = some (decide (0≤a∧a≤10000)):=by unfold ca_isFlow.f;rw [c_in];rfl
theorem r_height (a : Int) : q4_Height.f a = some (decide (0≤a∧a≤40)):=by unfold q4_Height.f;rw [r4_in];rfl
theorem r_cups (a : Int) : q4_Cups.f a = some (decide (0≤a∧a≤10000)):=by unfold q4_Cups.f;rw [r4_in];rfl
theorem anyM_total {α : Type} {q : α→Option Bool} {p : α→Bool} (h : ∀ x,q x = some (p x)) : ∀ xs,anyM q xs = some (xs.any p)
 | []=>rfl
 | x :: xs=>by
  simp only [anyM,h,Option.bind_some,List.any_cons,anyM_total h xs]
  cases p x<;>rfl
theorem row_bad (x : S126) : nz_isTable_1.f x.f0 x.f1 x.f2 = some (!rowOk x):=by
 unfold nz_isTable_1.f rowOk
 simp only [n_in,Option.bind_some]
 cases decide (1≤x.f0∧x.f0≤60)<;>cases decide (1≤x.f1∧x.f1≤60)<;>cases decide (1≤x.f2∧x.f2≤1000)<;>rfl
theorem noz_bad {rows : List S126} (hl : rows.length≤1000) (x : S48) : ca_isBasin_1.f rows x = some (!nozOk rows.length x):=by
 unfold ca_isBasin_1.f nozOk
 rw [w64 (by omega)]
 simp only [c_in,c_height,Option.bind_some]
 cases decide (0≤x.f0∧x.f0≤(rows.length : Int) - 1)<;>cases decide (0≤x.f1∧x.f1≤40)<;>rfl
theorem isTable_eq (rows : List S126) (draw : Int) : nz_isTable.f rows draw = some (okT rows draw):=by
 unfold nz_isTable.f okT cf_isTable.f
 rw [anyM_total row_bad,← List.not_all_eq_any_not]
 simp only [n_in,Option.bind_some]
 cases decide (1≤(rows.length : Int)∧(rows.length : Int)≤12)<;>cases decide (0≤draw∧draw≤100)<;>cases rows.all rowOk<;>rfl
theorem isBasin_eq {rows : List S126} {draw : Int} {noz : List S48} {weir spill : Int} (hl : rows.length≤1000) : ca_isBasin.f rows draw noz weir spill = some (okB rows draw noz weir spill):=by
 unfold ca_isBasin.f okB nz_Check.f
 rw [anyM_total (noz_bad hl),← List.not_all_eq_any_not,isTable_eq]
 simp only [c_in,c_height,Option.bind_some]
 cases okT rows draw<;>cases decide (1≤(noz.length : Int)∧(noz.length : Int)≤6)<;>cases decide (0≤weir∧weir≤40)<;>cases decide (0≤spill∧spill≤100)<;>cases noz.all (nozOk rows.length)<;>rfl
theorem refTable_go (rows : List S126) (draw : Int) (hl : rows.length≤1000) : ∀ (d k : Nat) (i : Int),0≤i→i + d = rows.length→d < k→
  q3_Table.l0 k i rows draw = some ((rows.drop i.toNat).all rowOk && (decide (1≤(rows.length : Int)∧(rows.length : Int)≤12) && decide (0≤draw∧draw≤100)))
 | 0,k,i,h0,hi,hk=>by
  obtain ⟨k,rfl⟩:=ksucc hk
  simp only [q3_Table.l0]
  rw [if_neg (by omega),List.drop_of_length_le (by omega)]
  simp only [r3_in,Option.bind_some,List.all_nil,Bool.true_and]
  cases decide (1≤(rows.length : Int)∧(rows.length : Int)≤12)<;>cases decide (0≤draw∧draw≤100)<;>rfl
 | d + 1,k,i,h0,hi,hk=>by
  obtain ⟨k,rfl⟩:=ksucc (by omega : 0 < k)
  simp only [q3_Table.l0]
  rw [if_pos (by omega),if_pos h0,w64 (by omega),refTable_go rows draw hl d k (i + 1) (by omega) (by omega) (by omega),drop_at z126 rows i h0 (by omega),List.all_cons]
  show _ = some ((rowOk (rd_T126 rows i) && _) && _)
  unfold rowOk
  simp only [r3_in,Option.bind_some]
  cases decide (1≤(rd_T126 rows i).f0∧(rd_T126 rows i).f0≤60)<;>cases decide (1≤(rd_T126 rows i).f1∧(rd_T126 rows i).f1≤60)<;>cases decide (1≤(rd_T126 rows i).f2∧(rd_T126 rows i).f2≤1000)<;>rfl
theorem refTable_eq {rows : List S126} {draw : Int} {k : Nat} (hl : rows.length≤1000) (hk : rows.length < k) : q3_Table.f k rows draw = some (okT rows draw):=by
 unfold q3_Table.f okT
 rw [refTable_go rows draw hl rows.length k 0 (by omega) (by omega) hk]
 show some (rows.all rowOk && _) = _
 cases decide (1≤(rows.length : Int)∧(rows.length : Int)≤12)<;>cases decide (0≤draw∧draw≤100)<;>cases rows.all rowOk<;>rfl
theorem refBasin_go (rows : List S126) (draw : Int) (noz : List S48) (weir spill : Int) (hl : rows.length≤1000) (hn : noz.length≤1000) : ∀ (d k : Nat) (i : Int),0≤i→i + d = noz.length→rows.length + d + 1 < k→
  q4_Basin.l0 k i rows draw noz weir spill = some ((noz.drop i.toNat).all (nozOk rows.length) && (okT rows draw && (decide (1≤(noz.length : Int)∧(noz.length : Int)≤6) && (decide (0≤weir∧weir≤40) && decide (0≤spill∧spill≤100)))))
 | 0,k,i,h0,hi,hk=>by
  obtain ⟨k,rfl⟩:=ksucc (by omega : 0 < k)
  simp only [q4_Basin.l0]
  rw [if_neg (by omega),List.drop_of_length_le (by omega),refTable_eq hl (by omega)]
  simp only [r4_in,r_height,Option.bind_some,List.all_nil,Bool.true_and]
  cases okT rows draw<;>cases decide (1≤(noz.length : Int)∧(noz.length : Int)≤6)<;>cases decide (0≤weir∧weir≤40)<;>cases decide (0≤spill∧spill≤100)<;>rfl
 | d + 1,k,i,h0,hi,hk=>by
  obtain ⟨k,rfl⟩:=ksucc (by omega : 0 < k)
  simp only [q4_Basin.l0]
  rw [if_pos (by omega),if_pos h0,w64 (n:=i + 1) (by omega),w64 (by omega),refBasin_go rows draw noz weir spill hl hn d k (i + 1) (by omega) (by omega) (by omega),drop_at z48 noz i h0 (by omega),List.all_cons]
  show _ = some ((nozOk rows.length (rd_T48 noz i) && _) && _)
  unfold nozOk
  simp only [r4_in,r_height,Option.bind_some]
  cases decide (0≤(rd_T48 noz i).f0∧(rd_T48 noz i).f0≤(rows.length : Int) - 1)<;>cases decide (0≤(rd_T48 noz i).f1∧(rd_T48 noz i).f1≤40)<;>rfl
theorem refBasin_eq {rows : List S126} {draw : Int} {noz : List S48} {weir spill : Int} {k : Nat} (hl : rows.length≤1000) (hn : noz.length≤1000) (hk : rows.length + noz.length + 1 < k) :
  q4_Basin.f k rows draw noz weir spill = some (okB rows draw noz weir spill):=by
 unfold q4_Basin.f okB
 rw [refBasin_go rows draw noz weir spill hl hn noz.length k 0 (by omega) (by omega) hk]
 show some (noz.all (nozOk rows.length) && _) = _
 cases okT rows draw<;>cases decide (1≤(noz.length : Int)∧(noz.length : Int)≤6)<;>cases decide (0≤weir∧weir≤40)<;>cases decide (0≤spill∧spill≤100)<;>cases noz.all (nozOk rows.length)<;>rfl
structure OkB (rows : List S126) (draw : Int) (noz : List S48) (weir spill : Int) : Prop where
 r1 : 1≤rows.length
 r2 : rows.length≤12
 tab : okT rows draw = true
 rr : ∀ r ∈ rows,1≤r.f2∧r.f2≤1000
 n1 : 1≤noz.length
 n2 : noz.length≤6
 w0 : 0≤weir
 w1 : weir≤40
 s0 : 0≤spill
 s1 : spill≤100
 nn : ∀ z ∈ noz,0≤z.f0∧z.f0 < rows.length∧0≤z.f1∧z.f1≤40
theorem okB_iff {rows : List S126} {draw : Int} {noz : List S48} {weir spill : Int} : okB rows draw noz weir spill = true↔OkB rows draw noz weir spill:=by
 constructor
 ·intro h
  unfold okB at h
  simp only [Bool.and_eq_true,decide_eq_true_eq,List.all_eq_true] at h
  obtain ⟨ht,h2,h3,h4,h5⟩:=h
  have ht':=ht
  unfold okT at ht'
  simp only [Bool.and_eq_true,decide_eq_true_eq,List.all_eq_true] at ht'
  obtain ⟨h0,h1,hr⟩:=ht'
  refine ⟨by omega,by omega,ht,fun r hm=>?_,by omega,by omega,by omega,by omega,by omega,by omega,fun z hm=>?_⟩
  ·have:=hr r hm;unfold rowOk at this;simp only [Bool.and_eq_true,decide_eq_true_eq] at this;omega
  ·have:=h5 z hm;unfold nozOk at this;simp only [Bool.and_eq_true,decide_eq_true_eq] at this;omega
 ·intro h
  unfold okB
  simp only [Bool.and_eq_true,decide_eq_true_eq,List.all_eq_true]
  have a1:=h.n1;have a2:=h.n2
  refine ⟨h.tab,by omega,⟨h.w0,h.w1⟩,⟨h.s0,h.s1⟩,fun z hz=>?_⟩
  have:=h.nn z hz
  unfold nozOk;simp only [Bool.and_eq_true,decide_eq_true_eq];omega
def gvz (rows : List S126) (z : S48) : Int:=(rd_T126 rows z.f0).f2
def pour (rows : List S126) (h : Int) (z : S48) : Int:=gvz rows z * mx 0 (mn 5 (h - z.f1)) / 5
def gat (rows : List S126) (noz : List S48) (h : Int) : List Int:=noz.map (pour rows h)
theorem gvz_in {rows : List S126} {draw : Int} {noz : List S48} {weir spill : Int} (h : OkB rows draw noz weir spill) {z : S48} (hz : z ∈ noz) : 1≤gvz rows z∧gvz rows z≤1000:=by
 have a:=h.nn z hz
 exact h.rr _ (getD_mem z126 a.1 a.2.1)
theorem mm_cases (x : Int) : mx 0 (mn 5 x) = 0∨mx 0 (mn 5 x) = 1∨mx 0 (mn 5 x) = 2∨mx 0 (mn 5 x) = 3∨mx 0 (mn 5 x) = 4∨mx 0 (mn 5 x) = 5:=by
 unfold mx mn;split<;>split<;>omega
theorem mm_swap (x : Int) : mn 5 (mx 0 x) = mx 0 (mn 5 x):=by unfold mx mn;(repeat' split)<;>omega
theorem pour_prog {g m : Int} (h0 : 0≤g) (h1 : g≤1000) (hm : m = 0∨m = 1∨m = 2∨m = 3∨m = 4∨m = 5) : wrap64 (Int.tdiv (wrap64 (g * m)) 5) = g * m / 5:=by
 have : 0≤g * m∧g * m≤5000:=by rcases hm with rfl | rfl | rfl | rfl | rfl | rfl<;>omega
 rw [w64 (n:=g * m) (by omega),Int.tdiv_eq_ediv_of_nonneg this.1,w64 (by omega)]
theorem pour_in {rows : List S126} {draw : Int} {noz : List S48} {weir spill : Int} (h : OkB rows draw noz weir spill) {z : S48} (hz : z ∈ noz) (x : Int) : 0≤pour rows x z∧pour rows x z≤1000:=by
 have a:=gvz_in h hz
 unfold pour
 rcases mm_cases (x - z.f1) with e | e | e | e | e | e<;>rw [e]<;>omega
theorem rd_map (f : S48→Int) {noz : List S48} {i : Int} (h0 : 0≤i) (h1 : i < noz.length) : rd (noz.map f) i = f (rd_T48 noz i):=by
 unfold rd rd_T48
 rw [List.getD_eq_getElem?_getD,List.getD_eq_getElem?_getD,List.getElem?_map,List.getElem?_eq_getElem (show i.toNat < noz.length by omega)]
 rfl
theorem take_snoc {α β : Type} (d : α) (f : α→β) (l : List α) {i : Int} (h0 : 0≤i) (h1 : i < l.length) : (l.take (i + 1).toNat).map f = (l.take i.toNat).map f ++ [f (l.getD i.toNat d)]:=by
 rw [show (i + 1).toNat = i.toNat + 1 by omega,List.take_succ_eq_append_getElem (show i.toNat < l.length by omega),List.map_append,List.getD_eq_getElem?_getD,List.getElem?_eq_getElem (show i.toNat < l.length by omega)]
 rfl
theorem sum_bd {l : List Int} {B : Int} (hB : 0≤B) (h : ∀ x ∈ l,-B≤x∧x≤B) : -(B * l.length)≤l.sum∧l.sum≤B * l.length:=by
 induction l with
 | nil=>simp
 | cons x l ih =>
  have a:=h x (by simp)
  have b:=ih (fun y hy=>h y (by simp [hy]))
  rw [List.sum_cons,List.length_cons,Int.natCast_add,Int.mul_add]
  omega
theorem sum_go (xs : List Int) (hl : xs.length≤1000) (hx : ∀ x ∈ xs,-1000000≤x∧x≤1000000) : ∀ (d k : Nat) (i acc : Int),0≤i→i + d = xs.length→d < k→-1000000 * i≤acc∧acc≤1000000 * i→
  ca_sum.l0 k acc xs xs.length i = some (acc + (xs.drop i.toNat).sum)
 | 0,k,i,acc,h0,hi,hk,hb=>by
  obtain ⟨k,rfl⟩:=ksucc hk
  simp only [ca_sum.l0]
  rw [if_neg (by omega),List.drop_of_length_le (by omega)]
  simp
 | d + 1,k,i,acc,h0,hi,hk,hb=>by
  obtain ⟨k,rfl⟩:=ksucc (by omega : 0 < k)
  simp only [ca_sum.l0]
  have e:=drop_at (0 : Int) xs i h0 (by omega)
  have m:=hx _ (getD_mem (0 : Int) h0 (by omega : i < xs.length))
  rw [if_pos (by omega),if_pos h0,if_pos (by omega)]
  unfold rd
  rw [w64 (n:=acc + _) (by omega),w64 (by omega),sum_go xs hl hx d k (i + 1) _ (by omega) (by omega) (by omega) (by omega),e,List.sum_cons,Int.add_assoc]
theorem csum {k : Nat} {l : List Int} (hl : l.length≤1000) (hx : ∀ x ∈ l,-1000000≤x∧x≤1000000) (hk : l.length < k) : ca_sum.f k l = some l.sum:=by
 unfold ca_sum.f
 rw [sum_go l hl hx l.length k 0 0 (by omega) (by omega) hk (by omega)]
 simp
theorem nsum {k : Nat} {l : List Int} (hl : l.length≤1000) (hx : ∀ x ∈ l,-1000000≤x∧x≤1000000) (hk : l.length < k) : nz_sum.f k l = some l.sum:=by
 have e : ∀ k x3 x6 x7 x8,nz_sum.l0 k x3 x6 x7 x8 = ca_sum.l0 k x3 x6 x7 x8:=by
  intro k
  induction k with
  | zero=>intros;rfl
  | succ k ih=>intro a b c d;simp only [nz_sum.l0,ca_sum.l0,ih]
 have h:=csum hl hx hk
 unfold ca_sum.f at h
 unfold nz_sum.f
 rw [e,h]
theorem isRow_eq {rows : List S126} {draw n : Int} (hl : rows.length≤1000) : nz_isRow.f rows draw n = some (decide (0≤n∧n≤(rows.length : Int) - 1)):=by
 unfold nz_isRow.f
 rw [w64 (by omega),n_in]
 rfl
theorem isSet1_eq {rows : List S126} {draw n : Int} (h0 : 0≤n) (h1 : n < rows.length) (hl : rows.length≤1000) : nz_isSet.f rows draw [n] = some true:=by
 unfold nz_isSet.f
 rw [if_pos (by simp)]
 have : sl_IsSorted_int_int.f ([n].length + 1) [n] = some true:=by
  unfold sl_IsSorted_int_int.f
  simp only [sl_IsSorted_int_int.l0,List.length_cons,List.length_nil]
  rw [if_neg (by unfold wrap64;omega)]
 rw [this]
 simp only [Option.bind_some,anyM,isRow_eq hl]
 rw [decide_eq_true (show 0≤n∧n≤(rows.length : Int) - 1 by omega)]
 rfl
theorem gives1_eq {rows : List S126} {draw n : Int} {k : Nat} (h0 : 0≤n) (h1 : n < rows.length) (hl : rows.length≤1000) (hg : 0≤(rd_T126 rows n).f2∧(rd_T126 rows n).f2≤1000000) (hk : 5≤k) : nz_gives.f k rows draw [n] = some (rd_T126 rows n).f2:=by
 obtain ⟨m,rfl⟩ : ∃ m,k = m + 1 + 1:=⟨k - 2,by omega⟩
 unfold nz_gives.f
 have e0 : rd [n] 0 = n:=rfl
 have e1 : wrap64 (0 + 1) = 1:=by unfold wrap64;omega
 simp only [nz_gives.l0,List.length_cons,List.length_nil,e0,e1]
 rw [if_pos (by decide),if_pos (by decide),if_pos (by decide),if_pos h0,if_pos h1,if_pos (by decide),if_neg (by decide)]
 simp only [List.nil_append]
 rw [nsum (by simp) (by intro x hx;simp at hx;subst hx;omega) (by simp;omega)]
 simp
theorem Gives1_eq {rows : List S126} {draw : Int} {noz : List S48} {weir spill : Int} (h : OkB rows draw noz weir spill) {z : S48} (hz : z ∈ noz) {k : Nat} (hk : 5≤k) : nz_Gives.f k rows draw [z.f0] = some (gvz rows z,0):=by
 have a:=h.nn z hz
 have g:=gvz_in h hz
 unfold nz_Gives.f
 rw [isTable_eq,h.tab,Option.bind_some,if_pos rfl,isSet1_eq a.1 a.2.1 (by have:=h.r2;omega),Option.bind_some,if_pos rfl,gives1_eq a.1 a.2.1 (by have:=h.r2;omega) (by unfold gvz at g;omega) hk]
 rfl
def grid (rows : List S126) (noz : List S48) : List (List Int):=(List.range 41).map fun (j : Nat)=>gat rows noz (j : Int)
theorem grid_len (rows : List S126) (noz : List S48) : (grid rows noz).length = 41:=by simp [grid]
theorem grid_at (rows : List S126) (noz : List S48) {h : Int} (h0 : 0≤h) (h1 : h≤40) : rd_L3 (grid rows noz) h = gat rows noz h:=by
 unfold rd_L3 grid
 rw [List.getD_eq_getElem?_getD,List.getElem?_map,List.getElem?_range (by omega)]
 simp only [Option.map_some,Option.getD_some]
 rw [show ((h.toNat : Nat) : Int) = h by omega]
section
variable {rows : List S126} {draw : Int} {noz : List S48} {weir spill : Int}
theorem z_mem {i : Int} (h0 : 0≤i) (h1 : i < noz.length) : rd_T48 noz i ∈ noz:=getD_mem z48 h0 h1
theorem fill_l2 (h : OkB rows draw noz weir spill) (hh : Int) (p0 : 0≤hh) (p1 : hh≤40) (G : List (List Int)) (hG : G.length≤41) (r) (C : Nat) (hr : ∀ k,C≤k→ca_fill.l1 k (noz.map (gvz rows)) (hh + 1) rows draw noz weir spill rows draw noz weir spill (G ++ [gat rows noz hh]) = r) : ∀ (d k : Nat) (i : Int),0≤i→i + d = noz.length→C + d < k→
  ca_fill.l2 k (noz.map (gvz rows)) hh ((noz.take i.toNat).map (pour rows hh)) hh noz noz.length i rows draw noz weir spill rows draw noz weir spill G = r
 | 0,k,i,h0,hi,hk=>by
  obtain ⟨k,rfl⟩:=ksucc (by omega : 0 < k)
  simp only [ca_fill.l2]
  rw [if_neg (by omega),if_pos (by omega),w64 (by omega),List.take_of_length_le (by omega)]
  exact hr k (by omega)
 | d + 1,k,i,h0,hi,hk=>by
  obtain ⟨k,rfl⟩:=ksucc (by omega : 0 < k)
  have n2:=h.n2
  have hz:=z_mem h0 (by omega : i < noz.length)
  have a:=h.nn _ hz
  have g:=gvz_in h hz
  simp only [ca_fill.l2]
  rw [if_pos (by omega),if_pos h0,if_pos (by omega),if_pos (by rw [List.length_map];omega),if_pos (by rw [List.length_map,List.length_take];omega),rd_map _ h0 (by omega),w64 (n:=hh - _) (by omega),pour_prog (by omega) (by omega) (mm_cases _),w64 (n:=i + 1) (by omega)]
  have e:=take_snoc z48 (pour rows hh) noz h0 (by omega)
  have f:=fill_l2 h hh p0 p1 G hG r C hr d k (i + 1) (by omega) (by omega) (by omega)
  rw [e] at f
  exact f
theorem fill_l1 (h : OkB rows draw noz weir spill) : ∀ (d k j : Nat),j + d = 41→d * (noz.length + 3) < k→
  ca_fill.l1 k (noz.map (gvz rows)) j rows draw noz weir spill rows draw noz weir spill ((List.range j).map fun (q : Nat)=>gat rows noz (q : Int)) = some (draw,weir,spill,grid rows noz)
 | 0,k,j,hj,hk=>by
  obtain ⟨k,rfl⟩:=ksucc (by omega : 0 < k)
  obtain rfl : j = 41:=by omega
  simp only [ca_fill.l1]
  rw [if_neg (by omega)]
  rfl
 | d + 1,k,j,hj,hk=>by
  rw [Nat.succ_mul] at hk
  obtain ⟨k,rfl⟩:=ksucc (by omega : 0 < k)
  simp only [ca_fill.l1]
  rw [if_pos (by omega)]
  refine fill_l2 h j (by omega) (by omega) _ (by simp;omega) _ (d * (noz.length + 3) + 1) (fun k' hk'=>?_) noz.length k 0 (by omega) (by omega) (by omega)
  have f:=fill_l1 h d k' (j + 1) (by omega) (by omega)
  rw [List.range_succ,List.map_append] at f
  exact f
theorem fill_l0 (h : OkB rows draw noz weir spill) : ∀ (d k : Nat) (i : Int),0≤i→i + d = noz.length→41 * (noz.length + 3) + d + 5 < k→
  ca_fill.l0 k ((noz.take i.toNat).map (gvz rows)) noz noz.length i rows draw noz weir spill rows draw noz weir spill = some (draw,weir,spill,grid rows noz)
 | 0,k,i,h0,hi,hk=>by
  obtain ⟨k,rfl⟩:=ksucc (by omega : 0 < k)
  simp only [ca_fill.l0]
  rw [if_neg (by omega),List.take_of_length_le (by omega)]
  exact fill_l1 h 41 k 0 (by omega) (by omega)
 | d + 1,k,i,h0,hi,hk=>by
  obtain ⟨k,rfl⟩:=ksucc (by omega : 0 < k)
  have n2:=h.n2
  simp only [ca_fill.l0]
  rw [if_pos (by omega),if_pos h0,if_pos (by omega),Gives1_eq h (z_mem h0 (by omega)) (by omega),Option.bind_some,if_pos (by rw [List.length_map,List.length_take];omega),w64 (by omega)]
  have e:=take_snoc z48 (gvz rows) noz h0 (by omega)
  have f:=fill_l0 h d k (i + 1) (by omega) (by omega) (by omega)
  rw [e] at f
  exact f
theorem fillK_eq (h : OkB rows draw noz weir spill) : ca_fill.f (fillK noz.length) rows draw noz weir spill = some (draw,weir,spill,grid rows noz):=
 fill_l0 h noz.length _ 0 (by omega) (by omega) (by unfold fillK;omega)
def over (weir spill h : Int) : Int:=spill * mx 0 (h - weir)
def tot (rows : List S126) (noz : List S48) (weir spill h : Int) : Int:=(gat rows noz h).sum + over weir spill h
theorem over_in (h : OkB rows draw noz weir spill) {x : Int} (h0 : 0≤x) (h1 : x≤40) : 0≤over weir spill x∧over weir spill x≤4000:=by
 have a:=h.s0;have b:=h.s1;have c:=h.w0
 unfold over
 have m : 0≤mx 0 (x - weir)∧mx 0 (x - weir)≤40:=by unfold mx;split<;>omega
 exact ⟨Int.mul_nonneg a m.1,by have:=Int.mul_le_mul b m.2 m.1 (by omega : (0 : Int)≤100);omega⟩
theorem gat_in (h : OkB rows draw noz weir spill) (x : Int) : ∀ y ∈ gat rows noz x,0≤y∧y≤1000:=by
 intro y hy
 unfold gat at hy
 obtain ⟨z,hz,rfl⟩:=List.mem_map.1 hy
 exact pour_in h hz x
theorem gat_len (x : Int) : (gat rows noz x).length = noz.length:=by simp [gat]
theorem sum_nn {l : List Int} (h : ∀ x ∈ l,0≤x) : 0≤l.sum:=by
 induction l with
 | nil=>simp
 | cons x l ih=>rw [List.sum_cons];have:=h x (by simp);have:=ih (fun y hy=>h y (by simp [hy]));omega
theorem gsum_in (h : OkB rows draw noz weir spill) (x : Int) : 0≤(gat rows noz x).sum∧(gat rows noz x).sum≤6000:=by
 have a:=gat_in h x
 have b:=sum_bd (l:=gat rows noz x) (B:=1000) (by omega) (fun y hy=>by have:=a y hy;omega)
 rw [gat_len] at b
 have:=h.n2
 exact ⟨sum_nn (fun y hy=>(a y hy).1),by omega⟩
theorem tot_in (h : OkB rows draw noz weir spill) {x : Int} (h0 : 0≤x) (h1 : x≤40) : 0≤tot rows noz weir spill x∧tot rows noz weir spill x≤10000:=by
 have a:=gsum_in h x
 have b:=over_in h h0 h1
 unfold tot
 omega
theorem weir_eq (h : OkB rows draw noz weir spill) {x : Int} (h0 : 0≤x) (h1 : x≤40) : gf_weir.f rows draw noz weir spill (grid rows noz) x = some (over weir spill x):=by
 have a:=over_in h h0 h1
 have c:=h.w0;have c1:=h.w1
 unfold gf_weir.f
 rw [w64 (n:=x - weir) (by omega),w64 (n:=spill * _) (by unfold over at a;omega)]
 rfl
theorem out_eq (h : OkB rows draw noz weir spill) {x : Int} (h0 : 0≤x) (h1 : x≤40) : gf_out.f rows draw noz weir spill (grid rows noz) x = some (tot rows noz weir spill x):=by
 have a:=gat_in h x
 have b:=over_in h h0 h1
 have c:=gsum_in h x
 unfold gf_out.f gf_nozzles.f
 rw [if_pos h0,if_pos (by rw [grid_len];omega),grid_at _ _ h0 h1,csum (by rw [gat_len];have:=h.n2;omega) (fun y hy=>by have:=a y hy;omega) (by omega),weir_eq h h0 h1]
 simp only [Option.bind_some]
 rw [w64 (n:=(gat rows noz x).sum) (by omega),w64 (by omega)]
 rfl
theorem mm_mono {a b : Int} (h : a≤b) : mx 0 (mn 5 a)≤mx 0 (mn 5 b):=by unfold mx mn;(repeat' split)<;>omega
theorem pour_mono (h : OkB rows draw noz weir spill) {z : S48} (hz : z ∈ noz) {a b : Int} (hab : a≤b) : pour rows a z≤pour rows b z:=by
 have g:=gvz_in h hz
 unfold pour
 exact Int.ediv_le_ediv (by omega) (Int.mul_le_mul_of_nonneg_left (mm_mono (by omega)) (by omega))
theorem sum_mono_map {f g : S48→Int} : ∀ {l : List S48},(∀ z ∈ l,f z≤g z)→(l.map f).sum≤(l.map g).sum
 | [],_=>by simp
 | z :: l,h=>by
  simp only [List.map_cons,List.sum_cons]
  have:=h z (by simp)
  have:=sum_mono_map (l:=l) (fun y hy=>h y (by simp [hy]))
  omega
theorem over_mono (h : OkB rows draw noz weir spill) {a b : Int} (hab : a≤b) : over weir spill a≤over weir spill b:=by
 unfold over
 exact Int.mul_le_mul_of_nonneg_left (by unfold mx;(repeat' split)<;>omega) h.s0
theorem tot_mono (h : OkB rows draw noz weir spill) {a b : Int} (hab : a≤b) : tot rows noz weir spill a≤tot rows noz weir spill b:=by
 have:=over_mono h hab
 have:=sum_mono_map (f:=pour rows a) (g:=pour rows b) (l:=noz) (fun z hz=>pour_mono h hz hab)
 unfold tot gat
 omega
theorem tot_zero (h : OkB rows draw noz weir spill) : tot rows noz weir spill 0 = 0:=by
 have e : gat rows noz 0 = noz.map (fun _=>0):=by
  unfold gat
  refine List.map_congr_left fun z hz=>?_
  have a:=h.nn z hz
  unfold pour
  rw [show mx 0 (mn 5 (0 - z.f1)) = 0 by unfold mx mn;(repeat' split)<;>omega]
  simp
 have s : ∀ l : List S48,(l.map (fun _=>(0 : Int))).sum = 0:=by
  intro l
  induction l with
  | nil=>rfl
  | cons z l ih=>simp only [List.map_cons,List.sum_cons,ih];rfl
 have o : over weir spill 0 = 0:=by
  have:=h.w0
  unfold over
  rw [show mx 0 (0 - weir) = 0 by unfold mx;split<;>omega]
  simp
 unfold tot
 rw [e,s,o]
 rfl
def Lev (rows : List S126) (noz : List S48) (weir spill cups h : Int) : Prop:=0≤h∧h≤40∧tot rows noz weir spill h≤cups∧(h < 40→cups < tot rows noz weir spill (h + 1))
theorem Lev.uniq (h : OkB rows draw noz weir spill) {cups a b : Int} (ha : Lev rows noz weir spill cups a) (hb : Lev rows noz weir spill cups b) : a = b:=by
 obtain ⟨a0,a1,a2,a3⟩:=ha
 obtain ⟨b0,b1,b2,b3⟩:=hb
 rcases Int.lt_trichotomy a b with l | l | l
 ·have:=a3 (by omega)
  have:=tot_mono h (show a + 1≤b by omega)
  omega
 ·exact l
 ·have:=b3 (by omega)
  have:=tot_mono h (show b + 1≤a by omega)
  omega
theorem levelGo_eq (h : OkB rows draw noz weir spill) {cups : Int} : ∀ (n : Nat) (i : Int),0≤i→i + n = 41→(0 < i→tot rows noz weir spill (i - 1)≤cups)→0≤cups→
  ∃ r,levelGo rows draw noz weir spill (grid rows noz) cups n i (mx 0 (i - 1)) = some r∧Lev rows noz weir spill cups r
 | 0,i,h0,hi,hp,hc=>by
  obtain rfl : i = 41:=by omega
  exact ⟨_,rfl,by unfold mx;split<;>omega,by unfold mx;split<;>omega,hp (by omega),fun hh=>absurd hh (by unfold mx;split<;>omega)⟩
 | n + 1,i,h0,hi,hp,hc=>by
  simp only [levelGo]
  rw [out_eq h h0 (by omega),Option.bind_some]
  by_cases g : tot rows noz weir spill i > cups
  ·rw [if_pos g]
   have i0 : 0 < i:=by
    rcases Int.lt_or_eq_of_le h0 with l | l
    ·exact l
    ·rw [← l,tot_zero h] at g;omega
   have e : mx 0 (i - 1) = i - 1:=by unfold mx;split<;>omega
   rw [e]
   exact ⟨_,rfl,by omega,by omega,hp i0,fun _=>by rw [show i - 1 + 1 = i by omega];exact g⟩
  ·rw [if_neg g]
   obtain ⟨r,hr,hl⟩:=levelGo_eq h n (i + 1) (by omega) (by omega) (fun _=>by rw [show i + 1 - 1 = i by omega];omega) hc
   rw [show mx 0 (i + 1 - 1) = i by unfold mx;split<;>omega] at hr
   exact ⟨r,hr,hl⟩
theorem level_eq (h : OkB rows draw noz weir spill) {cups : Int} (hc : 0≤cups) : ∃ r,gf_level.f rows draw noz weir spill (grid rows noz) cups = some r∧Lev rows noz weir spill cups r:=by
 unfold gf_level.f
 rw [grid_len]
 have:=levelGo_eq h (cups:=cups) 41 0 (by omega) (by omega) (fun h=>by omega) hc
 simpa [mx] using this
end
section
attribute [local go_sem] max2_int min2_int max_two min_two
set_option linter.unusedSimpArgs false
end
set_option linter.unusedSimpArgs false
section
attribute [local go_sem] max2_int min2_int max_two min_two
set_option linter.unusedSimpArgs false
end
end Go.Proofs.YtnnmnhpeblhiiaaGreatDoor.C

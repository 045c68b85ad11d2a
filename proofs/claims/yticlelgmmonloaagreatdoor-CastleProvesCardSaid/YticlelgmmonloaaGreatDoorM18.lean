/- A part of the proof: the walks of the functions that it reaches. TIGHT. -/
import Derived.Test.YticlelgmmonloaaGreatDoorM17
namespace Go.Proofs.YticlelgmmonloaaGreatDoor.C
open Go.RowKit Go.Proofs.YticlelgmmonloaaGreatDoorW.PrintWords Go.Proofs.YticlelgmmonloaaGreatDoorW.PrintLast Go.Proofs.YticlelgmmonloaaGreatDoorW.PrintMore
set_option linter.unusedVariables false
set_option linter.unusedSimpArgs false
set_option maxHeartbeats 16000000
set_option maxRecDepth 100000
section
attribute [local go_sem] max2_int min2_int max_two min_two
attribute [local go_sem high] eqA40
def l4_CastleProves.j0 : Nat → Int → Bool → List (S126) → Int → List (S64) → Int → Int → Int → Int → Int → Int → Option (Bool)
 | 0,_,_,_,_,_,_,_,_,_,_,_ => none
 | k + 1,x6,x26,x661000,x661001,x661002,x661003,x661004,x662000,x662001,x668000,x668001 => if x26 = true then (if x6 = 2 then (if (x668000 == 0 && (x668001 == 0)) = true then ((l4_known.f).bind fun t670 => (some t670)) else (some false)) else (some false)) else ((q4_Proves.f k x661000 x661001 x661002 x661003 x661004 x662000 x662001).bind fun bt671 => (if bt671.2.2 = true then (if x6 = 0 then (if (x668000 == bt671.1 && (x668001 == bt671.2.1)) = true then ((l4_known.f).bind fun t675 => (some t675)) else (some false)) else (some false)) else (if x6 = 7 then (if (x668000 == 0 && (x668001 == 0)) = true then ((l4_known.f).bind fun t676 => (some t676)) else (some false)) else (some false))))
def l4_CastleProves.f (k : Nat) (l0_0 : List (S126)) (a0_1 : Int) (l0_2 : List (S64)) (a0_3 : Int) (a0_4 : Int) (a1_0 : Int) (a1_1 : Int) : Option (Bool) := (l4_short.f l0_0 a0_1 l0_2 a0_3 a0_4).bind fun t662 => (if t662 = true then ((ca_Proves.f l0_0 a0_1 l0_2 a0_3 a0_4 a1_0 a1_1).bind fun bt664 => ((q4_Basin.f k l0_0 a0_1 l0_2 a0_3 a0_4).bind fun t668 => (if t668 = true then ((q4_Reading.f a1_0 a1_1).bind fun t669 => (l4_CastleProves.j0 k bt664.2.2 (!t669) l0_0 a0_1 l0_2 a0_3 a0_4 a1_0 a1_1 bt664.1 bt664.2.1)) else (l4_CastleProves.j0 k bt664.2.2 true l0_0 a0_1 l0_2 a0_3 a0_4 a1_0 a1_1 bt664.1 bt664.2.1)))) else ((l4_known.f).bind fun t663 => (some t663)))
theorem l4_CastleProves.calls (k : Nat) (A0_0 : Option Addr) (c0_0 : Nat) (l0_0 : List (S126)) (a0_1 : Int) (A0_2 : Option Addr) (c0_2 : Nat) (l0_2 : List (S64)) (a0_3 : Int) (a0_4 : Int) (a1_0 : Int) (a1_1 : Int) (r : Bool) (w : World) (hr0_0 : Kd.C k126 w A0_0 l0_0.length l0_0) (hc0_0 : l0_0.length ≤ c0_0) (hr0_2 : Kd.C k64 w A0_2 l0_2.length l0_2) (hc0_2 : l0_2.length ≤ c0_2) (hg : GV w) (h : l4_CastleProves.f k l0_0 a0_1 l0_2 a0_3 a0_4 a1_0 a1_1 = some r) :
 Calls Tryz.prog 7 #[.agg #[.slice A0_0 l0_0.length c0_0,.int .i64 a0_1,.slice A0_2 l0_2.length c0_2,.int .i64 a0_3,.int .i64 a0_4],.agg #[.int .i64 a1_0,.int .i64 a1_1]] w fun e w' => e = .returned (.bool r) ∧ Below w.heap.size w w' := by
 have HG := am hg
 clear hg
 have hu27 := Tryz.underlying27
 have hu40 := Tryz.underlying40
 have HR0_0 := am hr0_0
 have HC0_0 := am hc0_0
 clear hr0_0 hc0_0
 have HR0_2 := am hr0_2
 have HC0_2 := am hc0_2
 clear hr0_2 hc0_2
 have HB := am (Below.refl w.heap.size w)
 have H : ((l4_short.f l0_0 a0_1 l0_2 a0_3 a0_4).bind fun t662 => (if t662 = true then ((ca_Proves.f l0_0 a0_1 l0_2 a0_3 a0_4 a1_0 a1_1).bind fun bt664 => ((q4_Basin.f k l0_0 a0_1 l0_2 a0_3 a0_4).bind fun t668 => (if t668 = true then ((q4_Reading.f a1_0 a1_1).bind fun t669 => (l4_CastleProves.j0 k bt664.2.2 (!t669) l0_0 a0_1 l0_2 a0_3 a0_4 a1_0 a1_1 bt664.1 bt664.2.1)) else (l4_CastleProves.j0 k bt664.2.2 true l0_0 a0_1 l0_2 a0_3 a0_4 a1_0 a1_1 bt664.1 bt664.2.1)))) else ((l4_known.f).bind fun t663 => (some t663)))) = some r := h
 clear h
 replace H := obm H
 obtain ⟨t662,A30,H⟩ := H
 (try dsimp only at H)
 have A3 := am A30
 clear A30
 by_cases c4 : t662 = true
 case neg =>
  replace c4 := Bool.eq_false_iff.mpr c4
  subst c4
  rw [if_neg (show ¬ (false = true) by decide)] at H
  replace H := obm H
  obtain ⟨t663,A1240,H⟩ := H
  (try dsimp only at H)
  have A124 := am A1240
  clear A1240
  obtain rfl := Option.some.inj H
  go_enter Tryz.func7,Tryz.ntmps7
  go_wp2_with (first | ((refine gate_dst (N := 2) rfl ?_);refine box_event rfl (N := 2) rfl (cs := #[.slice A0_0 l0_0.length c0_0,.int .i64 a0_1,.slice A0_2 l0_2.length c0_2,.int .i64 a0_3,.int .i64 a0_4]) (t := 27) ?hr ?_;(case hr => go_simp;try rfl);intro gb660 hg w125 hbox hb;have BK660 := am (hbox);have GE660 := am (ge_new (HB.out) hg);replace HB := am (below_step (HB.out) hb);clear hb hbox hg) | ((refine gate_dst (N := 3) rfl ?_);refine box_event rfl (N := 3) rfl (cs := #[.int .i64 a1_0,.int .i64 a1_1]) (t := 40) ?hr ?_;(case hr => go_simp;try rfl);intro gb661 hg w126 hbox hb;have BK661 := am (hbox);have GE661 := am (ge_new (HB.out) hg);have NB660_661 := am (ne_new BK660.out hg);have NB661_660 := am (ne_new2 BK660.out hg);replace BK660 := (kmv hb BK660);replace HB := am (below_step (HB.out) hb);clear hb hbox hg;have hnb127 := NB660_661.out;have hnc127 := NB661_660.out;obtain ⟨hcz128_0,hcz128_1,hcz128_2,hcz128_3,hcz128_4⟩ := cO5 BK660.out) | ((with_reducible refine gate_callee (f := 14) rfl ?_);refine goesL_ (some 10) rfl rfl Tryz.func14 (by kernel_rfl) rfl #[.agg #[.slice A0_0 l0_0.length c0_0,.int .i64 a0_1,.slice A0_2 l0_2.length c0_2,.int .i64 a0_3,.int .i64 a0_4]] rfl (by (try simp only [List.map_toArray,List.map_cons,List.map_nil]);first | done | rfl | (simp only [List.length_drop,List.length_take];rfl)) ?_;(refine (l4_short.calls _ _ l0_0 a0_1 _ _ l0_2 a0_3 a0_4 false _ ?side1 ?side2 ?side3 ?side4 A3.out).mono ?_);(case side1 => exact kC HR0_0.out HB.out);(case side2 => exact HC0_0.out);(case side3 => exact kC HR0_2.out HB.out);(case side4 => exact HC0_2.out);rintro e w129 ⟨rfl,hb⟩;refine ⟨_,rfl,?_⟩;replace BK660 := (kmv hb BK660);replace BK661 := (kmv hb BK661);replace HB := am (below_step (HB.out) hb);(try clear hb);(try clear hb2);(try clear hk);(try clear hi)) | ((with_reducible refine gate_callee (f := 15) rfl ?_);refine goesL_ (some 12) rfl rfl Tryz.func15 (by kernel_rfl) rfl #[] rfl (by (try simp only [List.map_toArray,List.map_cons,List.map_nil]);first | done | rfl | (simp only [List.length_drop,List.length_take];rfl)) ?_;(refine (l4_known.calls  t663 _ (HG.out.below (by repeat (first | (with_reducible exact HB.out) | (with_reducible apply below_alloc) | (with_reducible apply pw_below_drewN) | (with_reducible apply below_drew1) | (with_reducible refine below_set ?_ (Aside0.out (by assumption))) | exact HB.out))) A124.out).mono ?_);rintro e w130 ⟨rfl,hb⟩;refine ⟨_,rfl,?_⟩;replace BK660 := (kmv hb BK660);replace BK661 := (kmv hb BK661);replace HB := am (below_step (HB.out) hb);(try clear hb);(try clear hb2);(try clear hk);(try clear hi)))
  go_ret
  exact ⟨by first | rfl | (simp [*] <;> rfl),HB.out⟩
 subst c4
 rw [if_pos rfl] at H
 replace H := obm H
 obtain ⟨⟨t664,t665,t666⟩,A50,H⟩ := H
 (try dsimp only at H)
 have A5 := am A50
 clear A50
 have HC6 := am H
 clear H
 go_enter Tryz.func7,Tryz.ntmps7
 go_upto_region 4 with (first | ((refine gate_dst (N := 2) rfl ?_);refine box_event rfl (N := 2) rfl (cs := #[.slice A0_0 l0_0.length c0_0,.int .i64 a0_1,.slice A0_2 l0_2.length c0_2,.int .i64 a0_3,.int .i64 a0_4]) (t := 27) ?hr ?_;(case hr => go_simp;try rfl);intro gb660 hg w7 hbox hb;have BK660 := am (hbox);have GE660 := am (ge_new (HB.out) hg);replace HB := am (below_step (HB.out) hb);clear hb hbox hg) | ((refine gate_dst (N := 3) rfl ?_);refine box_event rfl (N := 3) rfl (cs := #[.int .i64 a1_0,.int .i64 a1_1]) (t := 40) ?hr ?_;(case hr => go_simp;try rfl);intro gb661 hg w8 hbox hb;have BK661 := am (hbox);have GE661 := am (ge_new (HB.out) hg);have NB660_661 := am (ne_new BK660.out hg);have NB661_660 := am (ne_new2 BK660.out hg);replace BK660 := (kmv hb BK660);replace HB := am (below_step (HB.out) hb);clear hb hbox hg;have hnb9 := NB660_661.out;have hnc9 := NB661_660.out;obtain ⟨hcz10_0,hcz10_1,hcz10_2,hcz10_3,hcz10_4⟩ := cO5 BK660.out) | ((with_reducible refine gate_callee (f := 14) rfl ?_);refine goesL_ (some 10) rfl rfl Tryz.func14 (by kernel_rfl) rfl #[.agg #[.slice A0_0 l0_0.length c0_0,.int .i64 a0_1,.slice A0_2 l0_2.length c0_2,.int .i64 a0_3,.int .i64 a0_4]] rfl (by (try simp only [List.map_toArray,List.map_cons,List.map_nil]);first | done | rfl | (simp only [List.length_drop,List.length_take];rfl)) ?_;(refine (l4_short.calls _ _ l0_0 a0_1 _ _ l0_2 a0_3 a0_4 true _ ?side1 ?side2 ?side3 ?side4 A3.out).mono ?_);(case side1 => exact kC HR0_0.out HB.out);(case side2 => exact HC0_0.out);(case side3 => exact kC HR0_2.out HB.out);(case side4 => exact HC0_2.out);rintro e w11 ⟨rfl,hb⟩;refine ⟨_,rfl,?_⟩;replace BK660 := (kmv hb BK660);replace BK661 := (kmv hb BK661);replace HB := am (below_step (HB.out) hb);(try clear hb);(try clear hb2);(try clear hk);(try clear hi);obtain ⟨hcz12_0,hcz12_1,hcz12_2,hcz12_3,hcz12_4⟩ := cO5 BK660.out;obtain ⟨hcz13_0,hcz13_1⟩ := cO2 BK661.out) | ((with_reducible refine gate_callee (f := 30) rfl ?_);refine goesL_ (some 16) rfl rfl Tryz.func30 (by kernel_rfl) rfl #[.agg #[.slice A0_0 l0_0.length c0_0,.int .i64 a0_1,.slice A0_2 l0_2.length c0_2,.int .i64 a0_3,.int .i64 a0_4],.agg #[.int .i64 a1_0,.int .i64 a1_1]] rfl (by (try simp only [List.map_toArray,List.map_cons,List.map_nil]);first | done | rfl | (simp only [List.length_drop,List.length_take];rfl)) ?_;(refine (ca_Proves.calls _ _ l0_0 a0_1 _ _ l0_2 a0_3 a0_4 a1_0 a1_1 t664 t665 t666 _ ?side1 ?side2 ?side3 ?side4 A5.out).mono ?_);(case side1 => exact kC HR0_0.out HB.out);(case side2 => exact HC0_0.out);(case side3 => exact kC HR0_2.out HB.out);(case side4 => exact HC0_2.out);rintro e w14 ⟨rfl,hb⟩;refine ⟨_,rfl,?_⟩;replace BK660 := (kmv hb BK660);replace BK661 := (kmv hb BK661);replace HB := am (below_step (HB.out) hb);(try clear hb);(try clear hb2);(try clear hk);(try clear hi)) | ((refine gate_dst (N := 5) rfl ?_);refine box_event rfl (N := 5) rfl (cs := #[.int .i64 0,.int .i64 0]) (t := 40) ?hr ?_;(case hr => go_simp;try rfl);intro gb667 hg w15 hbox hb;have BK667 := am (hbox);have GE667 := am (ge_new (HB.out) hg);have NB660_667 := am (ne_new BK660.out hg);have NB667_660 := am (ne_new2 BK660.out hg);have NB661_667 := am (ne_new BK661.out hg);have NB667_661 := am (ne_new2 BK661.out hg);replace BK660 := (kmv hb BK660);replace BK661 := (kmv hb BK661);replace HB := am (below_step (HB.out) hb);clear hb hbox hg;have hnb16 := NB667_660.out;have hnc16 := NB660_667.out;have hnb17 := NB667_661.out;have hnc17 := NB661_667.out;obtain ⟨hcz18_0,hcz18_1⟩ := cO2 BK667.out;have hfz18_0 := blk_frozen BK667.out 0;have hfz18_1 := blk_frozen BK667.out 1))
 (try simp only [Act.put,NR3])
 go_cut [26] (fun v26 wc => ∃ (kq : Nat) (x26_5 : Bool),v26 = .bool x26_5 ∧ Aside0 (l4_CastleProves.j0 kq t666 x26_5 l0_0 a0_1 l0_2 a0_3 a0_4 a1_0 a1_1 t664 t665 = some r) ∧ Aside0 (kq ≤ k) ∧ Aside0 (wc.heap[gb660]? = some (.cells #[(.slice A0_0 l0_0.length c0_0),.int .i64 a0_1,(.slice A0_2 l0_2.length c0_2),.int .i64 a0_3,.int .i64 a0_4] 27 (0,0))) ∧ Aside0 (wc.heap[gb661]? = some (.cells #[.int .i64 a1_0,.int .i64 a1_1] 40 (0,0))) ∧ Aside0 (wc.heap[gb667]? = some (.cells #[.int .i64 t664,.int .i64 t665] 40 (0,0))) ∧ Aside0 (Below w.heap.size w wc))
 case first =>
  have H := HC6.out
  clear HC6
  replace H := obm H
  obtain ⟨t668,A190,H⟩ := H
  (try dsimp only at H)
  have A19 := am A190
  clear A190
  by_cases c20 : t668 = true
  case neg =>
   replace c20 := Bool.eq_false_iff.mpr c20
   subst c20
   rw [if_neg (show ¬ (false = true) by decide)] at H
   replace H' := am H
   have hnb29 := NB660_661.out
   have hnc29 := NB661_660.out
   have hnb30 := NB660_667.out
   have hnc30 := NB667_660.out
   obtain ⟨hcz31_0,hcz31_1,hcz31_2,hcz31_3,hcz31_4⟩ := cO5 BK660.out
   go_wp2_with (first | ((with_reducible refine gate_callee (f := 17) rfl ?_);refine goesL_ (some 20) rfl rfl Tryz.func17 (by kernel_rfl) rfl #[.agg #[.slice A0_0 l0_0.length c0_0,.int .i64 a0_1,.slice A0_2 l0_2.length c0_2,.int .i64 a0_3,.int .i64 a0_4]] rfl (by (try simp only [List.map_toArray,List.map_cons,List.map_nil]);first | done | rfl | (simp only [List.length_drop,List.length_take];rfl)) ?_;(refine (q4_Basin.calls k _ _ l0_0 a0_1 _ _ l0_2 a0_3 a0_4 false _ ?side1 ?side2 ?side3 ?side4 A19.out).mono ?_);(case side1 => exact kC HR0_0.out (by repeat (first | (with_reducible first | exact HB.out | refine below_set ?_ (Aside0.out (by assumption)) | apply below_alloc | apply pw_below_drewN) | exact HB.out)));(case side2 => exact HC0_0.out);(case side3 => exact kC HR0_2.out (by repeat (first | (with_reducible first | exact HB.out | refine below_set ?_ (Aside0.out (by assumption)) | apply below_alloc | apply pw_below_drewN) | exact HB.out)));(case side4 => exact HC0_2.out);rintro e w32 ⟨rfl,hb⟩;refine ⟨_,rfl,?_⟩;replace BK660 := am (blk_below (blk_far (blk_far BK660.out NB660_667.out _) NB660_667.out _) hb);replace BK661 := am (blk_below (blk_far (blk_far BK661.out NB661_667.out _) NB661_667.out _) hb);replace BK667 := am (blk_below (blk_put (cs := #[.int .i64 t664,.int .i64 0]) (blk_put (cs := #[.int .i64 0,.int .i64 0]) BK667.out 0 _ rfl) 1 _ rfl) hb);replace HB := am (below_step (by repeat (first | (with_reducible first | exact HB.out | refine below_set ?_ (Aside0.out (by assumption)) | apply below_alloc | apply pw_below_drewN) | exact HB.out)) hb);(try clear hb);(try clear hb2);(try clear hk);(try clear hi)))
   go_meet
   case rel => exact ⟨_,(true),(by first | rfl | (simp;done) | (simp [*];done)),H',⟨by first | omega | exact Nat.le_refl _⟩,⟨BK660.out⟩,⟨BK661.out⟩,⟨BK667.out⟩,⟨HB.out⟩⟩
  subst c20
  rw [if_pos rfl] at H
  replace H := obm H
  obtain ⟨t669,A210,H⟩ := H
  (try dsimp only at H)
  have A21 := am A210
  clear A210
  replace H' := am H
  have hnb22 := NB660_661.out
  have hnc22 := NB661_660.out
  have hnb23 := NB660_667.out
  have hnc23 := NB667_660.out
  obtain ⟨hcz24_0,hcz24_1,hcz24_2,hcz24_3,hcz24_4⟩ := cO5 BK660.out
  go_wp2_with (first | ((with_reducible refine gate_callee (f := 17) rfl ?_);refine goesL_ (some 20) rfl rfl Tryz.func17 (by kernel_rfl) rfl #[.agg #[.slice A0_0 l0_0.length c0_0,.int .i64 a0_1,.slice A0_2 l0_2.length c0_2,.int .i64 a0_3,.int .i64 a0_4]] rfl (by (try simp only [List.map_toArray,List.map_cons,List.map_nil]);first | done | rfl | (simp only [List.length_drop,List.length_take];rfl)) ?_;(refine (q4_Basin.calls k _ _ l0_0 a0_1 _ _ l0_2 a0_3 a0_4 true _ ?side1 ?side2 ?side3 ?side4 A19.out).mono ?_);(case side1 => exact kC HR0_0.out (by repeat (first | (with_reducible first | exact HB.out | refine below_set ?_ (Aside0.out (by assumption)) | apply below_alloc | apply pw_below_drewN) | exact HB.out)));(case side2 => exact HC0_0.out);(case side3 => exact kC HR0_2.out (by repeat (first | (with_reducible first | exact HB.out | refine below_set ?_ (Aside0.out (by assumption)) | apply below_alloc | apply pw_below_drewN) | exact HB.out)));(case side4 => exact HC0_2.out);rintro e w25 ⟨rfl,hb⟩;refine ⟨_,rfl,?_⟩;replace BK660 := am (blk_below (blk_far (blk_far BK660.out NB660_667.out _) NB660_667.out _) hb);replace BK661 := am (blk_below (blk_far (blk_far BK661.out NB661_667.out _) NB661_667.out _) hb);replace BK667 := am (blk_below (blk_put (cs := #[.int .i64 t664,.int .i64 0]) (blk_put (cs := #[.int .i64 0,.int .i64 0]) BK667.out 0 _ rfl) 1 _ rfl) hb);replace HB := am (below_step (by repeat (first | (with_reducible first | exact HB.out | refine below_set ?_ (Aside0.out (by assumption)) | apply below_alloc | apply pw_below_drewN) | exact HB.out)) hb);(try clear hb);(try clear hb2);(try clear hk);(try clear hi);have hnb26 := NB661_667.out;have hnc26 := NB667_661.out;obtain ⟨hcz27_0,hcz27_1⟩ := cO2 BK661.out) | (go_at_call 31;(refine (q4_Reading.calls a1_0 a1_1 t669 _ A21.out).mono ?_);rintro e w28 ⟨rfl,hb⟩;replace BK660 := (kmv hb BK660);replace BK661 := (kmv hb BK661);replace BK667 := (kmv hb BK667);replace HB := am (below_step (HB.out) hb);(try clear hb);(try clear hb2);(try clear hk);(try clear hi)))
  go_meet
  case rel => exact ⟨_,(!t669),(by first | rfl | (simp;done) | (simp [*];done)),H',⟨by first | omega | exact Nat.le_refl _⟩,⟨BK660.out⟩,⟨BK661.out⟩,⟨BK667.out⟩,⟨HB.out⟩⟩
 case rest =>
  clear HC6
  obtain ⟨kq,x26_5,rfl,HA,HJ5,BK660,BK661,BK667,HB⟩ := hcut
  cases kq with
  | zero => exact absurd HA.out (by simp [l4_CastleProves.j0])
  | succ kj5 =>
   have H := HA.out
   clear HA
   simp only [l4_CastleProves.j0] at H
   by_cases c33 : x26_5 = true
   · subst c33
     rw [if_pos rfl] at H
     by_cases c34 : t666 = 2
     case neg =>
      rw [if_neg c34] at H
      have c34b0 : (t666 == 2) = false := beq_eq_false_iff_ne.mpr c34
      have c34b1 : (t666 != 2) = true := bne_iff_ne.mpr c34
      obtain rfl := Option.some.inj H
      go_wp2
      go_ret
      exact ⟨by first | rfl | (simp [*] <;> rfl),HB.out⟩
     rw [if_pos c34] at H
     have c34b0 : (t666 == 2) = true := beq_iff_eq.mpr c34
     have c34b1 : (t666 != 2) = false := bne_eq_false_iff_eq.mpr c34
     clear c34
     by_cases c35 : (t664 == 0 && (t665 == 0)) = true
     case neg =>
      rw [if_neg c35] at H
      have c35b0 : (t664 == 0 && (t665 == 0)) = false := by simpa using c35
      (try (have c35b1 : decide (t664 = 0 && (t665 == 0)) = false := by simpa using c35))
      (try (have c35b2 : (t664 == 0 && (t665 == 0)) = false := by simpa using c35))
      (try (have c35b3 : ¬ (t664 = 0 && (t665 == 0)) := by simpa using c35))
      clear c35
      obtain rfl := Option.some.inj H
      have hnb41 := NB667_660.out
      have hnc41 := NB660_667.out
      have hnb42 := NB667_661.out
      have hnc42 := NB661_667.out
      obtain ⟨hcz43_0,hcz43_1⟩ := cO2 BK667.out
      have hfz43_0 := blk_frozen BK667.out 0
      have hfz43_1 := blk_frozen BK667.out 1
      go_wp2
      go_ret
      exact ⟨by first | rfl | (simp [*] <;> rfl),HB.out⟩
     rw [if_pos c35] at H
     have c35b0 : (t664 == 0 && (t665 == 0)) = true := c35
     (try (have c35b1 : decide (t664 = 0 && (t665 == 0)) = true := by simpa using c35))
     (try (have c35b2 : (t664 == 0 && (t665 == 0)) = true := by simpa using c35))
     clear c35
     replace H := obm H
     obtain ⟨t670,A360,H⟩ := H
     (try dsimp only at H)
     have A36 := am A360
     clear A360
     obtain rfl := Option.some.inj H
     have hnb37 := NB667_660.out
     have hnc37 := NB660_667.out
     have hnb38 := NB667_661.out
     have hnc38 := NB661_667.out
     obtain ⟨hcz39_0,hcz39_1⟩ := cO2 BK667.out
     have hfz39_0 := blk_frozen BK667.out 0
     have hfz39_1 := blk_frozen BK667.out 1
     go_wp2_with (first | (go_at_call 15;(refine (l4_known.calls  t670 _ (HG.out.below (by repeat (first | (with_reducible exact HB.out) | (with_reducible apply below_alloc) | (with_reducible apply pw_below_drewN) | (with_reducible apply below_drew1) | (with_reducible refine below_set ?_ (Aside0.out (by assumption))) | exact HB.out))) A36.out).mono ?_);rintro e w40 ⟨rfl,hb⟩;replace BK660 := (kmv hb BK660);replace BK661 := (kmv hb BK661);replace BK667 := (kmv hb BK667);replace HB := am (below_step (HB.out) hb);(try clear hb);(try clear hb2);(try clear hk);(try clear hi)))
     go_ret
     exact ⟨by first | rfl | (simp [*] <;> rfl),HB.out⟩
   · replace c33 := Bool.eq_false_iff.mpr c33
     subst c33
     rw [if_neg (show ¬ (false = true) by decide)] at H
     replace H := obm H
     obtain ⟨⟨t671,t672,t673⟩,A440,H⟩ := H
     (try dsimp only at H)
     have A44 := am A440
     clear A440
     by_cases c45 : t673 = true
     · subst c45
       rw [if_pos rfl] at H
       by_cases c46 : t666 = 0
       case neg =>
        rw [if_neg c46] at H
        have c46b0 : (t666 == 0) = false := beq_eq_false_iff_ne.mpr c46
        have c46b1 : (t666 != 0) = true := bne_iff_ne.mpr c46
        obtain rfl := Option.some.inj H
        have hnb74 := NB660_661.out
        have hnc74 := NB661_660.out
        have hnb75 := NB660_667.out
        have hnc75 := NB667_660.out
        obtain ⟨hcz76_0,hcz76_1,hcz76_2,hcz76_3,hcz76_4⟩ := cO5 BK660.out
        have hnb77 := NB661_667.out
        have hnc77 := NB667_661.out
        obtain ⟨hcz78_0,hcz78_1⟩ := cO2 BK661.out
        go_wp2_with (first | ((with_reducible refine gate_callee (f := 32) rfl ?_);refine goesL_ (some 40) rfl rfl Tryz.func32 (by kernel_rfl) rfl #[.agg #[.slice A0_0 l0_0.length c0_0,.int .i64 a0_1,.slice A0_2 l0_2.length c0_2,.int .i64 a0_3,.int .i64 a0_4],.agg #[.int .i64 a1_0,.int .i64 a1_1]] rfl (by (try simp only [List.map_toArray,List.map_cons,List.map_nil]);first | done | rfl | (simp only [List.length_drop,List.length_take];rfl)) ?_;(refine (q4_Proves.calls kj5 _ _ l0_0 a0_1 _ _ l0_2 a0_3 a0_4 a1_0 a1_1 t671 t672 true _ ?side1 ?side2 ?side3 ?side4 A44.out).mono ?_);(case side1 => exact kC HR0_0.out HB.out);(case side2 => exact HC0_0.out);(case side3 => exact kC HR0_2.out HB.out);(case side4 => exact HC0_2.out);rintro e w79 ⟨rfl,hb⟩;refine ⟨_,rfl,?_⟩;replace BK660 := (kmv hb BK660);replace BK661 := (kmv hb BK661);replace BK667 := (kmv hb BK667);replace HB := am (below_step (HB.out) hb);(try clear hb);(try clear hb2);(try clear hk);(try clear hi)) | ((refine gate_dst (N := 7) rfl ?_);refine box_event rfl (N := 7) rfl (cs := #[.int .i64 0,.int .i64 0]) (t := 40) ?hr ?_;(case hr => go_simp;try rfl);intro gb674 hg w80 hbox hb;have BK674 := am (hbox);have GE674 := am (ge_new (HB.out) hg);have NB660_674 := am (ne_new BK660.out hg);have NB674_660 := am (ne_new2 BK660.out hg);have NB661_674 := am (ne_new BK661.out hg);have NB674_661 := am (ne_new2 BK661.out hg);have NB667_674 := am (ne_new BK667.out hg);have NB674_667 := am (ne_new2 BK667.out hg);replace BK660 := (kmv hb BK660);replace BK661 := (kmv hb BK661);replace BK667 := (kmv hb BK667);replace HB := am (below_step (HB.out) hb);clear hb hbox hg;have hnb81 := NB674_660.out;have hnc81 := NB660_674.out;have hnb82 := NB674_661.out;have hnc82 := NB661_674.out;have hnb83 := NB674_667.out;have hnc83 := NB667_674.out;obtain ⟨hcz84_0,hcz84_1⟩ := cO2 BK674.out;have hfz84_0 := blk_frozen BK674.out 0;have hfz84_1 := blk_frozen BK674.out 1))
        go_ret
        exact ⟨by first | rfl | (simp [*] <;> rfl),by repeat (first | (with_reducible first | exact HB.out | refine below_set ?_ (Aside0.out (by assumption)) | apply below_alloc | apply pw_below_drewN) | exact HB.out)⟩
       rw [if_pos c46] at H
       have c46b0 : (t666 == 0) = true := beq_iff_eq.mpr c46
       have c46b1 : (t666 != 0) = false := bne_eq_false_iff_eq.mpr c46
       clear c46
       by_cases c47 : (t664 == t671 && (t665 == t672)) = true
       case neg =>
        rw [if_neg c47] at H
        have c47b0 : (t664 == t671 && (t665 == t672)) = false := by simpa using c47
        (try (have c47b1 : decide (t664 = t671 && (t665 == t672)) = false := by simpa using c47))
        (try (have c47b2 : (t664 == t671 && (t665 == t672)) = false := by simpa using c47))
        (try (have c47b3 : ¬ (t664 = t671 && (t665 == t672)) := by simpa using c47))
        clear c47
        obtain rfl := Option.some.inj H
        have hnb62 := NB660_661.out
        have hnc62 := NB661_660.out
        have hnb63 := NB660_667.out
        have hnc63 := NB667_660.out
        obtain ⟨hcz64_0,hcz64_1,hcz64_2,hcz64_3,hcz64_4⟩ := cO5 BK660.out
        have hnb65 := NB661_667.out
        have hnc65 := NB667_661.out
        obtain ⟨hcz66_0,hcz66_1⟩ := cO2 BK661.out
        go_wp2_with (first | ((with_reducible refine gate_callee (f := 32) rfl ?_);refine goesL_ (some 40) rfl rfl Tryz.func32 (by kernel_rfl) rfl #[.agg #[.slice A0_0 l0_0.length c0_0,.int .i64 a0_1,.slice A0_2 l0_2.length c0_2,.int .i64 a0_3,.int .i64 a0_4],.agg #[.int .i64 a1_0,.int .i64 a1_1]] rfl (by (try simp only [List.map_toArray,List.map_cons,List.map_nil]);first | done | rfl | (simp only [List.length_drop,List.length_take];rfl)) ?_;(refine (q4_Proves.calls kj5 _ _ l0_0 a0_1 _ _ l0_2 a0_3 a0_4 a1_0 a1_1 t671 t672 true _ ?side1 ?side2 ?side3 ?side4 A44.out).mono ?_);(case side1 => exact kC HR0_0.out HB.out);(case side2 => exact HC0_0.out);(case side3 => exact kC HR0_2.out HB.out);(case side4 => exact HC0_2.out);rintro e w67 ⟨rfl,hb⟩;refine ⟨_,rfl,?_⟩;replace BK660 := (kmv hb BK660);replace BK661 := (kmv hb BK661);replace BK667 := (kmv hb BK667);replace HB := am (below_step (HB.out) hb);(try clear hb);(try clear hb2);(try clear hk);(try clear hi)) | ((refine gate_dst (N := 7) rfl ?_);refine box_event rfl (N := 7) rfl (cs := #[.int .i64 0,.int .i64 0]) (t := 40) ?hr ?_;(case hr => go_simp;try rfl);intro gb674 hg w68 hbox hb;have BK674 := am (hbox);have GE674 := am (ge_new (HB.out) hg);have NB660_674 := am (ne_new BK660.out hg);have NB674_660 := am (ne_new2 BK660.out hg);have NB661_674 := am (ne_new BK661.out hg);have NB674_661 := am (ne_new2 BK661.out hg);have NB667_674 := am (ne_new BK667.out hg);have NB674_667 := am (ne_new2 BK667.out hg);replace BK660 := (kmv hb BK660);replace BK661 := (kmv hb BK661);replace BK667 := (kmv hb BK667);replace HB := am (below_step (HB.out) hb);clear hb hbox hg;have hnb69 := NB674_660.out;have hnc69 := NB660_674.out;have hnb70 := NB674_661.out;have hnc70 := NB661_674.out;have hnb71 := NB674_667.out;have hnc71 := NB667_674.out;obtain ⟨hcz72_0,hcz72_1⟩ := cO2 BK674.out;have hfz72_0 := blk_frozen BK674.out 0;have hfz72_1 := blk_frozen BK674.out 1;obtain ⟨hcz73_0,hcz73_1⟩ := cO2 BK667.out;have hfz73_0 := blk_frozen BK667.out 0;have hfz73_1 := blk_frozen BK667.out 1))
        go_ret
        exact ⟨by first | rfl | (simp [*] <;> rfl),by repeat (first | (with_reducible first | exact HB.out | refine below_set ?_ (Aside0.out (by assumption)) | apply below_alloc | apply pw_below_drewN) | exact HB.out)⟩
       rw [if_pos c47] at H
       have c47b0 : (t664 == t671 && (t665 == t672)) = true := c47
       (try (have c47b1 : decide (t664 = t671 && (t665 == t672)) = true := by simpa using c47))
       (try (have c47b2 : (t664 == t671 && (t665 == t672)) = true := by simpa using c47))
       clear c47
       replace H := obm H
       obtain ⟨t675,A480,H⟩ := H
       (try dsimp only at H)
       have A48 := am A480
       clear A480
       obtain rfl := Option.some.inj H
       have hnb49 := NB660_661.out
       have hnc49 := NB661_660.out
       have hnb50 := NB660_667.out
       have hnc50 := NB667_660.out
       obtain ⟨hcz51_0,hcz51_1,hcz51_2,hcz51_3,hcz51_4⟩ := cO5 BK660.out
       have hnb52 := NB661_667.out
       have hnc52 := NB667_661.out
       obtain ⟨hcz53_0,hcz53_1⟩ := cO2 BK661.out
       go_wp2_with (first | ((with_reducible refine gate_callee (f := 32) rfl ?_);refine goesL_ (some 40) rfl rfl Tryz.func32 (by kernel_rfl) rfl #[.agg #[.slice A0_0 l0_0.length c0_0,.int .i64 a0_1,.slice A0_2 l0_2.length c0_2,.int .i64 a0_3,.int .i64 a0_4],.agg #[.int .i64 a1_0,.int .i64 a1_1]] rfl (by (try simp only [List.map_toArray,List.map_cons,List.map_nil]);first | done | rfl | (simp only [List.length_drop,List.length_take];rfl)) ?_;(refine (q4_Proves.calls kj5 _ _ l0_0 a0_1 _ _ l0_2 a0_3 a0_4 a1_0 a1_1 t671 t672 true _ ?side1 ?side2 ?side3 ?side4 A44.out).mono ?_);(case side1 => exact kC HR0_0.out HB.out);(case side2 => exact HC0_0.out);(case side3 => exact kC HR0_2.out HB.out);(case side4 => exact HC0_2.out);rintro e w54 ⟨rfl,hb⟩;refine ⟨_,rfl,?_⟩;replace BK660 := (kmv hb BK660);replace BK661 := (kmv hb BK661);replace BK667 := (kmv hb BK667);replace HB := am (below_step (HB.out) hb);(try clear hb);(try clear hb2);(try clear hk);(try clear hi)) | ((refine gate_dst (N := 7) rfl ?_);refine box_event rfl (N := 7) rfl (cs := #[.int .i64 0,.int .i64 0]) (t := 40) ?hr ?_;(case hr => go_simp;try rfl);intro gb674 hg w55 hbox hb;have BK674 := am (hbox);have GE674 := am (ge_new (HB.out) hg);have NB660_674 := am (ne_new BK660.out hg);have NB674_660 := am (ne_new2 BK660.out hg);have NB661_674 := am (ne_new BK661.out hg);have NB674_661 := am (ne_new2 BK661.out hg);have NB667_674 := am (ne_new BK667.out hg);have NB674_667 := am (ne_new2 BK667.out hg);replace BK660 := (kmv hb BK660);replace BK661 := (kmv hb BK661);replace BK667 := (kmv hb BK667);replace HB := am (below_step (HB.out) hb);clear hb hbox hg;have hnb56 := NB674_660.out;have hnc56 := NB660_674.out;have hnb57 := NB674_661.out;have hnc57 := NB661_674.out;have hnb58 := NB674_667.out;have hnc58 := NB667_674.out;obtain ⟨hcz59_0,hcz59_1⟩ := cO2 BK674.out;have hfz59_0 := blk_frozen BK674.out 0;have hfz59_1 := blk_frozen BK674.out 1;obtain ⟨hcz60_0,hcz60_1⟩ := cO2 BK667.out;have hfz60_0 := blk_frozen BK667.out 0;have hfz60_1 := blk_frozen BK667.out 1) | (go_at_call 15;(refine (l4_known.calls  t675 _ (HG.out.below (by repeat (first | (with_reducible exact HB.out) | (with_reducible apply below_alloc) | (with_reducible apply pw_below_drewN) | (with_reducible apply below_drew1) | (with_reducible refine below_set ?_ (Aside0.out (by assumption))) | exact HB.out))) A48.out).mono ?_);rintro e w61 ⟨rfl,hb⟩;replace BK660 := am (blk_below (blk_far (blk_far BK660.out NB660_674.out _) NB660_674.out _) hb);replace BK661 := am (blk_below (blk_far (blk_far BK661.out NB661_674.out _) NB661_674.out _) hb);replace BK667 := am (blk_below (blk_far (blk_far BK667.out NB667_674.out _) NB667_674.out _) hb);replace BK674 := am (blk_below (blk_put (cs := #[.int .i64 t671,.int .i64 0]) (blk_put (cs := #[.int .i64 0,.int .i64 0]) BK674.out 0 _ rfl) 1 _ rfl) hb);replace HB := am (below_step (by repeat (first | (with_reducible first | exact HB.out | refine below_set ?_ (Aside0.out (by assumption)) | apply below_alloc | apply pw_below_drewN) | exact HB.out)) hb);(try clear hb);(try clear hb2);(try clear hk);(try clear hi)))
       go_ret
       exact ⟨by first | rfl | (simp [*] <;> rfl),HB.out⟩
     · replace c45 := Bool.eq_false_iff.mpr c45
       subst c45
       rw [if_neg (show ¬ (false = true) by decide)] at H
       by_cases c85 : t666 = 7
       case neg =>
        rw [if_neg c85] at H
        have c85b0 : (t666 == 7) = false := beq_eq_false_iff_ne.mpr c85
        have c85b1 : (t666 != 7) = true := bne_iff_ne.mpr c85
        obtain rfl := Option.some.inj H
        have hnb113 := NB660_661.out
        have hnc113 := NB661_660.out
        have hnb114 := NB660_667.out
        have hnc114 := NB667_660.out
        obtain ⟨hcz115_0,hcz115_1,hcz115_2,hcz115_3,hcz115_4⟩ := cO5 BK660.out
        have hnb116 := NB661_667.out
        have hnc116 := NB667_661.out
        obtain ⟨hcz117_0,hcz117_1⟩ := cO2 BK661.out
        go_wp2_with (first | ((with_reducible refine gate_callee (f := 32) rfl ?_);refine goesL_ (some 40) rfl rfl Tryz.func32 (by kernel_rfl) rfl #[.agg #[.slice A0_0 l0_0.length c0_0,.int .i64 a0_1,.slice A0_2 l0_2.length c0_2,.int .i64 a0_3,.int .i64 a0_4],.agg #[.int .i64 a1_0,.int .i64 a1_1]] rfl (by (try simp only [List.map_toArray,List.map_cons,List.map_nil]);first | done | rfl | (simp only [List.length_drop,List.length_take];rfl)) ?_;(refine (q4_Proves.calls kj5 _ _ l0_0 a0_1 _ _ l0_2 a0_3 a0_4 a1_0 a1_1 t671 t672 false _ ?side1 ?side2 ?side3 ?side4 A44.out).mono ?_);(case side1 => exact kC HR0_0.out HB.out);(case side2 => exact HC0_0.out);(case side3 => exact kC HR0_2.out HB.out);(case side4 => exact HC0_2.out);rintro e w118 ⟨rfl,hb⟩;refine ⟨_,rfl,?_⟩;replace BK660 := (kmv hb BK660);replace BK661 := (kmv hb BK661);replace BK667 := (kmv hb BK667);replace HB := am (below_step (HB.out) hb);(try clear hb);(try clear hb2);(try clear hk);(try clear hi)) | ((refine gate_dst (N := 7) rfl ?_);refine box_event rfl (N := 7) rfl (cs := #[.int .i64 0,.int .i64 0]) (t := 40) ?hr ?_;(case hr => go_simp;try rfl);intro gb674 hg w119 hbox hb;have BK674 := am (hbox);have GE674 := am (ge_new (HB.out) hg);have NB660_674 := am (ne_new BK660.out hg);have NB674_660 := am (ne_new2 BK660.out hg);have NB661_674 := am (ne_new BK661.out hg);have NB674_661 := am (ne_new2 BK661.out hg);have NB667_674 := am (ne_new BK667.out hg);have NB674_667 := am (ne_new2 BK667.out hg);replace BK660 := (kmv hb BK660);replace BK661 := (kmv hb BK661);replace BK667 := (kmv hb BK667);replace HB := am (below_step (HB.out) hb);clear hb hbox hg;have hnb120 := NB674_660.out;have hnc120 := NB660_674.out;have hnb121 := NB674_661.out;have hnc121 := NB661_674.out;have hnb122 := NB674_667.out;have hnc122 := NB667_674.out;obtain ⟨hcz123_0,hcz123_1⟩ := cO2 BK674.out;have hfz123_0 := blk_frozen BK674.out 0;have hfz123_1 := blk_frozen BK674.out 1))
        go_ret
        exact ⟨by first | rfl | (simp [*] <;> rfl),by repeat (first | (with_reducible first | exact HB.out | refine below_set ?_ (Aside0.out (by assumption)) | apply below_alloc | apply pw_below_drewN) | exact HB.out)⟩
       rw [if_pos c85] at H
       have c85b0 : (t666 == 7) = true := beq_iff_eq.mpr c85
       have c85b1 : (t666 != 7) = false := bne_eq_false_iff_eq.mpr c85
       clear c85
       by_cases c86 : (t664 == 0 && (t665 == 0)) = true
       case neg =>
        rw [if_neg c86] at H
        have c86b0 : (t664 == 0 && (t665 == 0)) = false := by simpa using c86
        (try (have c86b1 : decide (t664 = 0 && (t665 == 0)) = false := by simpa using c86))
        (try (have c86b2 : (t664 == 0 && (t665 == 0)) = false := by simpa using c86))
        (try (have c86b3 : ¬ (t664 = 0 && (t665 == 0)) := by simpa using c86))
        clear c86
        obtain rfl := Option.some.inj H
        have hnb101 := NB660_661.out
        have hnc101 := NB661_660.out
        have hnb102 := NB660_667.out
        have hnc102 := NB667_660.out
        obtain ⟨hcz103_0,hcz103_1,hcz103_2,hcz103_3,hcz103_4⟩ := cO5 BK660.out
        have hnb104 := NB661_667.out
        have hnc104 := NB667_661.out
        obtain ⟨hcz105_0,hcz105_1⟩ := cO2 BK661.out
        go_wp2_with (first | ((with_reducible refine gate_callee (f := 32) rfl ?_);refine goesL_ (some 40) rfl rfl Tryz.func32 (by kernel_rfl) rfl #[.agg #[.slice A0_0 l0_0.length c0_0,.int .i64 a0_1,.slice A0_2 l0_2.length c0_2,.int .i64 a0_3,.int .i64 a0_4],.agg #[.int .i64 a1_0,.int .i64 a1_1]] rfl (by (try simp only [List.map_toArray,List.map_cons,List.map_nil]);first | done | rfl | (simp only [List.length_drop,List.length_take];rfl)) ?_;(refine (q4_Proves.calls kj5 _ _ l0_0 a0_1 _ _ l0_2 a0_3 a0_4 a1_0 a1_1 t671 t672 false _ ?side1 ?side2 ?side3 ?side4 A44.out).mono ?_);(case side1 => exact kC HR0_0.out HB.out);(case side2 => exact HC0_0.out);(case side3 => exact kC HR0_2.out HB.out);(case side4 => exact HC0_2.out);rintro e w106 ⟨rfl,hb⟩;refine ⟨_,rfl,?_⟩;replace BK660 := (kmv hb BK660);replace BK661 := (kmv hb BK661);replace BK667 := (kmv hb BK667);replace HB := am (below_step (HB.out) hb);(try clear hb);(try clear hb2);(try clear hk);(try clear hi)) | ((refine gate_dst (N := 7) rfl ?_);refine box_event rfl (N := 7) rfl (cs := #[.int .i64 0,.int .i64 0]) (t := 40) ?hr ?_;(case hr => go_simp;try rfl);intro gb674 hg w107 hbox hb;have BK674 := am (hbox);have GE674 := am (ge_new (HB.out) hg);have NB660_674 := am (ne_new BK660.out hg);have NB674_660 := am (ne_new2 BK660.out hg);have NB661_674 := am (ne_new BK661.out hg);have NB674_661 := am (ne_new2 BK661.out hg);have NB667_674 := am (ne_new BK667.out hg);have NB674_667 := am (ne_new2 BK667.out hg);replace BK660 := (kmv hb BK660);replace BK661 := (kmv hb BK661);replace BK667 := (kmv hb BK667);replace HB := am (below_step (HB.out) hb);clear hb hbox hg;have hnb108 := NB674_660.out;have hnc108 := NB660_674.out;have hnb109 := NB674_661.out;have hnc109 := NB661_674.out;have hnb110 := NB674_667.out;have hnc110 := NB667_674.out;obtain ⟨hcz111_0,hcz111_1⟩ := cO2 BK674.out;have hfz111_0 := blk_frozen BK674.out 0;have hfz111_1 := blk_frozen BK674.out 1;obtain ⟨hcz112_0,hcz112_1⟩ := cO2 BK667.out;have hfz112_0 := blk_frozen BK667.out 0;have hfz112_1 := blk_frozen BK667.out 1))
        go_ret
        exact ⟨by first | rfl | (simp [*] <;> rfl),by repeat (first | (with_reducible first | exact HB.out | refine below_set ?_ (Aside0.out (by assumption)) | apply below_alloc | apply pw_below_drewN) | exact HB.out)⟩
       rw [if_pos c86] at H
       have c86b0 : (t664 == 0 && (t665 == 0)) = true := c86
       (try (have c86b1 : decide (t664 = 0 && (t665 == 0)) = true := by simpa using c86))
       (try (have c86b2 : (t664 == 0 && (t665 == 0)) = true := by simpa using c86))
       clear c86
       replace H := obm H
       obtain ⟨t676,A870,H⟩ := H
       (try dsimp only at H)
       have A87 := am A870
       clear A870
       obtain rfl := Option.some.inj H
       have hnb88 := NB660_661.out
       have hnc88 := NB661_660.out
       have hnb89 := NB660_667.out
       have hnc89 := NB667_660.out
       obtain ⟨hcz90_0,hcz90_1,hcz90_2,hcz90_3,hcz90_4⟩ := cO5 BK660.out
       have hnb91 := NB661_667.out
       have hnc91 := NB667_661.out
       obtain ⟨hcz92_0,hcz92_1⟩ := cO2 BK661.out
       go_wp2_with (first | ((with_reducible refine gate_callee (f := 32) rfl ?_);refine goesL_ (some 40) rfl rfl Tryz.func32 (by kernel_rfl) rfl #[.agg #[.slice A0_0 l0_0.length c0_0,.int .i64 a0_1,.slice A0_2 l0_2.length c0_2,.int .i64 a0_3,.int .i64 a0_4],.agg #[.int .i64 a1_0,.int .i64 a1_1]] rfl (by (try simp only [List.map_toArray,List.map_cons,List.map_nil]);first | done | rfl | (simp only [List.length_drop,List.length_take];rfl)) ?_;(refine (q4_Proves.calls kj5 _ _ l0_0 a0_1 _ _ l0_2 a0_3 a0_4 a1_0 a1_1 t671 t672 false _ ?side1 ?side2 ?side3 ?side4 A44.out).mono ?_);(case side1 => exact kC HR0_0.out HB.out);(case side2 => exact HC0_0.out);(case side3 => exact kC HR0_2.out HB.out);(case side4 => exact HC0_2.out);rintro e w93 ⟨rfl,hb⟩;refine ⟨_,rfl,?_⟩;replace BK660 := (kmv hb BK660);replace BK661 := (kmv hb BK661);replace BK667 := (kmv hb BK667);replace HB := am (below_step (HB.out) hb);(try clear hb);(try clear hb2);(try clear hk);(try clear hi)) | ((refine gate_dst (N := 7) rfl ?_);refine box_event rfl (N := 7) rfl (cs := #[.int .i64 0,.int .i64 0]) (t := 40) ?hr ?_;(case hr => go_simp;try rfl);intro gb674 hg w94 hbox hb;have BK674 := am (hbox);have GE674 := am (ge_new (HB.out) hg);have NB660_674 := am (ne_new BK660.out hg);have NB674_660 := am (ne_new2 BK660.out hg);have NB661_674 := am (ne_new BK661.out hg);have NB674_661 := am (ne_new2 BK661.out hg);have NB667_674 := am (ne_new BK667.out hg);have NB674_667 := am (ne_new2 BK667.out hg);replace BK660 := (kmv hb BK660);replace BK661 := (kmv hb BK661);replace BK667 := (kmv hb BK667);replace HB := am (below_step (HB.out) hb);clear hb hbox hg;have hnb95 := NB674_660.out;have hnc95 := NB660_674.out;have hnb96 := NB674_661.out;have hnc96 := NB661_674.out;have hnb97 := NB674_667.out;have hnc97 := NB667_674.out;obtain ⟨hcz98_0,hcz98_1⟩ := cO2 BK674.out;have hfz98_0 := blk_frozen BK674.out 0;have hfz98_1 := blk_frozen BK674.out 1;obtain ⟨hcz99_0,hcz99_1⟩ := cO2 BK667.out;have hfz99_0 := blk_frozen BK667.out 0;have hfz99_1 := blk_frozen BK667.out 1) | (go_at_call 15;(refine (l4_known.calls  t676 _ (HG.out.below (by repeat (first | (with_reducible exact HB.out) | (with_reducible apply below_alloc) | (with_reducible apply pw_below_drewN) | (with_reducible apply below_drew1) | (with_reducible refine below_set ?_ (Aside0.out (by assumption))) | exact HB.out))) A87.out).mono ?_);rintro e w100 ⟨rfl,hb⟩;replace BK660 := am (blk_below (blk_far (blk_far BK660.out NB660_674.out _) NB660_674.out _) hb);replace BK661 := am (blk_below (blk_far (blk_far BK661.out NB661_674.out _) NB661_674.out _) hb);replace BK667 := am (blk_below (blk_far (blk_far BK667.out NB667_674.out _) NB667_674.out _) hb);replace BK674 := am (blk_below (blk_put (cs := #[.int .i64 t671,.int .i64 0]) (blk_put (cs := #[.int .i64 0,.int .i64 0]) BK674.out 0 _ rfl) 1 _ rfl) hb);replace HB := am (below_step (by repeat (first | (with_reducible first | exact HB.out | refine below_set ?_ (Aside0.out (by assumption)) | apply below_alloc | apply pw_below_drewN) | exact HB.out)) hb);(try clear hb);(try clear hb2);(try clear hk);(try clear hi)))
       go_ret
       exact ⟨by first | rfl | (simp [*] <;> rfl),HB.out⟩
end
theorem known_true : l4_known.f = some true := rfl
theorem short_eq {rows : List S126} {draw : Int} {noz : List S64} {weir spill : Int} : l4_short.f rows draw noz weir spill = some (decide (rows.length ≤ 15 ∧ noz.length ≤ 8)) := by
 unfold l4_short.f
 by_cases h : (rows.length : Int) ≤ 15
 · rw [if_pos h,show decide (rows.length ≤ 15 ∧ noz.length ≤ 8) = decide ((noz.length : Int) ≤ 8) from by rw [decide_eq_decide];omega]
 · rw [if_neg h,decide_eq_false (by omega)]
def spanH (a b : Int) : Bool := decide (0 ≤ a ∧ a ≤ 40) && (decide (0 ≤ b ∧ b ≤ 40) && decide (a ≤ b))
theorem isSpanH_eq (a b : Int) : isSpan_isHeight.f a b = some (spanH a b) := by
 unfold isSpan_isHeight.f spanH
 simp only [c_height,Option.bind_some]
 cases decide (0 ≤ a ∧ a ≤ 40) <;> cases decide (0 ≤ b ∧ b ≤ 40) <;> rfl
theorem reading_eq (a b : Int) : q4_Reading.f a b = some (spanH a b) := by
 unfold q4_Reading.f spanH
 simp only [r_height,Option.bind_some]
 cases decide (0 ≤ a ∧ a ≤ 40) <;> cases decide (0 ≤ b ∧ b ≤ 40) <;> rfl
theorem spanH_iff {a b : Int} : spanH a b = true ↔ 0 ≤ a ∧ a ≤ b ∧ b ≤ 40 := by
 unfold spanH
 simp only [Bool.and_eq_true,decide_eq_true_eq]
 omega
section
variable {rows : List S126} {draw : Int} {noz : List S64} {weir spill : Int}
def hiP (rows : List S126) (noz : List S64) (weir spill hi : Int) : Int := if hi < 40 then mn 10000 (tot rows noz weir spill (hi + 1) - 1) else 10000
theorem cProves_eq (h : OkB rows draw noz weir spill) {lo hi : Int} (hs : 0 ≤ lo ∧ lo ≤ hi ∧ hi ≤ 40) : ca_Proves.f rows draw noz weir spill lo hi =
 some (if tot rows noz weir spill lo ≤ hiP rows noz weir spill hi then (tot rows noz weir spill lo,hiP rows noz weir spill hi,0) else (0,0,7)) := by
 have b1 := h.r2
 unfold ca_Proves.f
 rw [isBasin_eq (by omega),okB_iff.2 h,Option.bind_some,if_pos rfl,isSpanH_eq,spanH_iff.2 hs,Option.bind_some,if_pos rfl,fillK_eq h,Option.bind_some]
 unfold gf_proves.f gf_proves_P.f hiP
 simp only [out_eq h hs.1 (by omega : lo ≤ 40),Option.bind_some]
 by_cases g : hi < 40
 case neg =>
  rw [if_neg g,if_neg g,if_neg g]
  by_cases c : tot rows noz weir spill lo ≤ 10000
  · rw [if_neg (by omega),if_pos c]
  · rw [if_pos (by omega),if_neg c,if_pos (by omega)]
    rfl
 have t := tot_in h (show 0 ≤ hi + 1 by omega) (by omega)
 rw [if_pos g,if_pos g,if_pos g,w64 (n := hi + 1) (by omega),out_eq h (by omega) (by omega)]
 simp only [Option.bind_some]
 rw [w64 (by omega)]
 by_cases c : tot rows noz weir spill lo ≤ mn 10000 (tot rows noz weir spill (hi + 1) - 1)
 · rw [if_neg (by omega),if_pos c]
 · rw [if_pos (by omega),if_neg c,if_pos (by omega)]
   rfl
theorem rProves_eq (h : OkB rows draw noz weir spill) {lo hi : Int} (hs : 0 ≤ lo ∧ lo ≤ hi ∧ hi ≤ 40) {k : Nat} (hk : 10 ≤ k) : q4_Proves.f k rows draw noz weir spill lo hi =
 some (tot rows noz weir spill lo,hiP rows noz weir spill hi,decide (tot rows noz weir spill lo ≤ hiP rows noz weir spill hi)) := by
 unfold q4_Proves.f hiP
 rw [rtot_eq h hs.1 (by omega) hk,Option.bind_some]
 by_cases g : hi < 40
 case neg =>
  rw [if_neg g,if_neg g]
 have t := tot_in h (show 0 ≤ hi + 1 by omega) (by omega)
 rw [if_pos g,if_pos g,w64 (n := hi + 1) (by omega),rtot_eq h (by omega) (by omega) hk,Option.bind_some,w64 (by omega)]
theorem cProves_bad (hl : rows.length ≤ 1000) {lo hi : Int} (hb : ¬ (okB rows draw noz weir spill = true ∧ spanH lo hi = true)) : ca_Proves.f rows draw noz weir spill lo hi = some (0,0,2) := by
 unfold ca_Proves.f
 rw [isBasin_eq hl,Option.bind_some]
 cases b : okB rows draw noz weir spill with
 | false => rfl
 | true =>
  rw [if_pos rfl,isSpanH_eq,Option.bind_some]
  cases c : spanH lo hi with
  | false => rfl
  | true => exact absurd ⟨b,c⟩ hb
end
theorem proves_pure (rows : List S126) (draw : Int) (noz : List S64) (weir spill lo hi : Int) {k : Nat} (hk : 100 ≤ k) : l4_CastleProves.f k rows draw noz weir spill lo hi = some true := by
 obtain ⟨k,rfl⟩ := ksucc (by omega : 0 < k)
 unfold l4_CastleProves.f
 rw [short_eq,Option.bind_some]
 by_cases s : rows.length ≤ 15 ∧ noz.length ≤ 8
 case neg => rw [decide_eq_false s,if_neg (by decide),known_true];rfl
 rw [decide_eq_true s,if_pos rfl]
 by_cases hb : okB rows draw noz weir spill = true ∧ spanH lo hi = true
 · have h := okB_iff.1 hb.1
   have hs := spanH_iff.1 hb.2
   rw [cProves_eq h hs,Option.bind_some,refBasin_eq (by omega) (by omega) (by omega),Option.bind_some,if_pos hb.1,reading_eq,hb.2,Option.bind_some]
   simp only [l4_CastleProves.j0,Bool.not_true]
   rw [if_neg (by decide),rProves_eq h hs (by omega),Option.bind_some]
   by_cases c : tot rows noz weir spill lo ≤ hiP rows noz weir spill hi
   · simp [c,known_true]
   · simp [c,known_true]
 · rw [cProves_bad (by omega) hb,Option.bind_some,refBasin_eq (by omega) (by omega) (by omega),Option.bind_some]
   cases b : okB rows draw noz weir spill with
   | false =>
    rw [if_neg (by decide)]
    simp [l4_CastleProves.j0,known_true]
   | true =>
    rw [if_pos rfl,reading_eq,Option.bind_some]
    cases c : spanH lo hi with
    | true => exact absurd ⟨b,c⟩ hb
    | false => simp [l4_CastleProves.j0,known_true]
end Go.Proofs.YticlelgmmonloaaGreatDoor.C

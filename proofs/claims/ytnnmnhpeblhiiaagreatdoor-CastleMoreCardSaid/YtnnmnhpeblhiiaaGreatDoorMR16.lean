/- A part of the proof: the walks of the functions that it reaches. TIGHT. -/
import Derived.Test.YtnnmnhpeblhiiaaGreatDoorMR15
set_option linter.unusedVariables false
set_option linter.unusedSimpArgs false
namespace Go.Proofs.YtnnmnhpeblhiiaaGreatDoor.C
open Go.RowKit Go.Proofs.YtnnmnhpeblhiiaaGreatDoorW.PrintWords Go.Proofs.YtnnmnhpeblhiiaaGreatDoorW.PrintLast Go.Proofs.YtnnmnhpeblhiiaaGreatDoorW.PrintMore
set_option linter.unusedVariables false
set_option linter.unusedSimpArgs false
set_option maxHeartbeats 16000000
set_option maxRecDepth 100000
section
attribute [local go_sem] max2_int min2_int max_two min_two
def ca_Level.j0 : Nat → Bool → List (S126) → Int → List (S48) → Int → Int → Int → Int → Option (Int × Int × Int)
 | 0,_,_,_,_,_,_,_,_ => none
 | k + 1,x14,x310000,x310001,x310002,x310003,x310004,x311000,x311001 => if x14 = true then (some (0,0,2)) else ((ca_fill.f k x310000 x310001 x310002 x310003 x310004).bind fun bt326 => ((gf_level.f x310000 bt326.1 x310002 bt326.2.1 bt326.2.2.1 bt326.2.2.2 x311000).bind fun t333 => ((gf_level.f x310000 bt326.1 x310002 bt326.2.1 bt326.2.2.1 bt326.2.2.2 x311001).bind fun t334 => (some (t333,t334,0)))))
def ca_Level.f (k : Nat) (l0_0 : List (S126)) (a0_1 : Int) (l0_2 : List (S48)) (a0_3 : Int) (a0_4 : Int) (a1_0 : Int) (a1_1 : Int) : Option (Int × Int × Int) := (ca_isBasin.f l0_0 a0_1 l0_2 a0_3 a0_4).bind fun t312 => (if t312 = true then ((isSpan_isFlow.f a1_0 a1_1).bind fun t313 => (ca_Level.j0 k (!t313) l0_0 a0_1 l0_2 a0_3 a0_4 a1_0 a1_1)) else (ca_Level.j0 k true l0_0 a0_1 l0_2 a0_3 a0_4 a1_0 a1_1))
def ca_Level.T4 : Bool × List (List Nat × List Nat) := (true,[([],[]),([],[]),([1],[1]),([0,2],[0,2]),([],[]),([],[]),([5],[5]),([4,6,3],[4,6]),([3,7],[3,7]),([8,7,0,1,2,3,4,5,6,7,8],[8]),([9,0,1,2,3,4,5,6,7,8,9],[])])
def ca_Level.B4 : List Nat := [0,0,2,7,0,0,32,127,255,511,1023]
theorem ca_Level.tab4 : rtab .any (opsOf Tryz.f41 4) = ca_Level.T4 := by kernel_rfl
theorem ca_Level.bits4 : waitsOk ca_Level.T4.2 ca_Level.B4 = true := by kernel_rfl
theorem ca_Level.calls (k : Nat) (A0_0 : Option Addr) (c0_0 : Nat) (l0_0 : List (S126)) (a0_1 : Int) (A0_2 : Option Addr) (c0_2 : Nat) (l0_2 : List (S48)) (a0_3 : Int) (a0_4 : Int) (a1_0 : Int) (a1_1 : Int) (r1 : Int) (r2 : Int) (r3 : Int) (w : World) (hr0_0 : Kd.C k126 w A0_0 l0_0.length l0_0) (hc0_0 : l0_0.length ≤ c0_0) (hr0_2 : Kd.C k48 w A0_2 l0_2.length l0_2) (hc0_2 : l0_2.length ≤ c0_2) (h : ca_Level.f k l0_0 a0_1 l0_2 a0_3 a0_4 a1_0 a1_1 = some (r1,r2,r3)) :
 Calls Tryz.prog 41 #[.agg #[.slice A0_0 l0_0.length c0_0,.int .i64 a0_1,.slice A0_2 l0_2.length c0_2,.int .i64 a0_3,.int .i64 a0_4],.agg #[.int .i64 a1_0,.int .i64 a1_1]] w fun e w' => e = .returned (.tuple #[.agg #[.int .i64 r1,.int .i64 r2],.int .i64 r3]) ∧ Below w.heap.size w w' := by
 have hu27 := Tryz.underlying27
 have hu54 := Tryz.underlying54
 have hu110 := Tryz.underlying110
 have HR0_0 := am hr0_0
 have HC0_0 := am hc0_0
 clear hr0_0 hc0_0
 have HR0_2 := am hr0_2
 have HC0_2 := am hc0_2
 clear hr0_2 hc0_2
 have HB := am (Below.refl w.heap.size w)
 have H : ((ca_isBasin.f l0_0 a0_1 l0_2 a0_3 a0_4).bind fun t312 => (if t312 = true then ((isSpan_isFlow.f a1_0 a1_1).bind fun t313 => (ca_Level.j0 k (!t313) l0_0 a0_1 l0_2 a0_3 a0_4 a1_0 a1_1)) else (ca_Level.j0 k true l0_0 a0_1 l0_2 a0_3 a0_4 a1_0 a1_1))) = some (r1,r2,r3) := h
 clear h
 have HC3 := am H
 clear H
 go_enter Tryz.func41,Tryz.ntmps41
 go_upto_region 1 with (first | ((refine gate_dst (N := 2) rfl ?_);refine box_event rfl (N := 2) rfl (cs := #[.slice A0_0 l0_0.length c0_0,.int .i64 a0_1,.slice A0_2 l0_2.length c0_2,.int .i64 a0_3,.int .i64 a0_4]) (t := 27) ?hr ?_;(case hr => go_simp;try rfl);intro gb309 hg w4 hbox hb;have BK309 := am (hbox);have GW309 := am (ge_new (HB.out) hg);have GE309 := am (ge_new (HB.out) hg);replace HB := am (below_step (HB.out) hb);clear hb hbox hg) | ((refine gate_dst (N := 3) rfl ?_);refine box_event rfl (N := 3) rfl (cs := #[.int .i64 a1_0,.int .i64 a1_1]) (t := 54) ?hr ?_;(case hr => go_simp;try rfl);intro gb310 hg w5 hbox hb;have BK310 := am (hbox);have GW310 := am (ge_new (HB.out) hg);have GE310 := am (ge_new (HB.out) hg);have NB309_310 := am (ne_new BK309.out hg);have NB310_309 := am (ne_new2 BK309.out hg);replace BK309 := (kmv hb BK309);replace HB := am (below_step (HB.out) hb);clear hb hbox hg) | ((refine gate_dst (N := 4) rfl ?_);refine box_event rfl (N := 4) rfl (cs := #[.int .i64 0,.int .i64 0]) (t := 54) ?hr ?_;(case hr => go_simp;try rfl);intro gb311 hg w6 hbox hb;have BK311 := am (hbox);have GW311 := am (ge_new (HB.out) hg);have GE311 := am (ge_new (HB.out) hg);have NB309_311 := am (ne_new BK309.out hg);have NB311_309 := am (ne_new2 BK309.out hg);have NB310_311 := am (ne_new BK310.out hg);have NB311_310 := am (ne_new2 BK310.out hg);replace BK309 := (kmv hb BK309);replace BK310 := (kmv hb BK310);replace HB := am (below_step (HB.out) hb);clear hb hbox hg))
 (try simp only [Act.put,List.setIfInBounds_toArray,List.set_cons_zero,List.set_cons_succ])
 go_cut [14] (fun v14 wc => ∃ (kq : Nat) (x14_2 : Bool),v14 = .bool x14_2 ∧ Aside0 (ca_Level.j0 kq x14_2 l0_0 a0_1 l0_2 a0_3 a0_4 a1_0 a1_1 = some (r1,r2,r3)) ∧ Aside0 (kq ≤ k) ∧ Aside0 (wc.heap[gb309]? = some (.cells #[(.slice A0_0 l0_0.length c0_0),.int .i64 a0_1,(.slice A0_2 l0_2.length c0_2),.int .i64 a0_3,.int .i64 a0_4] 27 (0,0))) ∧ Aside0 (wc.heap[gb310]? = some (.cells #[.int .i64 a1_0,.int .i64 a1_1] 54 (0,0))) ∧ Aside0 (wc.heap[gb311]? = some (.cells #[.int .i64 0,.int .i64 0] 54 (0,0))) ∧ Aside0 (Below w.heap.size w wc))
 case first =>
  have H := HC3.out
  clear HC3
  replace H := obm H
  obtain ⟨t312,A70,H⟩ := H
  replace H : (if t312 = true then ((isSpan_isFlow.f a1_0 a1_1).bind fun t313 => (ca_Level.j0 k (!t313) l0_0 a0_1 l0_2 a0_3 a0_4 a1_0 a1_1)) else (ca_Level.j0 k true l0_0 a0_1 l0_2 a0_3 a0_4 a1_0 a1_1)) = some (r1,r2,r3) := H
  have A7 := am A70
  clear A70
  by_cases c8 : t312 = true
  case neg =>
   replace c8 := Bool.eq_false_iff.mpr c8
   subst c8
   replace H : (ca_Level.j0 k true l0_0 a0_1 l0_2 a0_3 a0_4 a1_0 a1_1) = some (r1,r2,r3) := by rw [if_neg (show ¬ (false = true) by decide)] at H;exact H
   replace H' := am H
   have hnb17 := NB309_310.out
   have hnc17 := NB310_309.out
   have hnb18 := NB309_311.out
   have hnc18 := NB311_309.out
   obtain ⟨hcz19_0,hcz19_1,hcz19_2,hcz19_3,hcz19_4⟩ := cO5 BK309.out
   go_wp2_with (first | ((with_reducible refine gate_callee (f := 64) rfl ?_);refine goesL_ (some 8) rfl rfl Tryz.func64 (by kernel_rfl) rfl #[.agg #[.slice A0_0 l0_0.length c0_0,.int .i64 a0_1,.slice A0_2 l0_2.length c0_2,.int .i64 a0_3,.int .i64 a0_4]] rfl (by (try simp only [List.map_toArray,List.map_cons,List.map_nil]);first | done | rfl | (simp only [List.length_drop,List.length_take];rfl)) ?_;(refine (ca_isBasin.calls _ _ l0_0 a0_1 _ _ l0_2 a0_3 a0_4 false _ ?side1 ?side2 ?side3 ?side4 A7.out).mono ?_);(case side1 => exact kC HR0_0.out HB.out);(case side2 => exact HC0_0.out);(case side3 => exact kC HR0_2.out HB.out);(case side4 => exact HC0_2.out);rintro e w20 ⟨rfl,hb⟩;refine ⟨_,rfl,?_⟩;replace BK309 := (kmv hb BK309);replace BK310 := (kmv hb BK310);replace BK311 := (kmv hb BK311);replace HB := am (below_step (HB.out) hb);(try clear hb);(try clear hb2);(try clear hk);(try clear hi)))
   go_meet
   case rel => exact ⟨_,(true),(by first | rfl | (simp;done) | (simp [*];done)),H',⟨by first | omega | exact Nat.le_refl _⟩,⟨BK309.out⟩,⟨BK310.out⟩,⟨BK311.out⟩,⟨HB.out⟩⟩
  subst c8
  replace H : ((isSpan_isFlow.f a1_0 a1_1).bind fun t313 => (ca_Level.j0 k (!t313) l0_0 a0_1 l0_2 a0_3 a0_4 a1_0 a1_1)) = some (r1,r2,r3) := by rw [if_pos rfl] at H;exact H
  replace H := obm H
  obtain ⟨t313,A90,H⟩ := H
  replace H : (ca_Level.j0 k (!t313) l0_0 a0_1 l0_2 a0_3 a0_4 a1_0 a1_1) = some (r1,r2,r3) := H
  have A9 := am A90
  clear A90
  replace H' := am H
  have hnb10 := NB309_310.out
  have hnc10 := NB310_309.out
  have hnb11 := NB309_311.out
  have hnc11 := NB311_309.out
  obtain ⟨hcz12_0,hcz12_1,hcz12_2,hcz12_3,hcz12_4⟩ := cO5 BK309.out
  go_wp2_with (first | ((with_reducible refine gate_callee (f := 64) rfl ?_);refine goesL_ (some 8) rfl rfl Tryz.func64 (by kernel_rfl) rfl #[.agg #[.slice A0_0 l0_0.length c0_0,.int .i64 a0_1,.slice A0_2 l0_2.length c0_2,.int .i64 a0_3,.int .i64 a0_4]] rfl (by (try simp only [List.map_toArray,List.map_cons,List.map_nil]);first | done | rfl | (simp only [List.length_drop,List.length_take];rfl)) ?_;(refine (ca_isBasin.calls _ _ l0_0 a0_1 _ _ l0_2 a0_3 a0_4 true _ ?side1 ?side2 ?side3 ?side4 A7.out).mono ?_);(case side1 => exact kC HR0_0.out HB.out);(case side2 => exact HC0_0.out);(case side3 => exact kC HR0_2.out HB.out);(case side4 => exact HC0_2.out);rintro e w13 ⟨rfl,hb⟩;refine ⟨_,rfl,?_⟩;replace BK309 := (kmv hb BK309);replace BK310 := (kmv hb BK310);replace BK311 := (kmv hb BK311);replace HB := am (below_step (HB.out) hb);(try clear hb);(try clear hb2);(try clear hk);(try clear hi);have hnb14 := NB310_311.out;have hnc14 := NB311_310.out;obtain ⟨hcz15_0,hcz15_1⟩ := cO2 BK310.out) | (go_at_call 76;(refine (isSpan_isFlow.calls a1_0 a1_1  t313 _ A9.out).mono ?_);rintro e w16 ⟨rfl,hb⟩;replace BK309 := (kmv hb BK309);replace BK310 := (kmv hb BK310);replace BK311 := (kmv hb BK311);replace HB := am (below_step (HB.out) hb);(try clear hb);(try clear hb2);(try clear hk);(try clear hi)))
  go_meet
  case rel => exact ⟨_,(!t313),(by first | rfl | (simp;done) | (simp [*];done)),H',⟨by first | omega | exact Nat.le_refl _⟩,⟨BK309.out⟩,⟨BK310.out⟩,⟨BK311.out⟩,⟨HB.out⟩⟩
 case rest =>
  clear HC3
  obtain ⟨kq,x14_2,rfl,HA,HJ2,BK309,BK310,BK311,HB⟩ := hcut
  cases kq with
  | zero => exact absurd HA.out (by simp [ca_Level.j0])
  | succ kj2 =>
   have H := HA.out
   clear HA
   simp only [ca_Level.j0] at H
   by_cases c21 : x14_2 = true
   · subst c21
     replace H : (some (0,0,2)) = some (r1,r2,r3) := by rw [if_pos rfl] at H;exact H
     simp only [Option.some.injEq,Prod.mk.injEq] at H
     obtain ⟨rfl,rfl,rfl⟩ := H
     have hnb22 := NB311_309.out
     have hnc22 := NB309_311.out
     have hnb23 := NB311_310.out
     have hnc23 := NB310_311.out
     obtain ⟨hcz24_0,hcz24_1⟩ := cO2 BK311.out
     have hfz24_0 := blk_frozen BK311.out 0
     have hfz24_1 := blk_frozen BK311.out 1
     go_wp2
     refine bodyPost_ret (results_ct rfl _ _ gb311 54 #[.int .i64 0,.int .i64 0] (0,0) _ rfl (blk_put (cs := #[.int .i64 0,.int .i64 0]) (blk_put (cs := #[.int .i64 0,.int .i64 0]) BK311.out 0 _ rfl) 1 _ rfl) Tryz.underlying54 rfl (by kernel_rfl)) rfl ?_
     exact ⟨by first | rfl | (simp [*] <;> rfl),by repeat (first | (with_reducible first | exact HB.out | refine below_set ?_ (Aside0.out (by assumption)) | apply below_alloc | apply pw_below_drewN) | exact HB.out)⟩
   · replace c21 := Bool.eq_false_iff.mpr c21
     subst c21
     replace H : ((ca_fill.f kj2 l0_0 a0_1 l0_2 a0_3 a0_4).bind fun bt326 => ((gf_level.f l0_0 bt326.1 l0_2 bt326.2.1 bt326.2.2.1 bt326.2.2.2 a1_0).bind fun t333 => ((gf_level.f l0_0 bt326.1 l0_2 bt326.2.1 bt326.2.2.1 bt326.2.2.2 a1_1).bind fun t334 => (some (t333,t334,0))))) = some (r1,r2,r3) := by rw [if_neg (show ¬ (false = true) by decide)] at H;exact H
     replace H := obm H
     obtain ⟨⟨t326,t327,t328,t329⟩,A250,H⟩ := H
     replace H : ((gf_level.f l0_0 t326 l0_2 t327 t328 t329 a1_0).bind fun t333 => ((gf_level.f l0_0 t326 l0_2 t327 t328 t329 a1_1).bind fun t334 => (some (t333,t334,0)))) = some (r1,r2,r3) := H
     have A25 := am A250
     clear A250
     replace H := obm H
     obtain ⟨t333,A260,H⟩ := H
     replace H : ((gf_level.f l0_0 t326 l0_2 t327 t328 t329 a1_1).bind fun t334 => (some (t333,t334,0))) = some (r1,r2,r3) := H
     have A26 := am A260
     clear A260
     replace H := obm H
     obtain ⟨t334,A270,H⟩ := H
     replace H : (some (t333,t334,0)) = some (r1,r2,r3) := H
     have A27 := am A270
     clear A270
     simp only [Option.some.injEq,Prod.mk.injEq] at H
     obtain ⟨rfl,rfl,rfl⟩ := H
     have hnb28 := NB309_310.out
     have hnc28 := NB310_309.out
     have hnb29 := NB309_311.out
     have hnc29 := NB311_309.out
     obtain ⟨hcz30_0,hcz30_1,hcz30_2,hcz30_3,hcz30_4⟩ := cO5 BK309.out
     try go_wp2_with (first | ((with_reducible refine gate_callee (f := 69) rfl ?_);refine goesL_ (some 17) rfl rfl Tryz.func69 (by kernel_rfl) rfl #[.agg #[.slice A0_0 l0_0.length c0_0,.int .i64 a0_1,.slice A0_2 l0_2.length c0_2,.int .i64 a0_3,.int .i64 a0_4]] rfl (by (try simp only [List.map_toArray,List.map_cons,List.map_nil]);first | done | rfl | (simp only [List.length_drop,List.length_take];rfl)) ?_;(refine (ca_fill.calls kj2 _ _ l0_0 a0_1 _ _ l0_2 a0_3 a0_4 t326 t327 t328 t329 _ ?side1 ?side2 ?side3 ?side4 A25.out).mono ?_);(case side1 => exact kC HR0_0.out HB.out);(case side2 => exact HC0_0.out);(case side3 => exact kC HR0_2.out HB.out);(case side4 => exact HC0_2.out);rintro e w31 ⟨v330,rfl,ho0,hb⟩;refine ⟨_,rfl,?_⟩;have HO331 := am (Kd.S_lower ho0 (below_size (HB.out)));replace BK309 := (kmv hb BK309);replace BK310 := (kmv hb BK310);replace BK311 := (kmv hb BK311);replace HB := am (below_step (HB.out) hb);(try clear hb);(try clear hb2);(try clear hk);(try clear hi);(try clear ho0)) | ((refine gate_dst (N := 6) rfl ?_);refine box_event rfl (N := 6) rfl (cs := #[.slice none 0 0,.int .i64 0,.slice none 0 0,.int .i64 0,.int .i64 0,.slice none 0 0]) (t := 110) ?hr ?_;(case hr => go_simp;try rfl);intro gb332 hg w32 hbox hb;have BK332 := am (hbox);have GW332 := am (ge_new (HB.out) hg);have GE332 := am (ge_new (HB.out) hg);have NB309_332 := am (ne_new BK309.out hg);have NB332_309 := am (ne_new2 BK309.out hg);have NB310_332 := am (ne_new BK310.out hg);have NB332_310 := am (ne_new2 BK310.out hg);have NB311_332 := am (ne_new BK311.out hg);have NB332_311 := am (ne_new2 BK311.out hg);replace HO331 := am (Kd.S_below HO331.out hb);replace BK309 := (kmv hb BK309);replace BK310 := (kmv hb BK310);replace BK311 := (kmv hb BK311);replace HB := am (below_step (HB.out) hb);clear hb hbox hg;have hnb33 := NB332_309.out;have hnc33 := NB309_332.out;have hnb34 := NB332_310.out;have hnc34 := NB310_332.out;have hnb35 := NB332_311.out;have hnc35 := NB311_332.out;obtain ⟨hcz36_0,hcz36_1,hcz36_2,hcz36_3,hcz36_4,hcz36_5⟩ := cO6 BK332.out;have hfz36_0 := blk_frozen BK332.out 0;have hfz36_1 := blk_frozen BK332.out 1;have hfz36_2 := blk_frozen BK332.out 2;have hfz36_3 := blk_frozen BK332.out 3;have hfz36_4 := blk_frozen BK332.out 4;have hfz36_5 := blk_frozen BK332.out 5;obtain ⟨Ao37,co37,eo37⟩ := Kd.S_slice HO331.out;subst eo37))
     have n0_ : Aside0 (Kd.S (Kd.slice 3 (Kd.int .i64)) 28 ((((((w32.setCell ⟨gb332,0,none⟩ (.slice A0_0 l0_0.length c0_0)).setCell ⟨gb332,1,none⟩ (.int .i64 t326)).setCell ⟨gb332,2,none⟩ (.slice A0_2 l0_2.length c0_2)).setCell ⟨gb332,3,none⟩ (.int .i64 t327)).setCell ⟨gb332,4,none⟩ (.int .i64 t328)).setCell ⟨gb332,5,none⟩ (.slice Ao37 t329.length co37)) w.heap.size (fun _ => True) (.slice Ao37 t329.length co37) t329) := ⟨by (with_reducible repeat (first | apply Kd.S_alloc | apply Kd.S_drewN | apply Kd.S_drew));exact Kd.S_mono (Kd.S_far (p := ⟨gb332,5,none⟩) (Kd.S_far (p := ⟨gb332,4,none⟩) (Kd.S_far (p := ⟨gb332,3,none⟩) (Kd.S_far (p := ⟨gb332,2,none⟩) (Kd.S_far (p := ⟨gb332,1,none⟩) (Kd.S_far (p := ⟨gb332,0,none⟩) (Kd.S_types HO331.out BK332.out (by decide)) (fun _ hk => hk.2) (.slice A0_0 l0_0.length c0_0)) (fun _ hk => hk.2) (.int .i64 t326)) (fun _ hk => hk.2) (.slice A0_2 l0_2.length c0_2)) (fun _ hk => hk.2) (.int .i64 t327)) (fun _ hk => hk.2) (.int .i64 t328)) (fun _ hk => hk.2) (.slice Ao37 t329.length co37)) (fun _ hk => trivial)⟩
     have n1_ : Aside0 (((((((w32.setCell ⟨gb332,0,none⟩ (.slice A0_0 l0_0.length c0_0)).setCell ⟨gb332,1,none⟩ (.int .i64 t326)).setCell ⟨gb332,2,none⟩ (.slice A0_2 l0_2.length c0_2)).setCell ⟨gb332,3,none⟩ (.int .i64 t327)).setCell ⟨gb332,4,none⟩ (.int .i64 t328)).setCell ⟨gb332,5,none⟩ (.slice Ao37 t329.length co37)).heap[gb309]? = some (.cells #[.slice A0_0 l0_0.length c0_0,.int .i64 a0_1,.slice A0_2 l0_2.length c0_2,.int .i64 a0_3,.int .i64 a0_4] 27 (0,0))) := ⟨(blk_far (blk_far (blk_far (blk_far (blk_far (blk_far BK309.out NB309_332.out _) NB309_332.out _) NB309_332.out _) NB309_332.out _) NB309_332.out _) NB309_332.out _)⟩
     have n2_ : Aside0 (((((((w32.setCell ⟨gb332,0,none⟩ (.slice A0_0 l0_0.length c0_0)).setCell ⟨gb332,1,none⟩ (.int .i64 t326)).setCell ⟨gb332,2,none⟩ (.slice A0_2 l0_2.length c0_2)).setCell ⟨gb332,3,none⟩ (.int .i64 t327)).setCell ⟨gb332,4,none⟩ (.int .i64 t328)).setCell ⟨gb332,5,none⟩ (.slice Ao37 t329.length co37)).heap[gb310]? = some (.cells #[.int .i64 a1_0,.int .i64 a1_1] 54 (0,0))) := ⟨(blk_far (blk_far (blk_far (blk_far (blk_far (blk_far BK310.out NB310_332.out _) NB310_332.out _) NB310_332.out _) NB310_332.out _) NB310_332.out _) NB310_332.out _)⟩
     have n3_ : Aside0 (((((((w32.setCell ⟨gb332,0,none⟩ (.slice A0_0 l0_0.length c0_0)).setCell ⟨gb332,1,none⟩ (.int .i64 t326)).setCell ⟨gb332,2,none⟩ (.slice A0_2 l0_2.length c0_2)).setCell ⟨gb332,3,none⟩ (.int .i64 t327)).setCell ⟨gb332,4,none⟩ (.int .i64 t328)).setCell ⟨gb332,5,none⟩ (.slice Ao37 t329.length co37)).heap[gb311]? = some (.cells #[.int .i64 0,.int .i64 0] 54 (0,0))) := ⟨(blk_far (blk_far (blk_far (blk_far (blk_far (blk_far BK311.out NB311_332.out _) NB311_332.out _) NB311_332.out _) NB311_332.out _) NB311_332.out _) NB311_332.out _)⟩
     have n4_ : Aside0 (((((((w32.setCell ⟨gb332,0,none⟩ (.slice A0_0 l0_0.length c0_0)).setCell ⟨gb332,1,none⟩ (.int .i64 t326)).setCell ⟨gb332,2,none⟩ (.slice A0_2 l0_2.length c0_2)).setCell ⟨gb332,3,none⟩ (.int .i64 t327)).setCell ⟨gb332,4,none⟩ (.int .i64 t328)).setCell ⟨gb332,5,none⟩ (.slice Ao37 t329.length co37)).heap[gb332]? = some (.cells #[.slice A0_0 l0_0.length c0_0,.int .i64 t326,.slice A0_2 l0_2.length c0_2,.int .i64 t327,.int .i64 t328,.slice Ao37 t329.length co37] 110 (0,0))) := ⟨(blk_put (cs := #[.slice A0_0 l0_0.length c0_0,.int .i64 t326,.slice A0_2 l0_2.length c0_2,.int .i64 t327,.int .i64 t328,.slice none 0 0]) (blk_put (cs := #[.slice A0_0 l0_0.length c0_0,.int .i64 t326,.slice A0_2 l0_2.length c0_2,.int .i64 t327,.int .i64 0,.slice none 0 0]) (blk_put (cs := #[.slice A0_0 l0_0.length c0_0,.int .i64 t326,.slice A0_2 l0_2.length c0_2,.int .i64 0,.int .i64 0,.slice none 0 0]) (blk_put (cs := #[.slice A0_0 l0_0.length c0_0,.int .i64 t326,.slice none 0 0,.int .i64 0,.int .i64 0,.slice none 0 0]) (blk_put (cs := #[.slice A0_0 l0_0.length c0_0,.int .i64 0,.slice none 0 0,.int .i64 0,.int .i64 0,.slice none 0 0]) (blk_put (cs := #[.slice none 0 0,.int .i64 0,.slice none 0 0,.int .i64 0,.int .i64 0,.slice none 0 0]) BK332.out 0 _ rfl) 1 _ rfl) 2 _ rfl) 3 _ rfl) 4 _ rfl) 5 _ rfl)⟩
     have n5_ : Aside0 (Below w.heap.size w ((((((w32.setCell ⟨gb332,0,none⟩ (.slice A0_0 l0_0.length c0_0)).setCell ⟨gb332,1,none⟩ (.int .i64 t326)).setCell ⟨gb332,2,none⟩ (.slice A0_2 l0_2.length c0_2)).setCell ⟨gb332,3,none⟩ (.int .i64 t327)).setCell ⟨gb332,4,none⟩ (.int .i64 t328)).setCell ⟨gb332,5,none⟩ (.slice Ao37 t329.length co37))) := ⟨by repeat (first | (with_reducible first | exact HB.out | refine below_set ?_ (Aside0.out (by assumption)) | apply below_alloc | apply pw_below_drewN) | exact HB.out)⟩
     (try clear HO331)
     (try clear BK309)
     (try clear BK310)
     (try clear BK311)
     (try clear BK332)
     (try clear HB)
     generalize ((((((w32.setCell ⟨gb332,0,none⟩ (.slice A0_0 l0_0.length c0_0)).setCell ⟨gb332,1,none⟩ (.int .i64 t326)).setCell ⟨gb332,2,none⟩ (.slice A0_2 l0_2.length c0_2)).setCell ⟨gb332,3,none⟩ (.int .i64 t327)).setCell ⟨gb332,4,none⟩ (.int .i64 t328)).setCell ⟨gb332,5,none⟩ (.slice Ao37 t329.length co37)) = w38 at n0_ n1_ n2_ n3_ n4_ n5_ ⊢
     have HO331 := n0_
     have BK309 := n1_
     have BK310 := n2_
     have BK311 := n3_
     have BK332 := n4_
     have HB := n5_
     clear n0_ n1_ n2_ n3_ n4_ n5_
     replace HO331 := am (Kd.S_drew HO331.out)
     replace BK309 := am (blk_drew BK309.out)
     replace BK310 := am (blk_drew BK310.out)
     replace BK311 := am (blk_drew BK311.out)
     replace BK332 := am (blk_drew BK332.out)
     replace HB := am (below_drew1 HB.out)
     refine start_ (n := 11) (S := fun w' => w'.cell? ⟨gb332,0,none⟩ = some (.slice A0_0 l0_0.length c0_0) ∧ w'.cell? ⟨gb332,1,none⟩ = some (.int .i64 t326) ∧ w'.cell? ⟨gb332,2,none⟩ = some (.slice A0_2 l0_2.length c0_2) ∧ w'.cell? ⟨gb332,3,none⟩ = some (.int .i64 t327) ∧ w'.cell? ⟨gb332,4,none⟩ = some (.int .i64 t328) ∧ w'.cell? ⟨gb332,5,none⟩ = some (.slice Ao37 t329.length co37) ∧ w'.cell? ⟨gb310,0,none⟩ = some (.int .i64 a1_0) ∧ w'.cell? ⟨gb310,1,none⟩ = some (.int .i64 a1_1)) (ds := []) (ba 11 0) (by kernel_rfl) rfl rfl ⟨(blk_cell BK332.out 0).trans rfl,(blk_cell BK332.out 1).trans rfl,(blk_cell BK332.out 2).trans rfl,(blk_cell BK332.out 3).trans rfl,(blk_cell BK332.out 4).trans rfl,(blk_cell BK332.out 5).trans rfl,(blk_cell BK310.out 0).trans rfl,(blk_cell BK310.out 1).trans rfl⟩ (fun hHeld => ?_);refine with_tabW ca_Level.tab4 ca_Level.bits4 (fun HT_ HW_ => ?_)
     generalize w38.drew = w39 at HO331 BK309 BK310 BK311 BK332 HB hHeld ⊢
     refine pure_ (i := 1) (N := some 19) (v := ?_) (a' := ?_) (ba 11 2) rfl rfl (any_of HT_.out (by kernel_rfl)) (fun _ _ _ h => h) (Or.inl ⟨by rfl,?_⟩) ?_ ?_
     rotate_left
     · intro w'
       go_simp
       with_reducible rfl
     rotate_left
     · simp only [Act.put,NRM]
       rfl
     refine pure_ (i := 5) (N := some 23) (v := ?_) (a' := ?_) (ba 11 34) rfl rfl (any_of HT_.out (by kernel_rfl)) (fun _ _ _ h => h) (Or.inl ⟨by rfl,?_⟩) ?_ ?_
     rotate_left
     · intro w'
       go_simp
       with_reducible rfl
     rotate_left
     · simp only [Act.put,NRM]
       rfl
     refine take_ (i := 0) (N := some 18) (v := ?_) (a' := ?_) (ba 11 35) rfl rfl (take_ofW HT_.out HW_.out (by kernel_rfl)) (fun _ _ _ h => h) (Or.inl ⟨by rfl,?_⟩) hHeld ?_ ?_
     rotate_left
     · rintro w' ⟨s0,s1,s2,s3,s4,s5,s6,s7⟩
       go_simp
       with_reducible rfl
     rotate_left
     · simp only [Act.put,NRM]
       rfl
     refine take_ (i := 2) (N := some 20) (v := ?_) (a' := ?_) (ba 11 39) rfl rfl (take_ofW HT_.out HW_.out (by kernel_rfl)) (fun _ _ _ h => h) (Or.inl ⟨by rfl,?_⟩) hHeld ?_ ?_
     rotate_left
     · rintro w' ⟨s0,s1,s2,s3,s4,s5,s6,s7⟩
       go_simp
       with_reducible rfl
     rotate_left
     · simp only [Act.put,NRM]
       rfl
     refine take_ (i := 4) (N := some 22) (v := ?_) (a' := ?_) (ba 11 55) rfl rfl (take_ofW HT_.out HW_.out (by kernel_rfl)) (fun _ _ _ h => h) (Or.inl ⟨by rfl,?_⟩) hHeld ?_ ?_
     rotate_left
     · rintro w' ⟨s0,s1,s2,s3,s4,s5,s6,s7⟩
       go_simp
       with_reducible rfl
     rotate_left
     · simp only [Act.put,NRM]
       rfl
     refine take_ (i := 6) (N := some 24) (v := ?_) (a' := ?_) (ba 11 119) rfl rfl (take_ofW HT_.out HW_.out (by kernel_rfl)) (fun _ _ _ h => h) (Or.inl ⟨by rfl,?_⟩) hHeld ?_ ?_
     rotate_left
     · rintro w' ⟨s0,s1,s2,s3,s4,s5,s6,s7⟩
       go_simp
       with_reducible rfl
     rotate_left
     · simp only [Act.put,NRM]
       rfl
     refine one_ (i := 3) (N := some 21) (ba 11 127) rfl rfl (one_of HT_.out (by kernel_rfl)) (by decide) (fun K hK => ?_)
     refine goes_ Tryz.func85 (by kernel_rfl) rfl #[.agg #[.slice A0_0 l0_0.length c0_0,.int .i64 t326,.slice A0_2 l0_2.length c0_2,.int .i64 t327,.int .i64 t328,.slice Ao37 t329.length co37],.int .i64 a1_0] (by rfl) rfl rfl (by (try simp only [List.map_toArray,List.map_cons,List.map_nil]);first | done | rfl | (simp only [List.length_drop,List.length_take];rfl)) ?_
     with_reducible refine (gf_level.calls _ _ l0_0 t326 _ _ l0_2 t327 t328 _ _ t329 a1_0 t333 _ ?side1 ?side2 ?side3 ?side4 ?side5 ?side6 A26.out).mono ?_
     (case side1 => exact kC HR0_0.out HB.out)
     (case side2 => exact HC0_0.out)
     (case side3 => exact kC HR0_2.out HB.out)
     (case side4 => exact HC0_2.out)
     (case side5 => repeat (first | exact (Kd.S_reads' HO331.out).2.2 | (with_reducible refine Kd.C_alloc ?_ _) | (with_reducible refine Kd.C_drewN ?_ _) | (with_reducible refine Kd.C_drew ?_)))
     (case side6 => exact (Kd.S_reads' HO331.out).2.1)
     rintro e w40 ⟨rfl,hb⟩
     refine ⟨_,rfl,?_⟩
     replace HO331 := am (Kd.S_below HO331.out hb)
     replace BK309 := (kmv hb BK309)
     replace BK310 := (kmv hb BK310)
     replace BK311 := (kmv hb BK311)
     replace BK332 := (kmv hb BK332)
     replace HB := am (below_step (HB.out) hb)
     (try clear hb)
     (try clear hb2)
     (try clear hk)
     (try clear hi)
     refine hK.out _ _ ⟨(blk_cell BK332.out 0).trans rfl,(blk_cell BK332.out 1).trans rfl,(blk_cell BK332.out 2).trans rfl,(blk_cell BK332.out 3).trans rfl,(blk_cell BK332.out 4).trans rfl,(blk_cell BK332.out 5).trans rfl,(blk_cell BK310.out 0).trans rfl,(blk_cell BK310.out 1).trans rfl⟩ (fun hHeld => ?_)
     clear hK K
     refine norm_ (a' := ?_) ?_ ?_
     rotate_left
     · show Act.put _ (some 21) _ = _
       simp only [Act.put,NRM]
       rfl
     refine one_ (i := 7) (N := some 25) (ba 11 255) rfl rfl (one_of HT_.out (by kernel_rfl)) (by decide) (fun K hK => ?_)
     refine goes_ Tryz.func85 (by kernel_rfl) rfl #[.agg #[.slice A0_0 l0_0.length c0_0,.int .i64 t326,.slice A0_2 l0_2.length c0_2,.int .i64 t327,.int .i64 t328,.slice Ao37 t329.length co37],.int .i64 a1_1] (by rfl) rfl rfl (by (try simp only [List.map_toArray,List.map_cons,List.map_nil]);first | done | rfl | (simp only [List.length_drop,List.length_take];rfl)) ?_
     with_reducible refine (gf_level.calls _ _ l0_0 t326 _ _ l0_2 t327 t328 _ _ t329 a1_1 t334 _ ?side1 ?side2 ?side3 ?side4 ?side5 ?side6 A27.out).mono ?_
     (case side1 => exact kC HR0_0.out HB.out)
     (case side2 => exact HC0_0.out)
     (case side3 => exact kC HR0_2.out HB.out)
     (case side4 => exact HC0_2.out)
     (case side5 => repeat (first | exact (Kd.S_reads' HO331.out).2.2 | (with_reducible refine Kd.C_alloc ?_ _) | (with_reducible refine Kd.C_drewN ?_ _) | (with_reducible refine Kd.C_drew ?_)))
     (case side6 => exact (Kd.S_reads' HO331.out).2.1)
     rintro e w41 ⟨rfl,hb⟩
     refine ⟨_,rfl,?_⟩
     replace HO331 := am (Kd.S_below HO331.out hb)
     replace BK309 := (kmv hb BK309)
     replace BK310 := (kmv hb BK310)
     replace BK311 := (kmv hb BK311)
     replace BK332 := (kmv hb BK332)
     replace HB := am (below_step (HB.out) hb)
     (try clear hb)
     (try clear hb2)
     (try clear hk)
     (try clear hi)
     refine hK.out _ _ ⟨(blk_cell BK332.out 0).trans rfl,(blk_cell BK332.out 1).trans rfl,(blk_cell BK332.out 2).trans rfl,(blk_cell BK332.out 3).trans rfl,(blk_cell BK332.out 4).trans rfl,(blk_cell BK332.out 5).trans rfl,(blk_cell BK310.out 0).trans rfl,(blk_cell BK310.out 1).trans rfl⟩ (fun hHeld => ?_)
     clear hK K
     refine norm_ (a' := ?_) ?_ ?_
     rotate_left
     · show Act.put _ (some 25) _ = _
       simp only [Act.put,NRM]
       rfl
     refine pure_ (i := 8) (N := some 26) (v := ?_) (a' := ?_) (ba 11 511) rfl rfl (any_of HT_.out (by kernel_rfl)) (fun _ _ _ h => h) (Or.inl ⟨by rfl,?_⟩) ?_ ?_
     rotate_left
     · intro w'
       go_simp
       with_reducible rfl
     rotate_left
     · simp only [Act.put,NRM]
       rfl
     refine one_ (i := 9) (N := none) (ba 11 1023) rfl rfl (one_of HT_.out (by kernel_rfl)) (by decide) (fun K hK => ?_)
     have hs42 := cO1 BK311.out
     have hfs42 := blk_frozen BK311.out 0
     have hns42_0 := NB309_311.out
     have hns42_1 := NB310_311.out
     have hns42_3 := NB332_311.out
     have hms42_0 := NB311_309.out
     have hms42_1 := NB311_310.out
     have hms42_3 := NB311_332.out
     have hs43 : w41.cell? ⟨gb311,1,none⟩ = some (.int .i64 0) := (blk_cell BK311.out 1).trans rfl
     have hfs43 := blk_frozen BK311.out 1
     have hns43_0 := NB309_311.out
     have hns43_1 := NB310_311.out
     have hns43_3 := NB332_311.out
     have hms43_0 := NB311_309.out
     have hms43_1 := NB311_310.out
     have hms43_3 := NB311_332.out
     refine skip_ (w1 := ?_) (by rfl) rfl ?_ ?_
     rotate_left
     · go_simp
       rfl
     refine hK.out _ _ ⟨((cell_far (p := ⟨gb311,_,none⟩) NB332_311.out _).trans (((cell_far (p := ⟨gb311,_,none⟩) NB332_311.out _).trans (hHeld.1)))),((cell_far (p := ⟨gb311,_,none⟩) NB332_311.out _).trans (((cell_far (p := ⟨gb311,_,none⟩) NB332_311.out _).trans (hHeld.2.1)))),((cell_far (p := ⟨gb311,_,none⟩) NB332_311.out _).trans (((cell_far (p := ⟨gb311,_,none⟩) NB332_311.out _).trans (hHeld.2.2.1)))),((cell_far (p := ⟨gb311,_,none⟩) NB332_311.out _).trans (((cell_far (p := ⟨gb311,_,none⟩) NB332_311.out _).trans (hHeld.2.2.2.1)))),((cell_far (p := ⟨gb311,_,none⟩) NB332_311.out _).trans (((cell_far (p := ⟨gb311,_,none⟩) NB332_311.out _).trans (hHeld.2.2.2.2.1)))),((cell_far (p := ⟨gb311,_,none⟩) NB332_311.out _).trans (((cell_far (p := ⟨gb311,_,none⟩) NB332_311.out _).trans (hHeld.2.2.2.2.2.1)))),((cell_far (p := ⟨gb311,_,none⟩) NB310_311.out _).trans (((cell_far (p := ⟨gb311,_,none⟩) NB310_311.out _).trans (hHeld.2.2.2.2.2.2.1)))),((cell_far (p := ⟨gb311,_,none⟩) NB310_311.out _).trans (((cell_far (p := ⟨gb311,_,none⟩) NB310_311.out _).trans (hHeld.2.2.2.2.2.2.2))))⟩ (fun hHeld => ?_)
     clear hK K
     refine pure_ (i := 10) (N := some 5) (v := ?_) (a' := ?_) (ba 11 2047) rfl rfl (any_of HT_.out (by kernel_rfl)) (fun _ _ _ h => h) (Or.inl ⟨by rfl,?_⟩) ?_ ?_
     rotate_left
     · intro w'
       go_simp
       with_reducible rfl
     rotate_left
     · simp only [Act.put,NRM]
       rfl
     refine done_ (done_of HT_.out (by kernel_rfl)) ?_
     try go_wp2
     refine bodyPost_ret (results_ct rfl _ _ gb311 54 #[.int .i64 t333,.int .i64 t334] (0,0) _ rfl (blk_put (cs := #[.int .i64 t333,.int .i64 0]) (blk_put (cs := #[.int .i64 0,.int .i64 0]) BK311.out 0 _ rfl) 1 _ rfl) Tryz.underlying54 rfl (by kernel_rfl)) rfl ?_
     exact ⟨by first | rfl | (simp [*] <;> rfl),by repeat (first | (with_reducible first | exact HB.out | refine below_set ?_ (Aside0.out (by assumption)) | apply below_alloc | apply pw_below_drewN) | exact HB.out)⟩
def ca_Out.j0 : Nat → Int → Bool → List (S126) → Int → List (S48) → Int → Int → Option (List Int × Int × Int)
 | 0,_,_,_,_,_,_,_ => none
 | k + 1,x1,x15,x337000,x337001,x337002,x337003,x337004 => if x15 = true then (some (([] : List Int),0,2)) else ((ca_fill.f k x337000 x337001 x337002 x337003 x337004).bind fun bt351 => (if 0 ≤ x1 then (if x1 < (bt351.2.2.2.length : Int) then ((gf_weir.f x337000 bt351.1 x337002 bt351.2.1 bt351.2.2.1 bt351.2.2.2 x1).bind fun t359 => (some (rd_L3 bt351.2.2.2 x1,t359,0))) else (none)) else (none)))
def ca_Out.f (k : Nat) (l0_0 : List (S126)) (a0_1 : Int) (l0_2 : List (S48)) (a0_3 : Int) (a0_4 : Int) (a1 : Int) : Option (List Int × Int × Int) := (ca_isBasin.f l0_0 a0_1 l0_2 a0_3 a0_4).bind fun t337 => (if t337 = true then ((ca_isHeight.f a1).bind fun t338 => (ca_Out.j0 k a1 (!t338) l0_0 a0_1 l0_2 a0_3 a0_4)) else (ca_Out.j0 k a1 true l0_0 a0_1 l0_2 a0_3 a0_4))
def ca_Out.T4 : Bool × List (List Nat × List Nat) := (true,[([],[]),([0],[0]),([],[]),([1,2],[1,2]),([3],[3]),([],[]),([],[]),([5,6],[5,6]),([4,7,0,1,2,3,4],[4]),([7,8,0,1,2,3,4,5,6,7,8],[7]),([9,0,1,2,3,4,5,6,7,8,9],[])])
def ca_Out.B4 : List Nat := [0,1,0,7,15,0,0,96,255,511,1023]
theorem ca_Out.tab4 : rtab .any (opsOf Tryz.f42 4) = ca_Out.T4 := by kernel_rfl
theorem ca_Out.bits4 : waitsOk ca_Out.T4.2 ca_Out.B4 = true := by kernel_rfl
theorem ca_Out.calls (k : Nat) (A0_0 : Option Addr) (c0_0 : Nat) (l0_0 : List (S126)) (a0_1 : Int) (A0_2 : Option Addr) (c0_2 : Nat) (l0_2 : List (S48)) (a0_3 : Int) (a0_4 : Int) (a1 : Int) (r1 : List Int) (r2 : Int) (r3 : Int) (w : World) (hr0_0 : Kd.C k126 w A0_0 l0_0.length l0_0) (hc0_0 : l0_0.length ≤ c0_0) (hr0_2 : Kd.C k48 w A0_2 l0_2.length l0_2) (hc0_2 : l0_2.length ≤ c0_2) (h : ca_Out.f k l0_0 a0_1 l0_2 a0_3 a0_4 a1 = some (r1,r2,r3)) :
 Calls Tryz.prog 42 #[.agg #[.slice A0_0 l0_0.length c0_0,.int .i64 a0_1,.slice A0_2 l0_2.length c0_2,.int .i64 a0_3,.int .i64 a0_4],.int .i64 a1] w fun e w' => ∃ v0_ : Value,e = .returned (.tuple #[v0_,.int .i64 r2,.int .i64 r3]) ∧ Kd.R (Kd.int .i64) 3 w' w.heap.size (fun _ => True) v0_ r1 ∧ Below w.heap.size w w' := by
 have hu27 := Tryz.underlying27
 have hu110 := Tryz.underlying110
 have HR0_0 := am hr0_0
 have HC0_0 := am hc0_0
 clear hr0_0 hc0_0
 have HR0_2 := am hr0_2
 have HC0_2 := am hc0_2
 clear hr0_2 hc0_2
 have HB := am (Below.refl w.heap.size w)
 have H : ((ca_isBasin.f l0_0 a0_1 l0_2 a0_3 a0_4).bind fun t337 => (if t337 = true then ((ca_isHeight.f a1).bind fun t338 => (ca_Out.j0 k a1 (!t338) l0_0 a0_1 l0_2 a0_3 a0_4)) else (ca_Out.j0 k a1 true l0_0 a0_1 l0_2 a0_3 a0_4))) = some (r1,r2,r3) := h
 clear h
 have HC3 := am H
 clear H
 go_enter Tryz.func42,Tryz.ntmps42
 go_upto_region 1 with (first | ((refine gate_dst (N := 2) rfl ?_);refine box_event rfl (N := 2) rfl (cs := #[.slice A0_0 l0_0.length c0_0,.int .i64 a0_1,.slice A0_2 l0_2.length c0_2,.int .i64 a0_3,.int .i64 a0_4]) (t := 27) ?hr ?_;(case hr => go_simp;try rfl);intro gb336 hg w4 hbox hb;have BK336 := am (hbox);have GW336 := am (ge_new (HB.out) hg);have GE336 := am (ge_new (HB.out) hg);replace HB := am (below_step (HB.out) hb);clear hb hbox hg))
 (try simp only [Act.put,List.setIfInBounds_toArray,List.set_cons_zero,List.set_cons_succ])
 go_cut [15] (fun v15 wc => ∃ (kq : Nat) (x15_2 : Bool),v15 = .bool x15_2 ∧ Aside0 (ca_Out.j0 kq a1 x15_2 l0_0 a0_1 l0_2 a0_3 a0_4 = some (r1,r2,r3)) ∧ Aside0 (kq ≤ k) ∧ Aside0 (wc.heap[gb336]? = some (.cells #[(.slice A0_0 l0_0.length c0_0),.int .i64 a0_1,(.slice A0_2 l0_2.length c0_2),.int .i64 a0_3,.int .i64 a0_4] 27 (0,0))) ∧ Aside0 (Below w.heap.size w wc))
 case first =>
  have H := HC3.out
  clear HC3
  replace H := obm H
  obtain ⟨t337,A50,H⟩ := H
  replace H : (if t337 = true then ((ca_isHeight.f a1).bind fun t338 => (ca_Out.j0 k a1 (!t338) l0_0 a0_1 l0_2 a0_3 a0_4)) else (ca_Out.j0 k a1 true l0_0 a0_1 l0_2 a0_3 a0_4)) = some (r1,r2,r3) := H
  have A5 := am A50
  clear A50
  by_cases c6 : t337 = true
  case neg =>
   replace c6 := Bool.eq_false_iff.mpr c6
   subst c6
   replace H : (ca_Out.j0 k a1 true l0_0 a0_1 l0_2 a0_3 a0_4) = some (r1,r2,r3) := by rw [if_neg (show ¬ (false = true) by decide)] at H;exact H
   replace H' := am H
   obtain ⟨hcz10_0,hcz10_1,hcz10_2,hcz10_3,hcz10_4⟩ := cO5 BK336.out
   go_wp2_with (first | ((with_reducible refine gate_callee (f := 64) rfl ?_);refine goesL_ (some 9) rfl rfl Tryz.func64 (by kernel_rfl) rfl #[.agg #[.slice A0_0 l0_0.length c0_0,.int .i64 a0_1,.slice A0_2 l0_2.length c0_2,.int .i64 a0_3,.int .i64 a0_4]] rfl (by (try simp only [List.map_toArray,List.map_cons,List.map_nil]);first | done | rfl | (simp only [List.length_drop,List.length_take];rfl)) ?_;(refine (ca_isBasin.calls _ _ l0_0 a0_1 _ _ l0_2 a0_3 a0_4 false _ ?side1 ?side2 ?side3 ?side4 A5.out).mono ?_);(case side1 => exact kC HR0_0.out HB.out);(case side2 => exact HC0_0.out);(case side3 => exact kC HR0_2.out HB.out);(case side4 => exact HC0_2.out);rintro e w11 ⟨rfl,hb⟩;refine ⟨_,rfl,?_⟩;replace BK336 := (kmv hb BK336);replace HB := am (below_step (HB.out) hb);(try clear hb);(try clear hb2);(try clear hk);(try clear hi)))
   go_meet
   case rel => exact ⟨_,(true),(by first | rfl | (simp;done) | (simp [*];done)),H',⟨by first | omega | exact Nat.le_refl _⟩,⟨BK336.out⟩,⟨HB.out⟩⟩
  subst c6
  replace H : ((ca_isHeight.f a1).bind fun t338 => (ca_Out.j0 k a1 (!t338) l0_0 a0_1 l0_2 a0_3 a0_4)) = some (r1,r2,r3) := by rw [if_pos rfl] at H;exact H
  replace H := obm H
  obtain ⟨t338,A70,H⟩ := H
  replace H : (ca_Out.j0 k a1 (!t338) l0_0 a0_1 l0_2 a0_3 a0_4) = some (r1,r2,r3) := H
  have A7 := am A70
  clear A70
  replace H' := am H
  obtain ⟨hcz8_0,hcz8_1,hcz8_2,hcz8_3,hcz8_4⟩ := cO5 BK336.out
  go_wp2_with (first | ((with_reducible refine gate_callee (f := 64) rfl ?_);refine goesL_ (some 9) rfl rfl Tryz.func64 (by kernel_rfl) rfl #[.agg #[.slice A0_0 l0_0.length c0_0,.int .i64 a0_1,.slice A0_2 l0_2.length c0_2,.int .i64 a0_3,.int .i64 a0_4]] rfl (by (try simp only [List.map_toArray,List.map_cons,List.map_nil]);first | done | rfl | (simp only [List.length_drop,List.length_take];rfl)) ?_;(refine (ca_isBasin.calls _ _ l0_0 a0_1 _ _ l0_2 a0_3 a0_4 true _ ?side1 ?side2 ?side3 ?side4 A5.out).mono ?_);(case side1 => exact kC HR0_0.out HB.out);(case side2 => exact HC0_0.out);(case side3 => exact kC HR0_2.out HB.out);(case side4 => exact HC0_2.out);rintro e w9 ⟨rfl,hb⟩;refine ⟨_,rfl,?_⟩;replace BK336 := (kmv hb BK336);replace HB := am (below_step (HB.out) hb);(try clear hb);(try clear hb2);(try clear hk);(try clear hi)) | (go_at_call 86;(refine (ca_isHeight.calls a1 t338 _ A7.out).mono ?_);rintro e w' ⟨rfl,⟨nd,rfl⟩⟩))
  go_meet
  case rel => exact ⟨_,(!t338),(by first | rfl | (simp;done) | (simp [*];done)),H',⟨by first | omega | exact Nat.le_refl _⟩,⟨BK336.out⟩,⟨pw_below_drewN HB.out _⟩⟩
 case rest =>
  clear HC3
  obtain ⟨kq,x15_2,rfl,HA,HJ2,BK336,HB⟩ := hcut
  cases kq with
  | zero => exact absurd HA.out (by simp [ca_Out.j0])
  | succ kj2 =>
   have H := HA.out
   clear HA
   simp only [ca_Out.j0] at H
   by_cases c12 : x15_2 = true
   · subst c12
     replace H : (some (([] : List Int),0,2)) = some (r1,r2,r3) := by rw [if_pos rfl] at H;exact H
     simp only [Option.some.injEq,Prod.mk.injEq] at H
     obtain ⟨rfl,rfl,rfl⟩ := H
     go_wp2
     go_ret3
     exact ⟨_,by first | rfl | (simp [*] <;> rfl),by first | exact Kd.R_nil _ _ _ _ _ | exact Kd.N_nil _ _ _ _ _ | exact Kd.V_nil _ _ _ _ _ | exact Kd.Q_nil _ _ _ _ _ | exact Kd.S_nil _ _ _ _ _,HB.out⟩
   · replace c12 := Bool.eq_false_iff.mpr c12
     subst c12
     replace H : ((ca_fill.f kj2 l0_0 a0_1 l0_2 a0_3 a0_4).bind fun bt351 => (if 0 ≤ a1 then (if a1 < (bt351.2.2.2.length : Int) then ((gf_weir.f l0_0 bt351.1 l0_2 bt351.2.1 bt351.2.2.1 bt351.2.2.2 a1).bind fun t359 => (some (rd_L3 bt351.2.2.2 a1,t359,0))) else (none)) else (none))) = some (r1,r2,r3) := by rw [if_neg (show ¬ (false = true) by decide)] at H;exact H
     replace H := obm H
     obtain ⟨⟨t351,t352,t353,t354⟩,A130,H⟩ := H
     replace H : (if 0 ≤ a1 then (if a1 < (t354.length : Int) then ((gf_weir.f l0_0 t351 l0_2 t352 t353 t354 a1).bind fun t359 => (some (rd_L3 t354 a1,t359,0))) else (none)) else (none)) = some (r1,r2,r3) := H
     have A13 := am A130
     clear A130
     by_cases c14 : 0 ≤ a1
     case neg =>
      rw [if_neg c14] at H
      exact absurd H (by simp)
     rw [if_pos c14] at H
     have c14b0 : decide (0 ≤ a1) = true := decide_eq_true c14
     clear c14
     by_cases c15 : a1 < (t354.length : Int)
     case neg =>
      rw [if_neg c15] at H
      exact absurd H (by simp)
     rw [if_pos c15] at H
     have c15b0 : decide (a1 < (t354.length : Int)) = true := decide_eq_true c15
     clear c15
     replace H := obm H
     obtain ⟨t359,A160,H⟩ := H
     replace H : (some (rd_L3 t354 a1,t359,0)) = some (r1,r2,r3) := H
     have A16 := am A160
     clear A160
     simp only [Option.some.injEq,Prod.mk.injEq] at H
     obtain ⟨rfl,rfl,rfl⟩ := H
     obtain ⟨hcz17_0,hcz17_1,hcz17_2,hcz17_3,hcz17_4⟩ := cO5 BK336.out
     try go_wp2_with (first | ((with_reducible refine gate_callee (f := 69) rfl ?_);refine goesL_ (some 17) rfl rfl Tryz.func69 (by kernel_rfl) rfl #[.agg #[.slice A0_0 l0_0.length c0_0,.int .i64 a0_1,.slice A0_2 l0_2.length c0_2,.int .i64 a0_3,.int .i64 a0_4]] rfl (by (try simp only [List.map_toArray,List.map_cons,List.map_nil]);first | done | rfl | (simp only [List.length_drop,List.length_take];rfl)) ?_;(refine (ca_fill.calls kj2 _ _ l0_0 a0_1 _ _ l0_2 a0_3 a0_4 t351 t352 t353 t354 _ ?side1 ?side2 ?side3 ?side4 A13.out).mono ?_);(case side1 => exact kC HR0_0.out HB.out);(case side2 => exact HC0_0.out);(case side3 => exact kC HR0_2.out HB.out);(case side4 => exact HC0_2.out);rintro e w18 ⟨v355,rfl,ho0,hb⟩;refine ⟨_,rfl,?_⟩;have HO356 := am (Kd.S_lower ho0 (below_size (HB.out)));replace BK336 := (kmv hb BK336);replace HB := am (below_step (HB.out) hb);(try clear hb);(try clear hb2);(try clear hk);(try clear hi);(try clear ho0)) | ((refine gate_dst (N := 7) rfl ?_);refine box_event rfl (N := 7) rfl (cs := #[.slice none 0 0,.int .i64 0,.slice none 0 0,.int .i64 0,.int .i64 0,.slice none 0 0]) (t := 110) ?hr ?_;(case hr => go_simp;try rfl);intro gb357 hg w19 hbox hb;have BK357 := am (hbox);have GW357 := am (ge_new (HB.out) hg);have GE357 := am (ge_new (HB.out) hg);have NB336_357 := am (ne_new BK336.out hg);have NB357_336 := am (ne_new2 BK336.out hg);replace HO356 := am (Kd.S_below HO356.out hb);replace BK336 := (kmv hb BK336);replace HB := am (below_step (HB.out) hb);clear hb hbox hg;have hnb20 := NB357_336.out;have hnc20 := NB336_357.out;obtain ⟨hcz21_0,hcz21_1,hcz21_2,hcz21_3,hcz21_4,hcz21_5⟩ := cO6 BK357.out;have hfz21_0 := blk_frozen BK357.out 0;have hfz21_1 := blk_frozen BK357.out 1;have hfz21_2 := blk_frozen BK357.out 2;have hfz21_3 := blk_frozen BK357.out 3;have hfz21_4 := blk_frozen BK357.out 4;have hfz21_5 := blk_frozen BK357.out 5;obtain ⟨Ao22,co22,eo22⟩ := Kd.S_slice HO356.out;subst eo22))
     have n0_ : Aside0 (Kd.S (Kd.slice 3 (Kd.int .i64)) 28 ((((((w19.setCell ⟨gb357,0,none⟩ (.slice A0_0 l0_0.length c0_0)).setCell ⟨gb357,1,none⟩ (.int .i64 t351)).setCell ⟨gb357,2,none⟩ (.slice A0_2 l0_2.length c0_2)).setCell ⟨gb357,3,none⟩ (.int .i64 t352)).setCell ⟨gb357,4,none⟩ (.int .i64 t353)).setCell ⟨gb357,5,none⟩ (.slice Ao22 t354.length co22)) w.heap.size (fun _ => True) (.slice Ao22 t354.length co22) t354) := ⟨by (with_reducible repeat (first | apply Kd.S_alloc | apply Kd.S_drewN | apply Kd.S_drew));exact Kd.S_mono (Kd.S_far (p := ⟨gb357,5,none⟩) (Kd.S_far (p := ⟨gb357,4,none⟩) (Kd.S_far (p := ⟨gb357,3,none⟩) (Kd.S_far (p := ⟨gb357,2,none⟩) (Kd.S_far (p := ⟨gb357,1,none⟩) (Kd.S_far (p := ⟨gb357,0,none⟩) (Kd.S_types HO356.out BK357.out (by decide)) (fun _ hk => hk.2) (.slice A0_0 l0_0.length c0_0)) (fun _ hk => hk.2) (.int .i64 t351)) (fun _ hk => hk.2) (.slice A0_2 l0_2.length c0_2)) (fun _ hk => hk.2) (.int .i64 t352)) (fun _ hk => hk.2) (.int .i64 t353)) (fun _ hk => hk.2) (.slice Ao22 t354.length co22)) (fun _ hk => trivial)⟩
     have n1_ : Aside0 (((((((w19.setCell ⟨gb357,0,none⟩ (.slice A0_0 l0_0.length c0_0)).setCell ⟨gb357,1,none⟩ (.int .i64 t351)).setCell ⟨gb357,2,none⟩ (.slice A0_2 l0_2.length c0_2)).setCell ⟨gb357,3,none⟩ (.int .i64 t352)).setCell ⟨gb357,4,none⟩ (.int .i64 t353)).setCell ⟨gb357,5,none⟩ (.slice Ao22 t354.length co22)).heap[gb336]? = some (.cells #[.slice A0_0 l0_0.length c0_0,.int .i64 a0_1,.slice A0_2 l0_2.length c0_2,.int .i64 a0_3,.int .i64 a0_4] 27 (0,0))) := ⟨(blk_far (blk_far (blk_far (blk_far (blk_far (blk_far BK336.out NB336_357.out _) NB336_357.out _) NB336_357.out _) NB336_357.out _) NB336_357.out _) NB336_357.out _)⟩
     have n2_ : Aside0 (((((((w19.setCell ⟨gb357,0,none⟩ (.slice A0_0 l0_0.length c0_0)).setCell ⟨gb357,1,none⟩ (.int .i64 t351)).setCell ⟨gb357,2,none⟩ (.slice A0_2 l0_2.length c0_2)).setCell ⟨gb357,3,none⟩ (.int .i64 t352)).setCell ⟨gb357,4,none⟩ (.int .i64 t353)).setCell ⟨gb357,5,none⟩ (.slice Ao22 t354.length co22)).heap[gb357]? = some (.cells #[.slice A0_0 l0_0.length c0_0,.int .i64 t351,.slice A0_2 l0_2.length c0_2,.int .i64 t352,.int .i64 t353,.slice Ao22 t354.length co22] 110 (0,0))) := ⟨(blk_put (cs := #[.slice A0_0 l0_0.length c0_0,.int .i64 t351,.slice A0_2 l0_2.length c0_2,.int .i64 t352,.int .i64 t353,.slice none 0 0]) (blk_put (cs := #[.slice A0_0 l0_0.length c0_0,.int .i64 t351,.slice A0_2 l0_2.length c0_2,.int .i64 t352,.int .i64 0,.slice none 0 0]) (blk_put (cs := #[.slice A0_0 l0_0.length c0_0,.int .i64 t351,.slice A0_2 l0_2.length c0_2,.int .i64 0,.int .i64 0,.slice none 0 0]) (blk_put (cs := #[.slice A0_0 l0_0.length c0_0,.int .i64 t351,.slice none 0 0,.int .i64 0,.int .i64 0,.slice none 0 0]) (blk_put (cs := #[.slice A0_0 l0_0.length c0_0,.int .i64 0,.slice none 0 0,.int .i64 0,.int .i64 0,.slice none 0 0]) (blk_put (cs := #[.slice none 0 0,.int .i64 0,.slice none 0 0,.int .i64 0,.int .i64 0,.slice none 0 0]) BK357.out 0 _ rfl) 1 _ rfl) 2 _ rfl) 3 _ rfl) 4 _ rfl) 5 _ rfl)⟩
     have n3_ : Aside0 (Below w.heap.size w ((((((w19.setCell ⟨gb357,0,none⟩ (.slice A0_0 l0_0.length c0_0)).setCell ⟨gb357,1,none⟩ (.int .i64 t351)).setCell ⟨gb357,2,none⟩ (.slice A0_2 l0_2.length c0_2)).setCell ⟨gb357,3,none⟩ (.int .i64 t352)).setCell ⟨gb357,4,none⟩ (.int .i64 t353)).setCell ⟨gb357,5,none⟩ (.slice Ao22 t354.length co22))) := ⟨by repeat (first | (with_reducible first | exact HB.out | refine below_set ?_ (Aside0.out (by assumption)) | apply below_alloc | apply pw_below_drewN) | exact HB.out)⟩
     (try clear HO356)
     (try clear BK336)
     (try clear BK357)
     (try clear HB)
     generalize ((((((w19.setCell ⟨gb357,0,none⟩ (.slice A0_0 l0_0.length c0_0)).setCell ⟨gb357,1,none⟩ (.int .i64 t351)).setCell ⟨gb357,2,none⟩ (.slice A0_2 l0_2.length c0_2)).setCell ⟨gb357,3,none⟩ (.int .i64 t352)).setCell ⟨gb357,4,none⟩ (.int .i64 t353)).setCell ⟨gb357,5,none⟩ (.slice Ao22 t354.length co22)) = w23 at n0_ n1_ n2_ n3_ ⊢
     have HO356 := n0_
     have BK336 := n1_
     have BK357 := n2_
     have HB := n3_
     clear n0_ n1_ n2_ n3_
     replace HO356 := am (Kd.S_drew HO356.out)
     replace BK336 := am (blk_drew BK336.out)
     replace BK357 := am (blk_drew BK357.out)
     replace HB := am (below_drew1 HB.out)
     have p358 : 0 ≤ (a1 : Int) := of_decide_eq_true (by assumption)
     have q358 : a1 < (t354.length : Int) := of_decide_eq_true (by assumption)
     obtain ⟨ad358,A358_0,c358_0,e358,hx358_0,hl358_0,hi358_0⟩ := at_L3 (Kd.S_reads' HO356.out).2.2 a1 p358 q358
     cases e358
     obtain ⟨ce358,hce358,hMe358,hcc358⟩ := Kd.S_get HO356.out [] a1 p358 (by first | exact q358 | exact of_decide_eq_true (by assumption) | (have e_ := (Kd.S_reads' HO356.out).1;omega))
     obtain ⟨ve358_0,rfl,ge358_0⟩ := hMe358
     have hv358_0 := hcc358 0 _ rfl
     rw [Nat.add_zero,show ((Kd.slice 3 (Kd.int .i64))).sz = 1 from rfl,Nat.mul_one] at hv358_0
     replace hv358_0 := Option.some.inj (hv358_0.symm.trans hx358_0)
     rw [hv358_0] at ge358_0
     have HL358_0 := am (show Kd.R (Kd.int .i64) 3 _ _ _ _ (rd_L3 t354 a1) from ge358_0)
     clear hv358_0 ge358_0
     clear hcc358 hce358
     have HR358_0 := am hi358_0
     have HC358_0 := am hl358_0
     clear hi358_0 hl358_0
     replace p358 := eq_true p358
     replace q358 := eq_true q358
     refine start_ (n := 11) (S := fun w' => w'.cell? ⟨gb357,0,none⟩ = some (.slice A0_0 l0_0.length c0_0) ∧ w'.cell? ⟨gb357,1,none⟩ = some (.int .i64 t351) ∧ w'.cell? ⟨gb357,2,none⟩ = some (.slice A0_2 l0_2.length c0_2) ∧ w'.cell? ⟨gb357,3,none⟩ = some (.int .i64 t352) ∧ w'.cell? ⟨gb357,4,none⟩ = some (.int .i64 t353) ∧ w'.cell? ⟨gb357,5,none⟩ = some (.slice (some ad358) t354.length co22) ∧ w'.cell? (ad358.add (a1).toNat) = some (.slice A358_0 (rd_L3 t354 a1).length c358_0)) (ds := []) (ba 11 0) (by kernel_rfl) rfl rfl ⟨(blk_cell BK357.out 0).trans rfl,(blk_cell BK357.out 1).trans rfl,(blk_cell BK357.out 2).trans rfl,(blk_cell BK357.out 3).trans rfl,(blk_cell BK357.out 4).trans rfl,(blk_cell BK357.out 5).trans rfl,hx358_0⟩ (fun hHeld => ?_);refine with_tabW ca_Out.tab4 ca_Out.bits4 (fun HT_ HW_ => ?_)
     generalize w23.drew = w24 at HO356 BK336 BK357 HB HL358_0 HR358_0 hx358_0 hHeld ⊢
     refine pure_ (i := 0) (N := some 18) (v := ?_) (a' := ?_) (ba 11 1) rfl rfl (any_of HT_.out (by kernel_rfl)) (fun _ _ _ h => h) (Or.inl ⟨by rfl,?_⟩) ?_ ?_
     rotate_left
     · intro w'
       go_simp
       with_reducible rfl
     rotate_left
     · simp only [Act.put,NRM]
       rfl
     refine pure_ (i := 2) (N := some 20) (v := ?_) (a' := ?_) (ba 11 5) rfl rfl (any_of HT_.out (by kernel_rfl)) (fun _ _ _ h => h) (Or.inl ⟨by rfl,?_⟩) ?_ ?_
     rotate_left
     · intro w'
       go_simp
       with_reducible rfl
     rotate_left
     · simp only [Act.put,NRM]
       rfl
     refine pure_ (i := 6) (N := some 24) (v := ?_) (a' := ?_) (ba 11 69) rfl rfl (any_of HT_.out (by kernel_rfl)) (fun _ _ _ h => h) (Or.inl ⟨by rfl,?_⟩) ?_ ?_
     rotate_left
     · intro w'
       go_simp
       with_reducible rfl
     rotate_left
     · simp only [Act.put,NRM]
       rfl
     refine take_ (i := 1) (N := some 19) (v := ?_) (a' := ?_) (ba 11 71) rfl rfl (take_ofW HT_.out HW_.out (by kernel_rfl)) (fun _ _ _ h => h) (Or.inl ⟨by rfl,?_⟩) hHeld ?_ ?_
     rotate_left
     · rintro w' ⟨s0,s1,s2,s3,s4,s5,s6⟩
       go_simp
       with_reducible rfl
     rotate_left
     · simp only [Act.put,NRM]
       rfl
     refine pure_ (i := 3) (N := some 21) (v := ?_) (a' := ?_) (ba 11 79) rfl rfl (any_of HT_.out (by kernel_rfl)) (fun _ _ _ h => h) (Or.inl ⟨by rfl,?_⟩) ?_ ?_
     rotate_left
     · intro w'
       go_simp
       with_reducible rfl
     rotate_left
     · simp only [Act.put,NRM]
       rfl
     refine take_ (i := 4) (N := some 22) (v := ?_) (a' := ?_) (ba 11 95) rfl rfl (take_ofW HT_.out HW_.out (by kernel_rfl)) (fun _ _ _ h => h) (Or.inl ⟨by rfl,?_⟩) hHeld ?_ ?_
     rotate_left
     · rintro w' ⟨s0,s1,s2,s3,s4,s5,s6⟩
       go_simp
       with_reducible rfl
     rotate_left
     · simp only [Act.put,NRM]
       rfl
     refine take_ (i := 5) (N := some 23) (v := ?_) (a' := ?_) (ba 11 127) rfl rfl (take_ofW HT_.out HW_.out (by kernel_rfl)) (fun _ _ _ h => h) (Or.inl ⟨by rfl,?_⟩) hHeld ?_ ?_
     rotate_left
     · rintro w' ⟨s0,s1,s2,s3,s4,s5,s6⟩
       go_simp
       with_reducible rfl
     rotate_left
     · simp only [Act.put,NRM]
       rfl
     refine one_ (i := 7) (N := some 25) (ba 11 255) rfl rfl (one_of HT_.out (by kernel_rfl)) (by decide) (fun K hK => ?_)
     refine goes_ Tryz.func87 (by kernel_rfl) rfl #[.agg #[.slice A0_0 l0_0.length c0_0,.int .i64 t351,.slice A0_2 l0_2.length c0_2,.int .i64 t352,.int .i64 t353,.slice (some ad358) t354.length co22],.int .i64 a1] (by rfl) rfl rfl (by (try simp only [List.map_toArray,List.map_cons,List.map_nil]);first | done | rfl | (simp only [List.length_drop,List.length_take];rfl)) ?_
     with_reducible refine (gf_weir.calls _ _ l0_0 t351 _ _ l0_2 t352 t353 _ _ t354 a1 t359 _ ?side1 ?side2 ?side3 ?side4 ?side5 ?side6 A16.out).mono ?_
     (case side1 => exact kC HR0_0.out HB.out)
     (case side2 => exact HC0_0.out)
     (case side3 => exact kC HR0_2.out HB.out)
     (case side4 => exact HC0_2.out)
     (case side5 => repeat (first | exact (Kd.S_reads' HO356.out).2.2 | (with_reducible refine Kd.C_alloc ?_ _) | (with_reducible refine Kd.C_drewN ?_ _) | (with_reducible refine Kd.C_drew ?_)))
     (case side6 => exact (Kd.S_reads' HO356.out).2.1)
     rintro e w25 ⟨rfl,hb⟩
     have HS6_ := (hb.cell (World.block_lt_of_cell? _ _ (hHeld.2.2.2.2.2.2))).trans (hHeld.2.2.2.2.2.2)
     refine ⟨_,rfl,?_⟩
     replace HO356 := am (Kd.S_below HO356.out hb)
     replace HL358_0 := am (Kd.R_below HL358_0.out hb)
     replace BK336 := (kmv hb BK336)
     replace BK357 := (kmv hb BK357)
     replace HR358_0 := am (kC (by repeat (first | (with_reducible exact HR358_0.out) | (with_reducible refine Kd.C_alloc ?_ _) | (with_reducible refine Kd.C_drewN ?_ _) | (with_reducible refine Kd.C_drew ?_) | exact HR358_0.out)) hb)
     replace HB := am (below_step (HB.out) hb)
     (try clear hb)
     (try clear hb2)
     (try clear hk)
     (try clear hi)
     refine hK.out _ _ ⟨(blk_cell BK357.out 0).trans rfl,(blk_cell BK357.out 1).trans rfl,(blk_cell BK357.out 2).trans rfl,(blk_cell BK357.out 3).trans rfl,(blk_cell BK357.out 4).trans rfl,(blk_cell BK357.out 5).trans rfl,HS6_⟩ (fun hHeld => ?_)
     clear hK K
     refine norm_ (a' := ?_) ?_ ?_
     rotate_left
     · show Act.put _ (some 25) _ = _
       simp only [Act.put,NRM]
       rfl
     refine pure_ (i := 8) (N := some 4) (v := ?_) (a' := ?_) (ba 11 511) rfl rfl (any_of HT_.out (by kernel_rfl)) (fun _ _ _ h => h) (Or.inl ⟨by rfl,?_⟩) ?_ ?_
     rotate_left
     · intro w'
       go_simp
       with_reducible rfl
     rotate_left
     · simp only [Act.put,NRM]
       rfl
     refine pure_ (i := 9) (N := some 5) (v := ?_) (a' := ?_) (ba 11 1023) rfl rfl (any_of HT_.out (by kernel_rfl)) (fun _ _ _ h => h) (Or.inl ⟨by rfl,?_⟩) ?_ ?_
     rotate_left
     · intro w'
       go_simp
       with_reducible rfl
     rotate_left
     · simp only [Act.put,NRM]
       rfl
     refine pure_ (i := 10) (N := some 6) (v := ?_) (a' := ?_) (ba 11 2047) rfl rfl (any_of HT_.out (by kernel_rfl)) (fun _ _ _ h => h) (Or.inl ⟨by rfl,?_⟩) ?_ ?_
     rotate_left
     · intro w'
       go_simp
       with_reducible rfl
     rotate_left
     · simp only [Act.put,NRM]
       rfl
     refine done_ (done_of HT_.out (by kernel_rfl)) ?_
     try go_wp2
     go_ret3
     exact ⟨_,by first | rfl | (simp [*] <;> rfl),by (with_reducible repeat (first | apply Kd.R_alloc | apply Kd.R_drewN | apply Kd.R_drew));exact Kd.R_mono HL358_0.out (fun _ hk => trivial),HB.out⟩
def q4_Flow.f (a0_0 : Int) (a0_1 : Int) : Option (Bool) := (q4_Cups.f a0_0).bind fun t608 => (if t608 = true then ((q4_Cups.f a0_1).bind fun t609 => (if t609 = true then (some (decide (a0_0 ≤ a0_1))) else (some false))) else (some false))
theorem q4_Flow.calls (a0_0 : Int) (a0_1 : Int) (r : Bool) (w : World) (h : q4_Flow.f a0_0 a0_1 = some r) :
 Calls Tryz.prog 38 #[.agg #[.int .i64 a0_0,.int .i64 a0_1]] w fun e w' => e = .returned (.bool r) ∧ Below w.heap.size w w' := by
 have hu54 := Tryz.underlying54
 have HB := am (Below.refl w.heap.size w)
 have H : ((q4_Cups.f a0_0).bind fun t608 => (if t608 = true then ((q4_Cups.f a0_1).bind fun t609 => (if t609 = true then (some (decide (a0_0 ≤ a0_1))) else (some false))) else (some false))) = some r := h
 clear h
 replace H := obm H
 obtain ⟨t608,A20,H⟩ := H
 replace H : (if t608 = true then ((q4_Cups.f a0_1).bind fun t609 => (if t609 = true then (some (decide (a0_0 ≤ a0_1))) else (some false))) else (some false)) = some r := H
 have A2 := am A20
 clear A20
 by_cases c3 : t608 = true
 case neg =>
  replace c3 := Bool.eq_false_iff.mpr c3
  subst c3
  replace H : (some false) = some r := by rw [if_neg (show ¬ (false = true) by decide)] at H;exact H
  obtain rfl := Option.some.inj H
  go_enter Tryz.func38,Tryz.ntmps38
  go_wp2_with (first | ((refine gate_dst (N := 1) rfl ?_);refine box_event rfl (N := 1) rfl (cs := #[.int .i64 a0_0,.int .i64 a0_1]) (t := 54) ?hr ?_;(case hr => go_simp;try rfl);intro gb607 hg w10 hbox hb;have BK607 := am (hbox);have GW607 := am (ge_new (HB.out) hg);have GE607 := am (ge_new (HB.out) hg);replace HB := am (below_step (HB.out) hb);clear hb hbox hg;obtain ⟨hcz11_0,hcz11_1⟩ := cO2 BK607.out) | ((with_reducible refine gate_callee (f := 17) rfl ?_);refine goesL_ (some 5) rfl rfl Tryz.func17 (by kernel_rfl) rfl #[.int .i64 a0_0] rfl (by (try simp only [List.map_toArray,List.map_cons,List.map_nil]);first | done | rfl | (simp only [List.length_drop,List.length_take];rfl)) ?_;(with_reducible refine (q4_Cups.calls a0_0 false _ A2.out).mono ?_);rintro e w' ⟨rfl,⟨nd,rfl⟩⟩;refine ⟨_,rfl,?_⟩))
  go_ret
  exact ⟨by first | rfl | (simp [*] <;> rfl),pw_below_drewN HB.out _⟩
 subst c3
 replace H : ((q4_Cups.f a0_1).bind fun t609 => (if t609 = true then (some (decide (a0_0 ≤ a0_1))) else (some false))) = some r := by rw [if_pos rfl] at H;exact H
 replace H := obm H
 obtain ⟨t609,A40,H⟩ := H
 replace H : (if t609 = true then (some (decide (a0_0 ≤ a0_1))) else (some false)) = some r := H
 have A4 := am A40
 clear A40
 by_cases c5 : t609 = true
 · subst c5
   replace H : (some (decide (a0_0 ≤ a0_1))) = some r := by rw [if_pos rfl] at H;exact H
   obtain rfl := Option.some.inj H
   go_enter Tryz.func38,Tryz.ntmps38
   go_wp2_with (first | ((refine gate_dst (N := 1) rfl ?_);refine box_event rfl (N := 1) rfl (cs := #[.int .i64 a0_0,.int .i64 a0_1]) (t := 54) ?hr ?_;(case hr => go_simp;try rfl);intro gb607 hg w6 hbox hb;have BK607 := am (hbox);have GW607 := am (ge_new (HB.out) hg);have GE607 := am (ge_new (HB.out) hg);replace HB := am (below_step (HB.out) hb);clear hb hbox hg;obtain ⟨hcz7_0,hcz7_1⟩ := cO2 BK607.out) | ((with_reducible refine gate_callee (f := 17) rfl ?_);refine goesL_ (some 5) rfl rfl Tryz.func17 (by kernel_rfl) rfl #[.int .i64 a0_0] rfl (by (try simp only [List.map_toArray,List.map_cons,List.map_nil]);first | done | rfl | (simp only [List.length_drop,List.length_take];rfl)) ?_;(with_reducible refine (q4_Cups.calls a0_0 true _ A2.out).mono ?_);rintro e w' ⟨rfl,⟨nd,rfl⟩⟩;refine ⟨_,rfl,?_⟩) | (go_at_call 17;(with_reducible refine (q4_Cups.calls a0_1 true _ A4.out).mono ?_);rintro e w' ⟨rfl,⟨nd,rfl⟩⟩))
   go_ret
   exact ⟨by first | rfl | (simp [*] <;> rfl),pw_below_drewN HB.out _⟩
 · replace c5 := Bool.eq_false_iff.mpr c5
   subst c5
   replace H : (some false) = some r := by rw [if_neg (show ¬ (false = true) by decide)] at H;exact H
   obtain rfl := Option.some.inj H
   go_enter Tryz.func38,Tryz.ntmps38
   go_wp2_with (first | ((refine gate_dst (N := 1) rfl ?_);refine box_event rfl (N := 1) rfl (cs := #[.int .i64 a0_0,.int .i64 a0_1]) (t := 54) ?hr ?_;(case hr => go_simp;try rfl);intro gb607 hg w8 hbox hb;have BK607 := am (hbox);have GW607 := am (ge_new (HB.out) hg);have GE607 := am (ge_new (HB.out) hg);replace HB := am (below_step (HB.out) hb);clear hb hbox hg;obtain ⟨hcz9_0,hcz9_1⟩ := cO2 BK607.out) | ((with_reducible refine gate_callee (f := 17) rfl ?_);refine goesL_ (some 5) rfl rfl Tryz.func17 (by kernel_rfl) rfl #[.int .i64 a0_0] rfl (by (try simp only [List.map_toArray,List.map_cons,List.map_nil]);first | done | rfl | (simp only [List.length_drop,List.length_take];rfl)) ?_;(with_reducible refine (q4_Cups.calls a0_0 true _ A2.out).mono ?_);rintro e w' ⟨rfl,⟨nd,rfl⟩⟩;refine ⟨_,rfl,?_⟩) | (go_at_call 17;(with_reducible refine (q4_Cups.calls a0_1 false _ A4.out).mono ?_);rintro e w' ⟨rfl,⟨nd,rfl⟩⟩))
   go_ret
   exact ⟨by first | rfl | (simp [*] <;> rfl),pw_below_drewN HB.out _⟩
end
end Go.Proofs.YtnnmnhpeblhiiaaGreatDoor.C

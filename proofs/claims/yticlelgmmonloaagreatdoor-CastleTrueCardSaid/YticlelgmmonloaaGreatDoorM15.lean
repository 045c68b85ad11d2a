/- A part of the proof: the walks of the functions that it reaches. TIGHT. -/
import Derived.Test.YticlelgmmonloaaGreatDoorM14
set_option linter.unusedVariables false
set_option linter.unusedSimpArgs false
namespace Go.Proofs.YticlelgmmonloaaGreatDoor.C
open Go.RowKit Go.Proofs.YticlelgmmonloaaGreatDoorW.PrintWords Go.Proofs.YticlelgmmonloaaGreatDoorW.PrintLast Go.Proofs.YticlelgmmonloaaGreatDoorW.PrintMore
set_option linter.unusedVariables false
set_option linter.unusedSimpArgs false
set_option maxHeartbeats 16000000
set_option maxRecDepth 100000
section
attribute [local go_sem] max2_int min2_int max_two min_two
mutual
def ca_Bounds.j0 : Nat → Bool → List (S126) → Int → List (S64) → Int → Int → Int → Int → Option ((List (S40)) × Int × Int × Int)
 | 0,_,_,_,_,_,_,_,_ => none
 | k + 1,x21,x244000,x244001,x244002,x244003,x244004,x245000,x245001 => if x21 = true then (some (([] : List (S40)),0,0,2)) else ((ca_fill.f k x244000 x244001 x244002 x244003 x244004).bind fun bt260 => ((gf_shares.f k x244000 bt260.1 x244002 bt260.2.1 bt260.2.2.1 bt260.2.2.2 x245000).bind fun bt267 => ((gf_shares.f k x244000 bt260.1 x244002 bt260.2.1 bt260.2.2.1 bt260.2.2.2 x245001).bind fun bt271 => (ca_Bounds.l0 k bt267.1 bt267.2 bt271.1 bt271.2 ([] : List (S40)) (bt267.1.length : Int) 0))))
def ca_Bounds.l0 : Nat → List Int → Int → List Int → Int → List (S40) → Int → Int → Option ((List (S40)) × Int × Int × Int)
 | 0,_,_,_,_,_,_,_ => none
 | k + 1,x8,x9,x10,x11,x12,x40,x41 => if x41 < x40 then (if 0 ≤ x41 then (if x41 < (x8.length : Int) then (if x41 < (x10.length : Int) then (if x12.length < 8796093022208 then (ca_Bounds.l0 k x8 x9 x10 x11 (x12 ++ [(⟨rd x8 x41,rd x10 x41⟩ : S40)]) x40 (wrap64 (x41 + 1))) else (none)) else (none)) else (none)) else (none)) else (some (x12,x9,x11,0))
end
def ca_Bounds.f (k : Nat) (l0_0 : List (S126)) (a0_1 : Int) (l0_2 : List (S64)) (a0_3 : Int) (a0_4 : Int) (a1_0 : Int) (a1_1 : Int) : Option ((List (S40)) × Int × Int × Int) := (ca_isBasin.f l0_0 a0_1 l0_2 a0_3 a0_4).bind fun t246 => (if t246 = true then ((isSpan_isFlow.f a1_0 a1_1).bind fun t247 => (ca_Bounds.j0 k (!t247) l0_0 a0_1 l0_2 a0_3 a0_4 a1_0 a1_1)) else (ca_Bounds.j0 k true l0_0 a0_1 l0_2 a0_3 a0_4 a1_0 a1_1))
def ca_Bounds.T10 : Bool × List (List Nat × List Nat) := (true,[([],[]),([],[]),([],[]),([1,2],[1,2]),([3],[3]),([],[]),([],[]),([5,6],[5,6]),([7],[7]),([4,8],[4,8]),([9],[9]),([0,10],[0,10]),([11,11,0,1,2,3,4,5,6,7,8,9,10,11],[0,11])])
def ca_Bounds.B10 : List Nat := [0,0,0,6,14,0,0,96,224,510,1022,2047,4095]
theorem ca_Bounds.tab10 : rtab .any (opsOf Tryz.f25 10) = ca_Bounds.T10 := by kernel_rfl
theorem ca_Bounds.bits10 : waitsOk ca_Bounds.T10.2 ca_Bounds.B10 = true := by kernel_rfl
theorem ca_Bounds.calls (k : Nat) (A0_0 : Option Addr) (c0_0 : Nat) (l0_0 : List (S126)) (a0_1 : Int) (A0_2 : Option Addr) (c0_2 : Nat) (l0_2 : List (S64)) (a0_3 : Int) (a0_4 : Int) (a1_0 : Int) (a1_1 : Int) (r1 : List (S40)) (r2 : Int) (r3 : Int) (r4 : Int) (w : World) (hr0_0 : Kd.C k126 w A0_0 l0_0.length l0_0) (hc0_0 : l0_0.length ≤ c0_0) (hr0_2 : Kd.C k64 w A0_2 l0_2.length l0_2) (hc0_2 : l0_2.length ≤ c0_2) (h : ca_Bounds.f k l0_0 a0_1 l0_2 a0_3 a0_4 a1_0 a1_1 = some (r1,r2,r3,r4)) :
 Calls Tryz.prog 25 #[.agg #[.slice A0_0 l0_0.length c0_0,.int .i64 a0_1,.slice A0_2 l0_2.length c0_2,.int .i64 a0_3,.int .i64 a0_4],.agg #[.int .i64 a1_0,.int .i64 a1_1]] w fun e w' => ∃ v0_ : Value,e = .returned (.tuple #[v0_,.agg #[.int .i64 r2,.int .i64 r3],.int .i64 r4]) ∧ Kd.R k40 40 w' w.heap.size (fun _ => True) v0_ r1 ∧ Below w.heap.size w w' := by
 have hu27 := Tryz.underlying27
 have hu40 := Tryz.underlying40
 have hu99 := Tryz.underlying99
 have HR0_0 := am hr0_0
 have HC0_0 := am hc0_0
 clear hr0_0 hc0_0
 have HR0_2 := am hr0_2
 have HC0_2 := am hc0_2
 clear hr0_2 hc0_2
 have HB := am (Below.refl w.heap.size w)
 have H : ((ca_isBasin.f l0_0 a0_1 l0_2 a0_3 a0_4).bind fun t246 => (if t246 = true then ((isSpan_isFlow.f a1_0 a1_1).bind fun t247 => (ca_Bounds.j0 k (!t247) l0_0 a0_1 l0_2 a0_3 a0_4 a1_0 a1_1)) else (ca_Bounds.j0 k true l0_0 a0_1 l0_2 a0_3 a0_4 a1_0 a1_1))) = some (r1,r2,r3,r4) := h
 clear h
 have HC3 := am H
 clear H
 go_enter Tryz.func25,Tryz.ntmps25
 go_upto_region 1 with (first | ((refine gate_dst (N := 2) rfl ?_);refine box_event rfl (N := 2) rfl (cs := #[.slice A0_0 l0_0.length c0_0,.int .i64 a0_1,.slice A0_2 l0_2.length c0_2,.int .i64 a0_3,.int .i64 a0_4]) (t := 27) ?hr ?_;(case hr => go_simp;try rfl);intro gb243 hg w4 hbox hb;have BK243 := am (hbox);have GW243 := am (ge_new (HB.out) hg);have GE243 := am (ge_new (HB.out) hg);replace HB := am (below_step (HB.out) hb);clear hb hbox hg) | ((refine gate_dst (N := 3) rfl ?_);refine box_event rfl (N := 3) rfl (cs := #[.int .i64 a1_0,.int .i64 a1_1]) (t := 40) ?hr ?_;(case hr => go_simp;try rfl);intro gb244 hg w5 hbox hb;have BK244 := am (hbox);have GW244 := am (ge_new (HB.out) hg);have GE244 := am (ge_new (HB.out) hg);have NB243_244 := am (ne_new BK243.out hg);have NB244_243 := am (ne_new2 BK243.out hg);replace BK243 := (kmv hb BK243);replace HB := am (below_step (HB.out) hb);clear hb hbox hg) | ((refine gate_dst (N := 5) rfl ?_);refine box_event rfl (N := 5) rfl (cs := #[.int .i64 0,.int .i64 0]) (t := 40) ?hr ?_;(case hr => go_simp;try rfl);intro gb245 hg w6 hbox hb;have BK245 := am (hbox);have GW245 := am (ge_new (HB.out) hg);have GE245 := am (ge_new (HB.out) hg);have NB243_245 := am (ne_new BK243.out hg);have NB245_243 := am (ne_new2 BK243.out hg);have NB244_245 := am (ne_new BK244.out hg);have NB245_244 := am (ne_new2 BK244.out hg);replace BK243 := (kmv hb BK243);replace BK244 := (kmv hb BK244);replace HB := am (below_step (HB.out) hb);clear hb hbox hg))
 (try simp only [Act.put,List.setIfInBounds_toArray,List.set_cons_zero,List.set_cons_succ])
 go_cut [21] (fun v21 wc => ∃ (kq : Nat) (x21_2 : Bool),v21 = .bool x21_2 ∧ Aside0 (ca_Bounds.j0 kq x21_2 l0_0 a0_1 l0_2 a0_3 a0_4 a1_0 a1_1 = some (r1,r2,r3,r4)) ∧ Aside0 (kq ≤ k) ∧ Aside0 (wc.heap[gb243]? = some (.cells #[(.slice A0_0 l0_0.length c0_0),.int .i64 a0_1,(.slice A0_2 l0_2.length c0_2),.int .i64 a0_3,.int .i64 a0_4] 27 (0,0))) ∧ Aside0 (wc.heap[gb244]? = some (.cells #[.int .i64 a1_0,.int .i64 a1_1] 40 (0,0))) ∧ Aside0 (wc.heap[gb245]? = some (.cells #[.int .i64 0,.int .i64 0] 40 (0,0))) ∧ Aside0 (Below w.heap.size w wc))
 case first =>
  have H := HC3.out
  clear HC3
  replace H := obm H
  obtain ⟨t246,A70,H⟩ := H
  replace H : (if t246 = true then ((isSpan_isFlow.f a1_0 a1_1).bind fun t247 => (ca_Bounds.j0 k (!t247) l0_0 a0_1 l0_2 a0_3 a0_4 a1_0 a1_1)) else (ca_Bounds.j0 k true l0_0 a0_1 l0_2 a0_3 a0_4 a1_0 a1_1)) = some (r1,r2,r3,r4) := H
  have A7 := am A70
  clear A70
  by_cases c8 : t246 = true
  case neg =>
   replace c8 := Bool.eq_false_iff.mpr c8
   subst c8
   replace H : (ca_Bounds.j0 k true l0_0 a0_1 l0_2 a0_3 a0_4 a1_0 a1_1) = some (r1,r2,r3,r4) := by rw [if_neg (show ¬ (false = true) by decide)] at H;exact H
   replace H' := am H
   have hnb17 := NB243_244.out
   have hnc17 := NB244_243.out
   have hnb18 := NB243_245.out
   have hnc18 := NB245_243.out
   obtain ⟨hcz19_0,hcz19_1,hcz19_2,hcz19_3,hcz19_4⟩ := cO5 BK243.out
   go_wp2_with (first | ((with_reducible refine gate_callee (f := 57) rfl ?_);refine goesL_ (some 15) rfl rfl Tryz.func57 (by kernel_rfl) rfl #[.agg #[.slice A0_0 l0_0.length c0_0,.int .i64 a0_1,.slice A0_2 l0_2.length c0_2,.int .i64 a0_3,.int .i64 a0_4]] rfl (by (try simp only [List.map_toArray,List.map_cons,List.map_nil]);first | done | rfl | (simp only [List.length_drop,List.length_take];rfl)) ?_;(refine (ca_isBasin.calls _ _ l0_0 a0_1 _ _ l0_2 a0_3 a0_4 false _ ?side1 ?side2 ?side3 ?side4 A7.out).mono ?_);(case side1 => exact kC HR0_0.out HB.out);(case side2 => exact HC0_0.out);(case side3 => exact kC HR0_2.out HB.out);(case side4 => exact HC0_2.out);rintro e w20 ⟨rfl,hb⟩;refine ⟨_,rfl,?_⟩;replace BK243 := (kmv hb BK243);replace BK244 := (kmv hb BK244);replace BK245 := (kmv hb BK245);replace HB := am (below_step (HB.out) hb);(try clear hb);(try clear hb2);(try clear hk);(try clear hi)))
   go_meet
   case rel => exact ⟨_,(true),(by first | rfl | (simp;done) | (simp [*];done)),H',⟨by first | omega | exact Nat.le_refl _⟩,⟨BK243.out⟩,⟨BK244.out⟩,⟨BK245.out⟩,⟨HB.out⟩⟩
  subst c8
  replace H : ((isSpan_isFlow.f a1_0 a1_1).bind fun t247 => (ca_Bounds.j0 k (!t247) l0_0 a0_1 l0_2 a0_3 a0_4 a1_0 a1_1)) = some (r1,r2,r3,r4) := by rw [if_pos rfl] at H;exact H
  replace H := obm H
  obtain ⟨t247,A90,H⟩ := H
  replace H : (ca_Bounds.j0 k (!t247) l0_0 a0_1 l0_2 a0_3 a0_4 a1_0 a1_1) = some (r1,r2,r3,r4) := H
  have A9 := am A90
  clear A90
  replace H' := am H
  have hnb10 := NB243_244.out
  have hnc10 := NB244_243.out
  have hnb11 := NB243_245.out
  have hnc11 := NB245_243.out
  obtain ⟨hcz12_0,hcz12_1,hcz12_2,hcz12_3,hcz12_4⟩ := cO5 BK243.out
  go_wp2_with (first | ((with_reducible refine gate_callee (f := 57) rfl ?_);refine goesL_ (some 15) rfl rfl Tryz.func57 (by kernel_rfl) rfl #[.agg #[.slice A0_0 l0_0.length c0_0,.int .i64 a0_1,.slice A0_2 l0_2.length c0_2,.int .i64 a0_3,.int .i64 a0_4]] rfl (by (try simp only [List.map_toArray,List.map_cons,List.map_nil]);first | done | rfl | (simp only [List.length_drop,List.length_take];rfl)) ?_;(refine (ca_isBasin.calls _ _ l0_0 a0_1 _ _ l0_2 a0_3 a0_4 true _ ?side1 ?side2 ?side3 ?side4 A7.out).mono ?_);(case side1 => exact kC HR0_0.out HB.out);(case side2 => exact HC0_0.out);(case side3 => exact kC HR0_2.out HB.out);(case side4 => exact HC0_2.out);rintro e w13 ⟨rfl,hb⟩;refine ⟨_,rfl,?_⟩;replace BK243 := (kmv hb BK243);replace BK244 := (kmv hb BK244);replace BK245 := (kmv hb BK245);replace HB := am (below_step (HB.out) hb);(try clear hb);(try clear hb2);(try clear hk);(try clear hi);have hnb14 := NB244_245.out;have hnc14 := NB245_244.out;obtain ⟨hcz15_0,hcz15_1⟩ := cO2 BK244.out) | (go_at_call 66;(refine (isSpan_isFlow.calls a1_0 a1_1  t247 _ A9.out).mono ?_);rintro e w16 ⟨rfl,hb⟩;replace BK243 := (kmv hb BK243);replace BK244 := (kmv hb BK244);replace BK245 := (kmv hb BK245);replace HB := am (below_step (HB.out) hb);(try clear hb);(try clear hb2);(try clear hk);(try clear hi)))
  go_meet
  case rel => exact ⟨_,(!t247),(by first | rfl | (simp;done) | (simp [*];done)),H',⟨by first | omega | exact Nat.le_refl _⟩,⟨BK243.out⟩,⟨BK244.out⟩,⟨BK245.out⟩,⟨HB.out⟩⟩
 case rest =>
  clear HC3
  obtain ⟨kq,x21_2,rfl,HA,HJ2,BK243,BK244,BK245,HB⟩ := hcut
  cases kq with
  | zero => exact absurd HA.out (by simp [ca_Bounds.j0])
  | succ kj2 =>
   have H := HA.out
   clear HA
   simp only [ca_Bounds.j0] at H
   by_cases c21 : x21_2 = true
   · subst c21
     replace H : (some (([] : List (S40)),0,0,2)) = some (r1,r2,r3,r4) := by rw [if_pos rfl] at H;exact H
     simp only [Option.some.injEq,Prod.mk.injEq] at H
     obtain ⟨rfl,rfl,rfl,rfl⟩ := H
     have hnb22 := NB245_243.out
     have hnc22 := NB243_245.out
     have hnb23 := NB245_244.out
     have hnc23 := NB244_245.out
     obtain ⟨hcz24_0,hcz24_1⟩ := cO2 BK245.out
     have hfz24_0 := blk_frozen BK245.out 0
     have hfz24_1 := blk_frozen BK245.out 1
     go_wp2
     refine bodyPost_ret (results_list (rs := [.tmp 4,.cell 5 40,.tmp 6]) rfl (by simp) (.tmp (.cell gb245 40 #[.int .i64 0,.int .i64 0] (0,0) _ rfl (blk_put (cs := #[.int .i64 0,.int .i64 0]) (blk_put (cs := #[.int .i64 0,.int .i64 0]) BK245.out 0 _ rfl) 1 _ rfl) Tryz.underlying40 rfl (by kernel_rfl) (.tmp .nil)))) rfl ?_
     exact ⟨_,by first | rfl | (simp [*] <;> rfl),by first | exact Kd.R_nil _ _ _ _ _ | exact Kd.N_nil _ _ _ _ _ | exact Kd.V_nil _ _ _ _ _ | exact Kd.Q_nil _ _ _ _ _ | exact Kd.S_nil _ _ _ _ _,by repeat (first | (with_reducible first | exact HB.out | refine below_set ?_ (Aside0.out (by assumption)) | apply below_alloc | apply pw_below_drewN) | exact HB.out)⟩
   · replace c21 := Bool.eq_false_iff.mpr c21
     subst c21
     replace H : ((ca_fill.f kj2 l0_0 a0_1 l0_2 a0_3 a0_4).bind fun bt260 => ((gf_shares.f kj2 l0_0 bt260.1 l0_2 bt260.2.1 bt260.2.2.1 bt260.2.2.2 a1_0).bind fun bt267 => ((gf_shares.f kj2 l0_0 bt260.1 l0_2 bt260.2.1 bt260.2.2.1 bt260.2.2.2 a1_1).bind fun bt271 => (ca_Bounds.l0 kj2 bt267.1 bt267.2 bt271.1 bt271.2 ([] : List (S40)) (bt267.1.length : Int) 0)))) = some (r1,r2,r3,r4) := by rw [if_neg (show ¬ (false = true) by decide)] at H;exact H
     replace H := obm H
     obtain ⟨⟨t260,t261,t262,t263⟩,A250,H⟩ := H
     replace H : ((gf_shares.f kj2 l0_0 t260 l0_2 t261 t262 t263 a1_0).bind fun bt267 => ((gf_shares.f kj2 l0_0 t260 l0_2 t261 t262 t263 a1_1).bind fun bt271 => (ca_Bounds.l0 kj2 bt267.1 bt267.2 bt271.1 bt271.2 ([] : List (S40)) (bt267.1.length : Int) 0))) = some (r1,r2,r3,r4) := H
     have A25 := am A250
     clear A250
     replace H := obm H
     obtain ⟨⟨t267,t270⟩,A260,H⟩ := H
     replace H : ((gf_shares.f kj2 l0_0 t260 l0_2 t261 t262 t263 a1_1).bind fun bt271 => (ca_Bounds.l0 kj2 t267 t270 bt271.1 bt271.2 ([] : List (S40)) (t267.length : Int) 0)) = some (r1,r2,r3,r4) := H
     have A26 := am A260
     clear A260
     replace H := obm H
     obtain ⟨⟨t271,t274⟩,A270,H⟩ := H
     replace H : (ca_Bounds.l0 kj2 t267 t270 t271 t274 ([] : List (S40)) (t267.length : Int) 0) = some (r1,r2,r3,r4) := H
     have A27 := am A270
     clear A270
     replace H' := am H
     have hnb28 := NB243_244.out
     have hnc28 := NB244_243.out
     have hnb29 := NB243_245.out
     have hnc29 := NB245_243.out
     obtain ⟨hcz30_0,hcz30_1,hcz30_2,hcz30_3,hcz30_4⟩ := cO5 BK243.out
     go_wp2_with (first | ((with_reducible refine gate_callee (f := 59) rfl ?_);refine goesL_ (some 24) rfl rfl Tryz.func59 (by kernel_rfl) rfl #[.agg #[.slice A0_0 l0_0.length c0_0,.int .i64 a0_1,.slice A0_2 l0_2.length c0_2,.int .i64 a0_3,.int .i64 a0_4]] rfl (by (try simp only [List.map_toArray,List.map_cons,List.map_nil]);first | done | rfl | (simp only [List.length_drop,List.length_take];rfl)) ?_;(refine (ca_fill.calls kj2 _ _ l0_0 a0_1 _ _ l0_2 a0_3 a0_4 t260 t261 t262 t263 _ ?side1 ?side2 ?side3 ?side4 A25.out).mono ?_);(case side1 => exact kC HR0_0.out HB.out);(case side2 => exact HC0_0.out);(case side3 => exact kC HR0_2.out HB.out);(case side4 => exact HC0_2.out);rintro e w31 ⟨v264,rfl,ho0,hb⟩;refine ⟨_,rfl,?_⟩;have HO265 := am (Kd.S_lower ho0 (below_size (HB.out)));replace BK243 := (kmv hb BK243);replace BK244 := (kmv hb BK244);replace BK245 := (kmv hb BK245);replace HB := am (below_step (HB.out) hb);(try clear hb);(try clear hb2);(try clear hk);(try clear hi);(try clear ho0)) | ((refine gate_dst (N := 7) rfl ?_);refine box_event rfl (N := 7) rfl (cs := #[.slice none 0 0,.int .i64 0,.slice none 0 0,.int .i64 0,.int .i64 0,.slice none 0 0]) (t := 99) ?hr ?_;(case hr => go_simp;try rfl);intro gb266 hg w32 hbox hb;have BK266 := am (hbox);have GW266 := am (ge_new (HB.out) hg);have GE266 := am (ge_new (HB.out) hg);have NB243_266 := am (ne_new BK243.out hg);have NB266_243 := am (ne_new2 BK243.out hg);have NB244_266 := am (ne_new BK244.out hg);have NB266_244 := am (ne_new2 BK244.out hg);have NB245_266 := am (ne_new BK245.out hg);have NB266_245 := am (ne_new2 BK245.out hg);replace HO265 := am (Kd.S_below HO265.out hb);replace BK243 := (kmv hb BK243);replace BK244 := (kmv hb BK244);replace BK245 := (kmv hb BK245);replace HB := am (below_step (HB.out) hb);clear hb hbox hg;have hnb33 := NB266_243.out;have hnc33 := NB243_266.out;have hnb34 := NB266_244.out;have hnc34 := NB244_266.out;have hnb35 := NB266_245.out;have hnc35 := NB245_266.out;obtain ⟨hcz36_0,hcz36_1,hcz36_2,hcz36_3,hcz36_4,hcz36_5⟩ := cO6 BK266.out;have hfz36_0 := blk_frozen BK266.out 0;have hfz36_1 := blk_frozen BK266.out 1;have hfz36_2 := blk_frozen BK266.out 2;have hfz36_3 := blk_frozen BK266.out 3;have hfz36_4 := blk_frozen BK266.out 4;have hfz36_5 := blk_frozen BK266.out 5;obtain ⟨Ao37,co37,eo37⟩ := Kd.S_slice HO265.out;subst eo37;have hnb38 := NB244_245.out;have hnc38 := NB245_244.out;obtain ⟨hcz39_0,hcz39_1⟩ := cO2 BK244.out) | ((with_reducible refine gate_callee (f := 60) rfl ?_);refine goesL_ (some 29) rfl rfl Tryz.func60 (by kernel_rfl) rfl #[.agg #[.slice A0_0 l0_0.length c0_0,.int .i64 t260,.slice A0_2 l0_2.length c0_2,.int .i64 t261,.int .i64 t262,.slice Ao37 t263.length co37],.int .i64 a1_0] rfl (by (try simp only [List.map_toArray,List.map_cons,List.map_nil]);first | done | rfl | (simp only [List.length_drop,List.length_take];rfl)) ?_;(refine (gf_shares.calls kj2 _ _ l0_0 t260 _ _ l0_2 t261 t262 _ _ t263 a1_0 t267 t270 _ ?side1 ?side2 ?side3 ?side4 ?side5 ?side6 A26.out).mono ?_);(case side1 => exact kC HR0_0.out (by repeat (first | (with_reducible first | exact HB.out | refine below_set ?_ (Aside0.out (by assumption)) | apply below_alloc | apply pw_below_drewN) | exact HB.out)));(case side2 => exact HC0_0.out);(case side3 => exact kC HR0_2.out (by repeat (first | (with_reducible first | exact HB.out | refine below_set ?_ (Aside0.out (by assumption)) | apply below_alloc | apply pw_below_drewN) | exact HB.out)));(case side4 => exact HC0_2.out);(case side5 => refine (Kd.S_reads' (e := 30) (base := w.heap.size) (ok := fun k_ => True) (n := t263.length) (c := co37) ?_).2.2;exact (Kd.S_mono (Kd.S_far (p := ⟨gb266,5,none⟩) (Kd.S_far (p := ⟨gb266,4,none⟩) (Kd.S_far (p := ⟨gb266,3,none⟩) (Kd.S_far (p := ⟨gb266,2,none⟩) (Kd.S_far (p := ⟨gb266,1,none⟩) (Kd.S_far (p := ⟨gb266,0,none⟩) (Kd.S_types HO265.out BK266.out (by decide)) (fun _ hk => hk.2) (.slice A0_0 l0_0.length c0_0)) (fun _ hk => hk.2) (.int .i64 t260)) (fun _ hk => hk.2) (.slice A0_2 l0_2.length c0_2)) (fun _ hk => hk.2) (.int .i64 t261)) (fun _ hk => hk.2) (.int .i64 t262)) (fun _ hk => hk.2) (.slice Ao37 t263.length co37)) (fun _ h_ => h_.1)));(case side6 => exact (Kd.S_reads' HO265.out).2.1);rintro e w40 ⟨v268,rfl,ho0,hb⟩;refine ⟨_,rfl,?_⟩;have HO269 := am (Kd.R_lower ho0 (below_size (by repeat (first | (with_reducible first | exact HB.out | refine below_set ?_ (Aside0.out (by assumption)) | apply below_alloc | apply pw_below_drewN) | exact HB.out))));replace HO265 := am (Kd.S_elder' (Kd.S_mono (Kd.S_far (p := ⟨gb266,5,none⟩) (Kd.S_far (p := ⟨gb266,4,none⟩) (Kd.S_far (p := ⟨gb266,3,none⟩) (Kd.S_far (p := ⟨gb266,2,none⟩) (Kd.S_far (p := ⟨gb266,1,none⟩) (Kd.S_far (p := ⟨gb266,0,none⟩) (Kd.S_types HO265.out BK266.out (by decide)) (fun _ hk => hk.2) (.slice A0_0 l0_0.length c0_0)) (fun _ hk => hk.2) (.int .i64 t260)) (fun _ hk => hk.2) (.slice A0_2 l0_2.length c0_2)) (fun _ hk => hk.2) (.int .i64 t261)) (fun _ hk => hk.2) (.int .i64 t262)) (fun _ hk => hk.2) (.slice Ao37 t263.length co37)) (fun _ h_ => h_.1)) (Kd.R_base ho0) hb);replace BK243 := am (blk_below (blk_far (blk_far (blk_far (blk_far (blk_far (blk_far BK243.out NB243_266.out _) NB243_266.out _) NB243_266.out _) NB243_266.out _) NB243_266.out _) NB243_266.out _) hb);replace BK244 := am (blk_below (blk_far (blk_far (blk_far (blk_far (blk_far (blk_far BK244.out NB244_266.out _) NB244_266.out _) NB244_266.out _) NB244_266.out _) NB244_266.out _) NB244_266.out _) hb);replace BK245 := am (blk_below (blk_far (blk_far (blk_far (blk_far (blk_far (blk_far BK245.out NB245_266.out _) NB245_266.out _) NB245_266.out _) NB245_266.out _) NB245_266.out _) NB245_266.out _) hb);replace BK266 := am (blk_below (blk_put (cs := #[.slice A0_0 l0_0.length c0_0,.int .i64 t260,.slice A0_2 l0_2.length c0_2,.int .i64 t261,.int .i64 t262,.slice none 0 0]) (blk_put (cs := #[.slice A0_0 l0_0.length c0_0,.int .i64 t260,.slice A0_2 l0_2.length c0_2,.int .i64 t261,.int .i64 0,.slice none 0 0]) (blk_put (cs := #[.slice A0_0 l0_0.length c0_0,.int .i64 t260,.slice A0_2 l0_2.length c0_2,.int .i64 0,.int .i64 0,.slice none 0 0]) (blk_put (cs := #[.slice A0_0 l0_0.length c0_0,.int .i64 t260,.slice none 0 0,.int .i64 0,.int .i64 0,.slice none 0 0]) (blk_put (cs := #[.slice A0_0 l0_0.length c0_0,.int .i64 0,.slice none 0 0,.int .i64 0,.int .i64 0,.slice none 0 0]) (blk_put (cs := #[.slice none 0 0,.int .i64 0,.slice none 0 0,.int .i64 0,.int .i64 0,.slice none 0 0]) BK266.out 0 _ rfl) 1 _ rfl) 2 _ rfl) 3 _ rfl) 4 _ rfl) 5 _ rfl) hb);replace HB := am (below_step (by repeat (first | (with_reducible first | exact HB.out | refine below_set ?_ (Aside0.out (by assumption)) | apply below_alloc | apply pw_below_drewN) | exact HB.out)) hb);(try clear hb);(try clear hb2);(try clear hk);(try clear hi);(try clear ho0);obtain ⟨hcz41_0,hcz41_1,hcz41_2,hcz41_3,hcz41_4,hcz41_5⟩ := cO6 BK266.out;have hfz41_0 := blk_frozen BK266.out 0;have hfz41_1 := blk_frozen BK266.out 1;have hfz41_2 := blk_frozen BK266.out 2;have hfz41_3 := blk_frozen BK266.out 3;have hfz41_4 := blk_frozen BK266.out 4;have hfz41_5 := blk_frozen BK266.out 5;obtain ⟨hcz42_0,hcz42_1⟩ := cO2 BK244.out) | ((with_reducible refine gate_callee (f := 60) rfl ?_);refine goesL_ (some 36) rfl rfl Tryz.func60 (by kernel_rfl) rfl #[.agg #[.slice A0_0 l0_0.length c0_0,.int .i64 t260,.slice A0_2 l0_2.length c0_2,.int .i64 t261,.int .i64 t262,.slice Ao37 t263.length co37],.int .i64 a1_1] rfl (by (try simp only [List.map_toArray,List.map_cons,List.map_nil]);first | done | rfl | (simp only [List.length_drop,List.length_take];rfl)) ?_;(refine (gf_shares.calls kj2 _ _ l0_0 t260 _ _ l0_2 t261 t262 _ _ t263 a1_1 t271 t274 _ ?side1 ?side2 ?side3 ?side4 ?side5 ?side6 A27.out).mono ?_);(case side1 => exact kC HR0_0.out HB.out);(case side2 => exact HC0_0.out);(case side3 => exact kC HR0_2.out HB.out);(case side4 => exact HC0_2.out);(case side5 => repeat (first | exact (Kd.S_reads' HO265.out).2.2 | (with_reducible refine Kd.C_alloc ?_ _) | (with_reducible refine Kd.C_drewN ?_ _) | (with_reducible refine Kd.C_drew ?_)));(case side6 => exact (Kd.S_reads' HO265.out).2.1);rintro e w43 ⟨v272,rfl,ho0,hb⟩;refine ⟨_,rfl,?_⟩;have HO273 := am (Kd.R_lower (Kd.R_new' ho0 (Kd.R_lt HO269.out)) (below_size (HB.out)));replace HO265 := am (Kd.S_elder' HO265.out (Kd.R_base ho0) hb);replace HO269 := am (Kd.R_elder' HO269.out (Kd.R_base ho0) hb);replace BK243 := (kmv hb BK243);replace BK244 := (kmv hb BK244);replace BK245 := (kmv hb BK245);replace BK266 := (kmv hb BK266);replace HB := am (below_step (HB.out) hb);(try clear hb);(try clear hb2);(try clear hk);(try clear hi);(try clear ho0);obtain ⟨Ao44,co44,eo44⟩ := Kd.R_slice HO269.out;subst eo44))
     go_loopg [12,41] kj2 (fun kq v12 v41 w' => ∃ (x12_2 : List (S40)) (x41_2 : Int),v41 = .int .i64 x41_2 ∧ Aside0 (ca_Bounds.l0 kq t267 t270 t271 t274 x12_2 (t267.length : Int) x41_2 = some (r1,r2,r3,r4)) ∧ Aside0 (kq ≤ kj2) ∧ Aside0 (Kd.R (Kd.int .i64) 3 w' w.heap.size (fun k_ => some k_ ≠ (v272 : Value).ownBlock) (.slice Ao44 t267.length co44) t267) ∧ Aside0 (Kd.R (Kd.int .i64) 3 w' w.heap.size (fun k_ => some k_ ≠ ((.slice Ao44 t267.length co44) : Value).ownBlock) v272 t271) ∧ Aside0 (Kd.R k40 40 w' w.heap.size (fun k_ => k_ ≠ gb244 ∧ k_ ≠ gb245) v12 x12_2) ∧ Aside0 (Kd.S (Kd.slice 3 (Kd.int .i64)) 30 w' w.heap.size (fun k_ => some k_ ≠ ((.slice Ao44 t267.length co44) : Value).ownBlock ∧ some k_ ≠ (v272 : Value).ownBlock) (.slice Ao37 t263.length co37) t263) ∧ Aside0 (w'.heap[gb243]? = some (.cells #[(.slice A0_0 l0_0.length c0_0),.int .i64 a0_1,(.slice A0_2 l0_2.length c0_2),.int .i64 a0_3,.int .i64 a0_4] 27 (0,0))) ∧ Aside0 (w'.heap[gb244]? = some (.cells #[.int .i64 a1_0,.int .i64 a1_1] 40 (0,0))) ∧ Aside0 (w'.heap[gb245]? = some (.cells #[.int .i64 0,.int .i64 0] 40 (0,0))) ∧ Aside0 (w'.heap[gb266]? = some (.cells #[(.slice A0_0 l0_0.length c0_0),.int .i64 t260,(.slice A0_2 l0_2.length c0_2),.int .i64 t261,.int .i64 t262,(.slice Ao37 t263.length co37)] 99 (0,0))) ∧ Aside0 (Below w.heap.size w w'))
     case atStart => exact ⟨(([] : List (S40))),(0),(by first | rfl | (simp;done) | (simp [*];done)),H',⟨Nat.le_refl _⟩,⟨by (with_reducible repeat (first | apply Kd.R_alloc | apply Kd.R_drewN | apply Kd.R_drew));exact Kd.R_mono HO269.out (fun _ hk => hk.2)⟩,⟨by (with_reducible repeat (first | apply Kd.R_alloc | apply Kd.R_drewN | apply Kd.R_drew));exact Kd.R_mono HO273.out (fun _ hk => hk.2)⟩,⟨by first | exact Kd.R_nil _ _ _ _ _ | exact Kd.N_nil _ _ _ _ _ | exact Kd.V_nil _ _ _ _ _ | exact Kd.Q_nil _ _ _ _ _ | exact Kd.S_nil _ _ _ _ _⟩,⟨by (with_reducible repeat (first | apply Kd.S_alloc | apply Kd.S_drewN | apply Kd.S_drew));exact Kd.S_mono HO265.out (fun _ hk => ⟨hk.1.2,hk.2⟩)⟩,⟨BK243.out⟩,⟨BK244.out⟩,⟨BK245.out⟩,⟨BK266.out⟩,⟨HB.out⟩⟩
     case round =>
      clear H'
      obtain ⟨x12_2,x41_2,rfl,HA,HK2,HO_8,HO_10,HO_12,HO_267005,BK243,BK244,BK245,BK266,HB⟩ := hrel
      cases gk with
      | zero => exact absurd HA.out (by simp [ca_Bounds.l0])
      | succ k2 =>
       have H := HA.out
       clear HA
       simp only [ca_Bounds.l0] at H
       by_cases c45 : x41_2 < (t267.length : Int)
       case neg =>
        rw [if_neg c45] at H
        have c45b0 : decide (x41_2 < (t267.length : Int)) = false := decide_eq_false c45
        clear c45
        simp only [Option.some.injEq,Prod.mk.injEq] at H
        obtain ⟨rfl,rfl,rfl,rfl⟩ := H
        have hnb53 := NB245_243.out
        have hnc53 := NB243_245.out
        have hnb54 := NB245_244.out
        have hnc54 := NB244_245.out
        have hnb55 := NB245_266.out
        have hnc55 := NB266_245.out
        obtain ⟨hcz56_0,hcz56_1⟩ := cO2 BK245.out
        have hfz56_0 := blk_frozen BK245.out 0
        have hfz56_1 := blk_frozen BK245.out 1
        go_wp2
        refine bodyPost_ret (results_list (rs := [.tmp 4,.cell 5 40,.tmp 6]) rfl (by simp) (.tmp (.cell gb245 40 #[.int .i64 t270,.int .i64 t274] (0,0) _ rfl (blk_put (cs := #[.int .i64 t270,.int .i64 0]) (blk_put (cs := #[.int .i64 0,.int .i64 0]) BK245.out 0 _ rfl) 1 _ rfl) Tryz.underlying40 rfl (by kernel_rfl) (.tmp .nil)))) rfl ?_
        exact ⟨_,by first | rfl | (simp [*] <;> rfl),by (with_reducible repeat (first | apply Kd.R_alloc | apply Kd.R_drewN | apply Kd.R_drew));exact Kd.R_mono (Kd.R_far (p := ⟨gb245,1,none⟩) (Kd.R_far (p := ⟨gb245,0,none⟩) (Kd.R_mono HO_12.out (fun k_ hk => (⟨hk,hk.2⟩ : _ ∧ k_ ≠ gb245))) (fun _ hk => hk.2) (.int .i64 t270)) (fun _ hk => hk.2) (.int .i64 t274)) (fun _ hk => trivial),by repeat (first | (with_reducible first | exact HB.out | refine below_set ?_ (Aside0.out (by assumption)) | apply below_alloc | apply pw_below_drewN) | exact HB.out)⟩
       rw [if_pos c45] at H
       have c45b0 : decide (x41_2 < (t267.length : Int)) = true := decide_eq_true c45
       clear c45
       by_cases c46 : 0 ≤ x41_2
       case neg =>
        rw [if_neg c46] at H
        exact absurd H (by simp)
       rw [if_pos c46] at H
       have c46b0 : decide (0 ≤ x41_2) = true := decide_eq_true c46
       clear c46
       by_cases c47 : x41_2 < (t267.length : Int)
       case neg =>
        rw [if_neg c47] at H
        exact absurd H (by simp)
       rw [if_pos c47] at H
       have c47b0 : decide (x41_2 < (t267.length : Int)) = true := decide_eq_true c47
       clear c47
       by_cases c48 : x41_2 < (t271.length : Int)
       case neg =>
        rw [if_neg c48] at H
        exact absurd H (by simp)
       rw [if_pos c48] at H
       have c48b0 : decide (x41_2 < (t271.length : Int)) = true := decide_eq_true c48
       clear c48
       by_cases c49 : x12_2.length < 8796093022208
       case neg =>
        rw [if_neg c49] at H
        exact absurd H (by simp)
       rw [if_pos c49] at H
       have LMc49 := am c49
       clear c49
       obtain ⟨y277,hy277⟩ : ∃ y_ : List (S40),y_ = (x12_2 ++ [(⟨rd t267 x41_2,rd t271 x41_2⟩ : S40)]) := ⟨_,rfl⟩
       replace H : (ca_Bounds.l0 k2 t267 t270 t271 t274 y277 (t267.length : Int) (wrap64 (x41_2 + 1))) = some (r1,r2,r3,r4) := by first | (rw [hy277];with_reducible exact H) | (have H2_ := (Option.bind_some _ _).symm.trans H;rw [hy277];with_reducible exact H2_) | (have H2_ := (Option.bind_some _ _).symm.trans H;with_reducible exact H2_) | with_reducible exact H | (rw [hy277];exact H) | exact H
       have Ny277 := am hy277
       clear hy277
       replace H' := am H
       try go_wp2
       replace HO_8 := am (Kd.R_drew HO_8.out)
       replace HO_10 := am (Kd.R_drew HO_10.out)
       replace HO_12 := am (Kd.R_drew HO_12.out)
       replace HO_267005 := am (Kd.S_drew HO_267005.out)
       replace BK243 := am (blk_drew BK243.out)
       replace BK244 := am (blk_drew BK244.out)
       replace BK245 := am (blk_drew BK245.out)
       replace BK266 := am (blk_drew BK266.out)
       replace HB := am (below_drew1 HB.out)
       have p275 : 0 ≤ (x41_2 : Int) := of_decide_eq_true (by assumption)
       have q275 : x41_2 < (t267.length : Int) := of_decide_eq_true (by assumption)
       obtain ⟨ad275,e275,hx275_0⟩ := Kd.at_int (Kd.R_reads' HO_8.out).2.2 x41_2 p275 q275
       cases e275
       replace p275 := eq_true p275
       replace q275 := eq_true q275
       obtain ⟨Ao51,co51,eo51⟩ := Kd.R_slice HO_10.out
       (first | subst eo51 | (injection eo51 with f1_ f2_ f3_;have f4_ := f1_.symm;have f5_ := f3_.symm;clear f1_ f2_ f3_;subst f4_;subst f5_))
       have p276 : 0 ≤ (x41_2 : Int) := of_decide_eq_true (by assumption)
       have q276 : x41_2 < (t271.length : Int) := of_decide_eq_true (by assumption)
       obtain ⟨ad276,e276,hx276_0⟩ := Kd.at_int (Kd.R_reads' HO_10.out).2.2 x41_2 p276 q276
       cases e276
       replace p276 := eq_true p276
       replace q276 := eq_true q276
       refine start_ (n := 13) (S := fun w' => w'.cell? (ad275.add (x41_2).toNat) = some (.int .i64 (rd t267 x41_2)) ∧ w'.cell? (ad276.add (x41_2).toNat) = some (.int .i64 (rd t271 x41_2))) (ds := [10,11]) (ba 13 0) (by kernel_rfl) rfl rfl ⟨hx275_0,hx276_0⟩ (fun hHeld => ?_);refine with_tabW ca_Bounds.tab10 ca_Bounds.bits10 (fun HT_ HW_ => ?_)
       generalize wr.drew = w50 at HO_8 HO_10 HO_12 HO_267005 BK243 BK244 BK245 BK266 HB hx275_0 hx276_0 hHeld ⊢
       refine pure_ (i := 0) (N := some 44) (v := ?_) (a' := ?_) (ba 13 1) rfl rfl (any_of HT_.out (by kernel_rfl)) (fun _ _ _ h => h) (Or.inl ⟨by rfl,?_⟩) ?_ ?_
       rotate_left
       · intro w'
         go_simp
         with_reducible rfl
       rotate_left
       · simp only [Act.put,NRM]
         rfl
       refine pure_ (i := 1) (N := some 45) (v := ?_) (a' := ?_) (ba 13 3) rfl rfl (any_of HT_.out (by kernel_rfl)) (fun _ _ _ h => h) (Or.inl ⟨by rfl,?_⟩) ?_ ?_
       rotate_left
       · intro w'
         go_simp
         with_reducible rfl
       rotate_left
       · simp only [Act.put,NRM]
         rfl
       refine pure_ (i := 2) (N := some 46) (v := ?_) (a' := ?_) (ba 13 7) rfl rfl (any_of HT_.out (by kernel_rfl)) (fun _ _ _ h => h) (Or.inl ⟨by rfl,?_⟩) ?_ ?_
       rotate_left
       · intro w'
         go_simp
         with_reducible rfl
       rotate_left
       · simp only [Act.put,NRM]
         rfl
       refine pure_ (i := 3) (N := some 47) (v := ?_) (a' := ?_) (ba 13 15) rfl rfl (any_of HT_.out (by kernel_rfl)) (fun _ _ _ h => h) (Or.inl ⟨by rfl,?_⟩) ?_ ?_
       rotate_left
       · intro w'
         go_simp
         with_reducible rfl
       rotate_left
       · simp only [Act.put,NRM]
         rfl
       refine pure_ (i := 5) (N := some 49) (v := ?_) (a' := ?_) (ba 13 47) rfl rfl (any_of HT_.out (by kernel_rfl)) (fun _ _ _ h => h) (Or.inl ⟨by rfl,?_⟩) ?_ ?_
       rotate_left
       · intro w'
         go_simp
         with_reducible rfl
       rotate_left
       · simp only [Act.put,NRM]
         rfl
       refine pure_ (i := 6) (N := some 50) (v := ?_) (a' := ?_) (ba 13 111) rfl rfl (any_of HT_.out (by kernel_rfl)) (fun _ _ _ h => h) (Or.inl ⟨by rfl,?_⟩) ?_ ?_
       rotate_left
       · intro w'
         go_simp
         with_reducible rfl
       rotate_left
       · simp only [Act.put,NRM]
         rfl
       refine pure_ (i := 7) (N := some 51) (v := ?_) (a' := ?_) (ba 13 239) rfl rfl (any_of HT_.out (by kernel_rfl)) (fun _ _ _ h => h) (Or.inl ⟨by rfl,?_⟩) ?_ ?_
       rotate_left
       · intro w'
         go_simp
         with_reducible rfl
       rotate_left
       · simp only [Act.put,NRM]
         rfl
       refine take_ (i := 4) (N := some 48) (v := ?_) (a' := ?_) (ba 13 255) rfl rfl (take_ofW HT_.out HW_.out (by kernel_rfl)) (fun _ _ _ h => h) (Or.inl ⟨by rfl,?_⟩) hHeld ?_ ?_
       rotate_left
       · rintro w' ⟨s0,s1⟩
         go_simp
         with_reducible rfl
       rotate_left
       · simp only [Act.put,NRM]
         rfl
       refine take_ (i := 8) (N := some 52) (v := ?_) (a' := ?_) (ba 13 511) rfl rfl (take_ofW HT_.out HW_.out (by kernel_rfl)) (fun _ _ _ h => h) (Or.inl ⟨by rfl,?_⟩) hHeld ?_ ?_
       rotate_left
       · rintro w' ⟨s0,s1⟩
         go_simp
         with_reducible rfl
       rotate_left
       · simp only [Act.put,NRM]
         rfl
       refine pure_ (i := 9) (N := some 53) (v := ?_) (a' := ?_) (ba 13 1023) rfl rfl (any_of HT_.out (by kernel_rfl)) (fun _ _ _ h => h) (Or.inl ⟨by rfl,?_⟩) ?_ ?_
       rotate_left
       · intro w'
         go_simp
         with_reducible rfl
       rotate_left
       · simp only [Act.put,NRM]
         rfl
       refine last_ (i := 10) (N := some 54) (ba 13 2047) rfl rfl (one_of HT_.out (by kernel_rfl)) (by decide) (fun K hK => ?_)
       refine value_ (w1 := ?_) (v := ?_) (by rfl) rfl ?_ ?_
       rotate_left 2
       · go_simp
         constructor
         · rfl
         · rfl
       refine hK.out _ _ ?_
       clear hK K
       refine norm_ (a' := ?_) ?_ ?_
       rotate_left
       · show Act.put _ (some 54) _ = _
         simp only [Act.put,NRM]
         rfl
       refine last_ (i := 11) (N := some 55) (ba 13 4095) rfl rfl (one_of HT_.out (by kernel_rfl)) (by decide) (fun K hK => ?_)
       refine Kd.R_append_step k40 (w0 := w) w.heap.size (by rfl) (.tmp 44) (.tmp 54) 45 40 (.agg #[(.int .i64 0),(.int .i64 0)]) 16 rfl Tryz.underlying45 info40 rfl (by decide) (by omega) u12 x12_2 (⟨rd t267 x41_2,rd t271 x41_2⟩ : S40) [.int .i64 (rd t267 x41_2),.int .i64 (rd t271 x41_2)] (fun k_ => k_ ≠ gb244 ∧ k_ ≠ gb245) (fun _ => False) rfl rfl ?aP (fun _ hk => hk.elim) ?aF ?aO ?aB ?aS ?aL ?_
       (case aP => exact k40_mkM _ _ _ (⟨rd t267 x41_2,rd t271 x41_2⟩ : S40))
       (case aB => exact (HB.out))
       (case aF => exact (fun k_ hk => ⟨Kd.freshB (g := gb244) (o := .cells #[.int .i64 a1_0,.int .i64 a1_1] 40 (0,0)) BK244.out k_ hk,Kd.freshB (g := gb245) (o := .cells #[.int .i64 0,.int .i64 0] 40 (0,0)) BK245.out k_ hk⟩))
       (case aO => exact HO_12.out)
       (case aS => exact (below_size (HB.out)))
       (case aL => have := LMc49.out;omega)
       intro v278 w52 ho hb hg hat
       rw [← Ny277.out] at ho
       have n0_ := am (Kd.R_over' HO_8.out (Kd.R_typed HO_12.out) (by decide) hg)
       have n1_ := am (Kd.R_over' HO_10.out (Kd.R_typed HO_12.out) (by decide) hg)
       have n2_ := am (Kd.S_over' HO_267005.out (Kd.R_typed HO_12.out) (by decide) hg)
       have n3_ := am (blk_grown (g := gb243) (o := .cells #[.slice A0_0 l0_0.length c0_0,.int .i64 a0_1,.slice A0_2 l0_2.length c0_2,.int .i64 a0_3,.int .i64 a0_4] 27 (0,0)) BK243.out hg (Kd.R_ne HO_12.out BK243.out (by decide)))
       have n4_ := am (blk_grown (g := gb244) (o := .cells #[.int .i64 a1_0,.int .i64 a1_1] 40 (0,0)) BK244.out hg (Kd.R_away HO_12.out (fun _ hk => hk.1)))
       have n5_ := am (blk_grown (g := gb245) (o := .cells #[.int .i64 0,.int .i64 0] 40 (0,0)) BK245.out hg (Kd.R_away HO_12.out (fun _ hk => hk.2)))
       have n6_ := am (blk_grown (g := gb266) (o := .cells #[.slice A0_0 l0_0.length c0_0,.int .i64 t260,.slice A0_2 l0_2.length c0_2,.int .i64 t261,.int .i64 t262,.slice Ao37 t263.length co37] 99 (0,0)) BK266.out hg (Kd.R_ne HO_12.out BK266.out (by decide)))
       have n7_ := am (hb)
       have n8_ := am (ho)
       clear HO_8
       clear HO_10
       clear HO_267005
       clear BK243
       clear BK244
       clear BK245
       clear BK266
       clear HB
       clear HO_12
       have HO_8 := n0_
       have HO_10 := n1_
       have HO_267005 := n2_
       have BK243 := n3_
       have BK244 := n4_
       have BK245 := n5_
       have BK266 := n6_
       have HB := n7_
       have HO279 := n8_
       clear n0_ n1_ n2_ n3_ n4_ n5_ n6_ n7_ n8_
       clear ho hb hg hat
       refine hK.out _ _ ?_
       clear hK K
       refine norm_ (a' := ?_) ?_ ?_
       rotate_left
       · show Act.put _ (some 55) _ = _
         simp only [Act.put,NRM]
         rfl
       refine pure_ (i := 12) (N := some 12) (v := ?_) (a' := ?_) (ba 13 8191) rfl rfl (any_of HT_.out (by kernel_rfl)) (fun _ _ _ h => h) (Or.inl ⟨by rfl,?_⟩) ?_ ?_
       rotate_left
       · intro w'
         go_simp
         with_reducible rfl
       rotate_left
       · simp only [Act.put,NRM]
         rfl
       refine done_ (done_of HT_.out (by kernel_rfl)) ?_
       try go_wp2
       go_roundg k2
       case measure => have := HJ2.out;have := HK2.out;omega
       case rel => exact ⟨(y277),(wrap64 (x41_2 + 1)),(by first | rfl | (simp;done) | (simp [*];done)),H',⟨by have := HJ2.out;have := HK2.out;omega⟩,⟨by (with_reducible repeat (first | apply Kd.R_alloc | apply Kd.R_drewN | apply Kd.R_drew));exact HO_8.out⟩,⟨by (with_reducible repeat (first | apply Kd.R_alloc | apply Kd.R_drewN | apply Kd.R_drew));exact HO_10.out⟩,⟨by (with_reducible repeat (first | apply Kd.R_alloc | apply Kd.R_drewN | apply Kd.R_drew));exact HO279.out⟩,⟨by (with_reducible repeat (first | apply Kd.S_alloc | apply Kd.S_drewN | apply Kd.S_drew));exact HO_267005.out⟩,⟨BK243.out⟩,⟨BK244.out⟩,⟨BK245.out⟩,⟨BK266.out⟩,⟨HB.out⟩⟩
def q4_in.f (a0 : Int) (a1 : Int) (a2 : Int) : Option (Bool) := if a0 ≥ a1 then (some (decide (a0 ≤ a2))) else (some false)
theorem q4_in.calls (a0 : Int) (a1 : Int) (a2 : Int) (r : Bool) (w : World) (h : q4_in.f a0 a1 a2 = some r) :
 Calls Tryz.prog 61 #[.int .i64 a0,.int .i64 a1,.int .i64 a2] w fun e w' => e = .returned (.bool r) ∧ Drawn0 w w' := by
 have H : (if a0 ≥ a1 then (some (decide (a0 ≤ a2))) else (some false)) = some r := h
 clear h
 by_cases c4 : a0 ≥ a1
 · rw [if_pos c4] at H
   have c4b0 : decide (a1 ≤ a0) = true := decide_eq_true c4
   clear c4
   obtain rfl := Option.some.inj H
   go_enter Tryz.func61,Tryz.ntmps61
   go_wp2
   go_ret
   exact ⟨by first | rfl | (simp;done) | (simp [*];done),by repeat (first | exact Drawn0.refl _ | apply Drawn0.step)⟩
 · rw [if_neg c4] at H
   have c4b0 : decide (a1 ≤ a0) = false := decide_eq_false c4
   clear c4
   obtain rfl := Option.some.inj H
   go_enter Tryz.func61,Tryz.ntmps61
   go_wp2
   go_ret
   exact ⟨by first | rfl | (simp;done) | (simp [*];done),by repeat (first | exact Drawn0.refl _ | apply Drawn0.step)⟩
def q4_Height.f (a0 : Int) : Option (Bool) := (q4_in.f a0 0 40).bind fun t461 => (some t461)
theorem q4_Height.calls (a0 : Int) (r : Bool) (w : World) (h : q4_Height.f a0 = some r) :
 Calls Tryz.prog 21 #[.int .i64 a0] w fun e w' => e = .returned (.bool r) ∧ Drawn0 w w' := by
 have H : ((q4_in.f a0 0 40).bind fun t461 => (some t461)) = some r := h
 clear h
 replace H := obm H
 obtain ⟨t461,A20,H⟩ := H
 replace H : (some t461) = some r := H
 have A2 := am A20
 clear A20
 obtain rfl := Option.some.inj H
 go_enter Tryz.func21,Tryz.ntmps21
 go_wp2_with (first | ((with_reducible refine gate_callee (f := 61) rfl ?_);refine goesL_ (some 4) rfl rfl Tryz.func61 (by kernel_rfl) rfl #[.int .i64 a0,.int .i64 0,.int .i64 40] rfl (by (try simp only [List.map_toArray,List.map_cons,List.map_nil]);first | done | rfl | (simp only [List.length_drop,List.length_take];rfl)) ?_;(with_reducible refine (q4_in.calls a0 0 40 t461 _ A2.out).mono ?_);rintro e w' ⟨rfl,⟨nd,rfl⟩⟩;refine ⟨_,rfl,?_⟩))
 go_ret
 exact ⟨by first | rfl | (simp;done) | (simp [*];done),by repeat (first | exact Drawn0.refl _ | apply Drawn0.step)⟩
def q3_in.f (a0 : Int) (a1 : Int) (a2 : Int) : Option (Bool) := if a0 ≥ a1 then (some (decide (a0 ≤ a2))) else (some false)
theorem q3_in.calls (a0 : Int) (a1 : Int) (a2 : Int) (r : Bool) (w : World) (h : q3_in.f a0 a1 a2 = some r) :
 Calls Tryz.prog 101 #[.int .i64 a0,.int .i64 a1,.int .i64 a2] w fun e w' => e = .returned (.bool r) ∧ Drawn0 w w' := by
 have H : (if a0 ≥ a1 then (some (decide (a0 ≤ a2))) else (some false)) = some r := h
 clear h
 by_cases c4 : a0 ≥ a1
 · rw [if_pos c4] at H
   have c4b0 : decide (a1 ≤ a0) = true := decide_eq_true c4
   clear c4
   obtain rfl := Option.some.inj H
   go_enter Tryz.func101,Tryz.ntmps101
   go_wp2
   go_ret
   exact ⟨by first | rfl | (simp;done) | (simp [*];done),by repeat (first | exact Drawn0.refl _ | apply Drawn0.step)⟩
 · rw [if_neg c4] at H
   have c4b0 : decide (a1 ≤ a0) = false := decide_eq_false c4
   clear c4
   obtain rfl := Option.some.inj H
   go_enter Tryz.func101,Tryz.ntmps101
   go_wp2
   go_ret
   exact ⟨by first | rfl | (simp;done) | (simp [*];done),by repeat (first | exact Drawn0.refl _ | apply Drawn0.step)⟩
def q3_Table.l0 : Nat → Int → List (S126) → Int → Option (Bool)
 | 0,_,_,_ => none
 | k + 1,x3,x463000,x463001 => if x3 < (x463000.length : Int) then (if 0 ≤ x3 then ((q3_in.f ((rd_T126 x463000 x3).f0) 1 60).bind fun t467 => (if t467 = true then ((q3_in.f ((rd_T126 x463000 x3).f1) 1 60).bind fun t468 => (if t468 = true then ((q3_in.f ((rd_T126 x463000 x3).f2) 1 1000).bind fun t469 => (if t469 = true then (q3_Table.l0 k (wrap64 (x3 + 1)) x463000 x463001) else (some false))) else (some false))) else (some false))) else (none)) else ((q3_in.f (x463000.length : Int) 1 12).bind fun t463 => (if t463 = true then ((q3_in.f x463001 0 100).bind fun t464 => (some t464)) else (some false)))
def q3_Table.f (k : Nat) (l0_0 : List (S126)) (a0_1 : Int) : Option (Bool) := q3_Table.l0 k 0 l0_0 a0_1
theorem q3_Table.calls (k : Nat) (A0_0 : Option Addr) (c0_0 : Nat) (l0_0 : List (S126)) (a0_1 : Int) (r : Bool) (w : World) (hr0_0 : Kd.C k126 w A0_0 l0_0.length l0_0) (hc0_0 : l0_0.length ≤ c0_0) (h : q3_Table.f k l0_0 a0_1 = some r) :
 Calls Tryz.prog 62 #[.agg #[.slice A0_0 l0_0.length c0_0,.int .i64 a0_1]] w fun e w' => e = .returned (.bool r) ∧ Below w.heap.size w w' := by
 have hu24 := Tryz.underlying24
 have hu126 := Tryz.underlying126
 have HR0_0 := am hr0_0
 have HC0_0 := am hc0_0
 clear hr0_0 hc0_0
 have HB := am (Below.refl w.heap.size w)
 have H : (q3_Table.l0 k 0 l0_0 a0_1) = some r := h
 clear h
 replace H' := am H
 go_enter Tryz.func62,Tryz.ntmps62
 go_wp2_with (first | ((refine gate_dst (N := 1) rfl ?_);refine box_event rfl (N := 1) rfl (cs := #[.slice A0_0 l0_0.length c0_0,.int .i64 a0_1]) (t := 24) ?hr ?_;(case hr => go_simp;try rfl);intro gb462 hg w2 hbox hb;have BK462 := am (hbox);have GW462 := am (ge_new (HB.out) hg);have GE462 := am (ge_new (HB.out) hg);replace HB := am (below_step (HB.out) hb);clear hb hbox hg))
 go_loopg [3] k (fun kq v3 w' => ∃ (x3_1 : Int),v3 = .int .i64 x3_1 ∧ Aside0 (q3_Table.l0 kq x3_1 l0_0 a0_1 = some r) ∧ Aside0 (kq ≤ k) ∧ Aside0 (w'.heap[gb462]? = some (.cells #[(.slice A0_0 l0_0.length c0_0),.int .i64 a0_1] 24 (0,0))) ∧ Aside0 (Below w.heap.size w w'))
 case atStart => exact ⟨(0),(by first | rfl | (simp;done) | (simp [*];done)),H',⟨Nat.le_refl _⟩,⟨by (with_reducible repeat (first | refine blk_drewN ?_ _ | refine blk_drew ?_ | refine blk_alloc ?_ _));exact BK462.out⟩,⟨HB.out⟩⟩
 case round =>
  clear H'
  obtain ⟨x3_1,rfl,HA,HK1,BK462,HB⟩ := hrel
  cases gk with
  | zero => exact absurd HA.out (by simp [q3_Table.l0])
  | succ k1 =>
   have H := HA.out
   clear HA
   simp only [q3_Table.l0] at H
   by_cases c3 : x3_1 < (l0_0.length : Int)
   case neg =>
    rw [if_neg c3] at H
    have c3b0 : decide (x3_1 < (l0_0.length : Int)) = false := decide_eq_false c3
    clear c3
    replace H := obm H
    obtain ⟨t463,A270,H⟩ := H
    replace H : (if t463 = true then ((q3_in.f a0_1 0 100).bind fun t464 => (some t464)) else (some false)) = some r := H
    have A27 := am A270
    clear A270
    by_cases c28 : t463 = true
    case neg =>
     replace c28 := Bool.eq_false_iff.mpr c28
     subst c28
     replace H : (some false) = some r := by rw [if_neg (show ¬ (false = true) by decide)] at H;exact H
     obtain rfl := Option.some.inj H
     obtain ⟨hcz31_0,hcz31_1⟩ := cO2 BK462.out
     have hfz31_0 := blk_frozen BK462.out 0
     have hfz31_1 := blk_frozen BK462.out 1
     go_wp2_with (first | ((with_reducible refine gate_callee (f := 101) rfl ?_);refine goesL_ (some 36) rfl rfl Tryz.func101 (by kernel_rfl) rfl #[.int .i64 (l0_0.length : Int),.int .i64 1,.int .i64 12] rfl (by (try simp only [List.map_toArray,List.map_cons,List.map_nil]);first | done | rfl | (simp only [List.length_drop,List.length_take];rfl)) ?_;(with_reducible refine (q3_in.calls (l0_0.length : Int) 1 12 false _ A27.out).mono ?_);rintro e w' ⟨rfl,⟨nd,rfl⟩⟩;refine ⟨_,rfl,?_⟩))
     go_ret
     exact ⟨by first | rfl | (simp [*] <;> rfl),pw_below_drewN HB.out _⟩
    subst c28
    replace H : ((q3_in.f a0_1 0 100).bind fun t464 => (some t464)) = some r := by rw [if_pos rfl] at H;exact H
    replace H := obm H
    obtain ⟨t464,A290,H⟩ := H
    replace H : (some t464) = some r := H
    have A29 := am A290
    clear A290
    obtain rfl := Option.some.inj H
    obtain ⟨hcz30_0,hcz30_1⟩ := cO2 BK462.out
    have hfz30_0 := blk_frozen BK462.out 0
    have hfz30_1 := blk_frozen BK462.out 1
    go_wp2_with (first | ((with_reducible refine gate_callee (f := 101) rfl ?_);refine goesL_ (some 36) rfl rfl Tryz.func101 (by kernel_rfl) rfl #[.int .i64 (l0_0.length : Int),.int .i64 1,.int .i64 12] rfl (by (try simp only [List.map_toArray,List.map_cons,List.map_nil]);first | done | rfl | (simp only [List.length_drop,List.length_take];rfl)) ?_;(with_reducible refine (q3_in.calls (l0_0.length : Int) 1 12 true _ A27.out).mono ?_);rintro e w' ⟨rfl,⟨nd,rfl⟩⟩;refine ⟨_,rfl,?_⟩) | (go_at_call 101;(with_reducible refine (q3_in.calls a0_1 0 100 t464 _ A29.out).mono ?_);rintro e w' ⟨rfl,⟨nd,rfl⟩⟩))
    go_ret
    exact ⟨by first | rfl | (simp [*] <;> rfl),pw_below_drewN HB.out _⟩
   rw [if_pos c3] at H
   have c3b0 : decide (x3_1 < (l0_0.length : Int)) = true := decide_eq_true c3
   clear c3
   by_cases c4 : 0 ≤ x3_1
   case neg =>
    rw [if_neg c4] at H
    exact absurd H (by simp)
   rw [if_pos c4] at H
   have c4b0 : decide (0 ≤ x3_1) = true := decide_eq_true c4
   clear c4
   replace H := obm H
   obtain ⟨t467,A50,H⟩ := H
   replace H : (if t467 = true then ((q3_in.f ((rd_T126 l0_0 x3_1).f1) 1 60).bind fun t468 => (if t468 = true then ((q3_in.f ((rd_T126 l0_0 x3_1).f2) 1 1000).bind fun t469 => (if t469 = true then (q3_Table.l0 k1 (wrap64 (x3_1 + 1)) l0_0 a0_1) else (some false))) else (some false))) else (some false)) = some r := H
   have A5 := am A50
   clear A50
   by_cases c6 : t467 = true
   case neg =>
    replace c6 := Bool.eq_false_iff.mpr c6
    subst c6
    replace H : (some false) = some r := by rw [if_neg (show ¬ (false = true) by decide)] at H;exact H
    obtain rfl := Option.some.inj H
    obtain ⟨hcz23_0,hcz23_1⟩ := cO2 BK462.out
    have hfz23_0 := blk_frozen BK462.out 0
    have hfz23_1 := blk_frozen BK462.out 1
    have p465 : 0 ≤ (x3_1 : Int) := of_decide_eq_true (by assumption)
    have q465 : x3_1 < (l0_0.length : Int) := of_decide_eq_true (by assumption)
    obtain ⟨ad465,e465,hx465_0,hx465_1,hx465_2⟩ := at_T126 HR0_0.out x3_1 p465 q465
    cases e465
    replace hx465_0 := (HB.out.cell (wbl hx465_0)).trans hx465_0
    replace hx465_1 := (HB.out.cell (wbl hx465_1)).trans hx465_1
    replace hx465_2 := (HB.out.cell (wbl hx465_2)).trans hx465_2
    replace p465 := eq_true p465
    replace q465 := eq_true q465
    go_wp2_with (first | ((refine gate_dst (N := 4) rfl ?_);refine box_event rfl (N := 4) rfl (cs := #[.int .i64 0,.int .i64 0,.int .i64 0]) (t := 126) ?hr ?_;(case hr => go_simp;try rfl);intro gb466 hg w24 hbox hb;have BK466 := am (hbox);have GW466 := am (ge_new (HB.out) hg);have GE466 := am (ge_new (HB.out) hg);have NB462_466 := am ((by rw [hg];exact Nat.ne_of_lt (blk_lt (g := gb462) (o := .cells #[.slice (some ad465) l0_0.length c0_0,.int .i64 a0_1] 24 (0,0)) (by (with_reducible repeat (first | refine blk_drewN ?_ _ | refine blk_drew ?_ | refine blk_alloc ?_ _));exact BK462.out)) : gb462 ≠ gb466));have NB466_462 := am ((by rw [hg];exact Nat.ne_of_gt (blk_lt (g := gb462) (o := .cells #[.slice (some ad465) l0_0.length c0_0,.int .i64 a0_1] 24 (0,0)) (by (with_reducible repeat (first | refine blk_drewN ?_ _ | refine blk_drew ?_ | refine blk_alloc ?_ _));exact BK462.out)) : gb466 ≠ gb462));replace BK462 := am (blk_below (g := gb462) (o := .cells #[.slice (some ad465) l0_0.length c0_0,.int .i64 a0_1] 24 (0,0)) (by (with_reducible repeat (first | refine blk_drewN ?_ _ | refine blk_drew ?_ | refine blk_alloc ?_ _));exact BK462.out) hb);replace HB := am (below_step (HB.out) hb);clear hb hbox hg;have hnb25 := NB466_462.out;have hnc25 := NB462_466.out;obtain ⟨hcz26_0,hcz26_1,hcz26_2⟩ := cO3 BK466.out;have hfz26_0 := blk_frozen BK466.out 0;have hfz26_1 := blk_frozen BK466.out 1;have hfz26_2 := blk_frozen BK466.out 2) | ((with_reducible refine gate_callee (f := 101) rfl ?_);refine goesL_ (some 19) rfl rfl Tryz.func101 (by kernel_rfl) rfl #[.int .i64 ((rd_T126 l0_0 x3_1).f0),.int .i64 1,.int .i64 60] rfl (by (try simp only [List.map_toArray,List.map_cons,List.map_nil]);first | done | rfl | (simp only [List.length_drop,List.length_take];rfl)) ?_;(with_reducible refine (q3_in.calls ((rd_T126 l0_0 x3_1).f0) 1 60 false _ A5.out).mono ?_);rintro e w' ⟨rfl,⟨nd,rfl⟩⟩;refine ⟨_,rfl,?_⟩))
    go_ret
    exact ⟨by first | rfl | (simp [*] <;> rfl),by repeat (first | (with_reducible first | exact HB.out | refine below_set ?_ (Aside0.out (by assumption)) | apply below_alloc | apply pw_below_drewN) | exact HB.out)⟩
   subst c6
   replace H : ((q3_in.f ((rd_T126 l0_0 x3_1).f1) 1 60).bind fun t468 => (if t468 = true then ((q3_in.f ((rd_T126 l0_0 x3_1).f2) 1 1000).bind fun t469 => (if t469 = true then (q3_Table.l0 k1 (wrap64 (x3_1 + 1)) l0_0 a0_1) else (some false))) else (some false))) = some r := by rw [if_pos rfl] at H;exact H
   replace H := obm H
   obtain ⟨t468,A70,H⟩ := H
   replace H : (if t468 = true then ((q3_in.f ((rd_T126 l0_0 x3_1).f2) 1 1000).bind fun t469 => (if t469 = true then (q3_Table.l0 k1 (wrap64 (x3_1 + 1)) l0_0 a0_1) else (some false))) else (some false)) = some r := H
   have A7 := am A70
   clear A70
   by_cases c8 : t468 = true
   case neg =>
    replace c8 := Bool.eq_false_iff.mpr c8
    subst c8
    replace H : (some false) = some r := by rw [if_neg (show ¬ (false = true) by decide)] at H;exact H
    obtain rfl := Option.some.inj H
    obtain ⟨hcz19_0,hcz19_1⟩ := cO2 BK462.out
    have hfz19_0 := blk_frozen BK462.out 0
    have hfz19_1 := blk_frozen BK462.out 1
    have p465 : 0 ≤ (x3_1 : Int) := of_decide_eq_true (by assumption)
    have q465 : x3_1 < (l0_0.length : Int) := of_decide_eq_true (by assumption)
    obtain ⟨ad465,e465,hx465_0,hx465_1,hx465_2⟩ := at_T126 HR0_0.out x3_1 p465 q465
    cases e465
    replace hx465_0 := (HB.out.cell (wbl hx465_0)).trans hx465_0
    replace hx465_1 := (HB.out.cell (wbl hx465_1)).trans hx465_1
    replace hx465_2 := (HB.out.cell (wbl hx465_2)).trans hx465_2
    replace p465 := eq_true p465
    replace q465 := eq_true q465
    go_wp2_with (first | ((refine gate_dst (N := 4) rfl ?_);refine box_event rfl (N := 4) rfl (cs := #[.int .i64 0,.int .i64 0,.int .i64 0]) (t := 126) ?hr ?_;(case hr => go_simp;try rfl);intro gb466 hg w20 hbox hb;have BK466 := am (hbox);have GW466 := am (ge_new (HB.out) hg);have GE466 := am (ge_new (HB.out) hg);have NB462_466 := am ((by rw [hg];exact Nat.ne_of_lt (blk_lt (g := gb462) (o := .cells #[.slice (some ad465) l0_0.length c0_0,.int .i64 a0_1] 24 (0,0)) (by (with_reducible repeat (first | refine blk_drewN ?_ _ | refine blk_drew ?_ | refine blk_alloc ?_ _));exact BK462.out)) : gb462 ≠ gb466));have NB466_462 := am ((by rw [hg];exact Nat.ne_of_gt (blk_lt (g := gb462) (o := .cells #[.slice (some ad465) l0_0.length c0_0,.int .i64 a0_1] 24 (0,0)) (by (with_reducible repeat (first | refine blk_drewN ?_ _ | refine blk_drew ?_ | refine blk_alloc ?_ _));exact BK462.out)) : gb466 ≠ gb462));replace BK462 := am (blk_below (g := gb462) (o := .cells #[.slice (some ad465) l0_0.length c0_0,.int .i64 a0_1] 24 (0,0)) (by (with_reducible repeat (first | refine blk_drewN ?_ _ | refine blk_drew ?_ | refine blk_alloc ?_ _));exact BK462.out) hb);replace HB := am (below_step (HB.out) hb);clear hb hbox hg;have hnb21 := NB466_462.out;have hnc21 := NB462_466.out;obtain ⟨hcz22_0,hcz22_1,hcz22_2⟩ := cO3 BK466.out;have hfz22_0 := blk_frozen BK466.out 0;have hfz22_1 := blk_frozen BK466.out 1;have hfz22_2 := blk_frozen BK466.out 2) | ((with_reducible refine gate_callee (f := 101) rfl ?_);refine goesL_ (some 19) rfl rfl Tryz.func101 (by kernel_rfl) rfl #[.int .i64 ((rd_T126 l0_0 x3_1).f0),.int .i64 1,.int .i64 60] rfl (by (try simp only [List.map_toArray,List.map_cons,List.map_nil]);first | done | rfl | (simp only [List.length_drop,List.length_take];rfl)) ?_;(with_reducible refine (q3_in.calls ((rd_T126 l0_0 x3_1).f0) 1 60 true _ A5.out).mono ?_);rintro e w' ⟨rfl,⟨nd,rfl⟩⟩;refine ⟨_,rfl,?_⟩) | (go_at_call 101;(with_reducible refine (q3_in.calls ((rd_T126 l0_0 x3_1).f1) 1 60 false _ A7.out).mono ?_);rintro e w' ⟨rfl,⟨nd,rfl⟩⟩))
    go_ret
    exact ⟨by first | rfl | (simp [*] <;> rfl),by repeat (first | (with_reducible first | exact HB.out | refine below_set ?_ (Aside0.out (by assumption)) | apply below_alloc | apply pw_below_drewN) | exact HB.out)⟩
   subst c8
   replace H : ((q3_in.f ((rd_T126 l0_0 x3_1).f2) 1 1000).bind fun t469 => (if t469 = true then (q3_Table.l0 k1 (wrap64 (x3_1 + 1)) l0_0 a0_1) else (some false))) = some r := by rw [if_pos rfl] at H;exact H
   replace H := obm H
   obtain ⟨t469,A90,H⟩ := H
   replace H : (if t469 = true then (q3_Table.l0 k1 (wrap64 (x3_1 + 1)) l0_0 a0_1) else (some false)) = some r := H
   have A9 := am A90
   clear A90
   by_cases c10 : t469 = true
   · subst c10
     replace H : (q3_Table.l0 k1 (wrap64 (x3_1 + 1)) l0_0 a0_1) = some r := by rw [if_pos rfl] at H;exact H
     replace H' := am H
     obtain ⟨hcz11_0,hcz11_1⟩ := cO2 BK462.out
     have hfz11_0 := blk_frozen BK462.out 0
     have hfz11_1 := blk_frozen BK462.out 1
     have p465 : 0 ≤ (x3_1 : Int) := of_decide_eq_true (by assumption)
     have q465 : x3_1 < (l0_0.length : Int) := of_decide_eq_true (by assumption)
     obtain ⟨ad465,e465,hx465_0,hx465_1,hx465_2⟩ := at_T126 HR0_0.out x3_1 p465 q465
     cases e465
     replace hx465_0 := (HB.out.cell (wbl hx465_0)).trans hx465_0
     replace hx465_1 := (HB.out.cell (wbl hx465_1)).trans hx465_1
     replace hx465_2 := (HB.out.cell (wbl hx465_2)).trans hx465_2
     replace p465 := eq_true p465
     replace q465 := eq_true q465
     go_wp2_with (first | ((refine gate_dst (N := 4) rfl ?_);refine box_event rfl (N := 4) rfl (cs := #[.int .i64 0,.int .i64 0,.int .i64 0]) (t := 126) ?hr ?_;(case hr => go_simp;try rfl);intro gb466 hg w12 hbox hb;have BK466 := am (hbox);have GW466 := am (ge_new (HB.out) hg);have GE466 := am (ge_new (HB.out) hg);have NB462_466 := am ((by rw [hg];exact Nat.ne_of_lt (blk_lt (g := gb462) (o := .cells #[.slice (some ad465) l0_0.length c0_0,.int .i64 a0_1] 24 (0,0)) (by (with_reducible repeat (first | refine blk_drewN ?_ _ | refine blk_drew ?_ | refine blk_alloc ?_ _));exact BK462.out)) : gb462 ≠ gb466));have NB466_462 := am ((by rw [hg];exact Nat.ne_of_gt (blk_lt (g := gb462) (o := .cells #[.slice (some ad465) l0_0.length c0_0,.int .i64 a0_1] 24 (0,0)) (by (with_reducible repeat (first | refine blk_drewN ?_ _ | refine blk_drew ?_ | refine blk_alloc ?_ _));exact BK462.out)) : gb466 ≠ gb462));replace BK462 := am (blk_below (g := gb462) (o := .cells #[.slice (some ad465) l0_0.length c0_0,.int .i64 a0_1] 24 (0,0)) (by (with_reducible repeat (first | refine blk_drewN ?_ _ | refine blk_drew ?_ | refine blk_alloc ?_ _));exact BK462.out) hb);replace HB := am (below_step (HB.out) hb);clear hb hbox hg;have hnb13 := NB466_462.out;have hnc13 := NB462_466.out;obtain ⟨hcz14_0,hcz14_1,hcz14_2⟩ := cO3 BK466.out;have hfz14_0 := blk_frozen BK466.out 0;have hfz14_1 := blk_frozen BK466.out 1;have hfz14_2 := blk_frozen BK466.out 2) | ((with_reducible refine gate_callee (f := 101) rfl ?_);refine goesL_ (some 19) rfl rfl Tryz.func101 (by kernel_rfl) rfl #[.int .i64 ((rd_T126 l0_0 x3_1).f0),.int .i64 1,.int .i64 60] rfl (by (try simp only [List.map_toArray,List.map_cons,List.map_nil]);first | done | rfl | (simp only [List.length_drop,List.length_take];rfl)) ?_;(with_reducible refine (q3_in.calls ((rd_T126 l0_0 x3_1).f0) 1 60 true _ A5.out).mono ?_);rintro e w' ⟨rfl,⟨nd,rfl⟩⟩;refine ⟨_,rfl,?_⟩) | (go_at_call 101;(with_reducible refine (q3_in.calls ((rd_T126 l0_0 x3_1).f1) 1 60 true _ A7.out).mono ?_);rintro e w' ⟨rfl,⟨nd,rfl⟩⟩) | (go_at_call 101;(with_reducible refine (q3_in.calls ((rd_T126 l0_0 x3_1).f2) 1 1000 true _ A9.out).mono ?_);rintro e w' ⟨rfl,⟨nd,rfl⟩⟩))
     go_roundg k1
     case measure => have := HK1.out;omega
     case rel => exact ⟨(wrap64 (x3_1 + 1)),(by first | rfl | (simp;done) | (simp [*];done)),H',⟨by have := HK1.out;omega⟩,⟨by (with_reducible repeat (first | refine blk_drewN ?_ _ | refine blk_drew ?_ | refine blk_alloc ?_ _));refine blk_far ?_ NB462_466.out _;(with_reducible repeat (first | refine blk_drewN ?_ _ | refine blk_drew ?_ | refine blk_alloc ?_ _));refine blk_far ?_ NB462_466.out _;(with_reducible repeat (first | refine blk_drewN ?_ _ | refine blk_drew ?_ | refine blk_alloc ?_ _));refine blk_far ?_ NB462_466.out _;(with_reducible repeat (first | refine blk_drewN ?_ _ | refine blk_drew ?_ | refine blk_alloc ?_ _));exact BK462.out⟩,⟨by repeat (first | (with_reducible first | exact HB.out | refine below_set ?_ (Aside0.out (by assumption)) | apply below_alloc | apply pw_below_drewN) | exact HB.out)⟩⟩
   · replace c10 := Bool.eq_false_iff.mpr c10
     subst c10
     replace H : (some false) = some r := by rw [if_neg (show ¬ (false = true) by decide)] at H;exact H
     obtain rfl := Option.some.inj H
     obtain ⟨hcz15_0,hcz15_1⟩ := cO2 BK462.out
     have hfz15_0 := blk_frozen BK462.out 0
     have hfz15_1 := blk_frozen BK462.out 1
     have p465 : 0 ≤ (x3_1 : Int) := of_decide_eq_true (by assumption)
     have q465 : x3_1 < (l0_0.length : Int) := of_decide_eq_true (by assumption)
     obtain ⟨ad465,e465,hx465_0,hx465_1,hx465_2⟩ := at_T126 HR0_0.out x3_1 p465 q465
     cases e465
     replace hx465_0 := (HB.out.cell (wbl hx465_0)).trans hx465_0
     replace hx465_1 := (HB.out.cell (wbl hx465_1)).trans hx465_1
     replace hx465_2 := (HB.out.cell (wbl hx465_2)).trans hx465_2
     replace p465 := eq_true p465
     replace q465 := eq_true q465
     go_wp2_with (first | ((refine gate_dst (N := 4) rfl ?_);refine box_event rfl (N := 4) rfl (cs := #[.int .i64 0,.int .i64 0,.int .i64 0]) (t := 126) ?hr ?_;(case hr => go_simp;try rfl);intro gb466 hg w16 hbox hb;have BK466 := am (hbox);have GW466 := am (ge_new (HB.out) hg);have GE466 := am (ge_new (HB.out) hg);have NB462_466 := am ((by rw [hg];exact Nat.ne_of_lt (blk_lt (g := gb462) (o := .cells #[.slice (some ad465) l0_0.length c0_0,.int .i64 a0_1] 24 (0,0)) (by (with_reducible repeat (first | refine blk_drewN ?_ _ | refine blk_drew ?_ | refine blk_alloc ?_ _));exact BK462.out)) : gb462 ≠ gb466));have NB466_462 := am ((by rw [hg];exact Nat.ne_of_gt (blk_lt (g := gb462) (o := .cells #[.slice (some ad465) l0_0.length c0_0,.int .i64 a0_1] 24 (0,0)) (by (with_reducible repeat (first | refine blk_drewN ?_ _ | refine blk_drew ?_ | refine blk_alloc ?_ _));exact BK462.out)) : gb466 ≠ gb462));replace BK462 := am (blk_below (g := gb462) (o := .cells #[.slice (some ad465) l0_0.length c0_0,.int .i64 a0_1] 24 (0,0)) (by (with_reducible repeat (first | refine blk_drewN ?_ _ | refine blk_drew ?_ | refine blk_alloc ?_ _));exact BK462.out) hb);replace HB := am (below_step (HB.out) hb);clear hb hbox hg;have hnb17 := NB466_462.out;have hnc17 := NB462_466.out;obtain ⟨hcz18_0,hcz18_1,hcz18_2⟩ := cO3 BK466.out;have hfz18_0 := blk_frozen BK466.out 0;have hfz18_1 := blk_frozen BK466.out 1;have hfz18_2 := blk_frozen BK466.out 2) | ((with_reducible refine gate_callee (f := 101) rfl ?_);refine goesL_ (some 19) rfl rfl Tryz.func101 (by kernel_rfl) rfl #[.int .i64 ((rd_T126 l0_0 x3_1).f0),.int .i64 1,.int .i64 60] rfl (by (try simp only [List.map_toArray,List.map_cons,List.map_nil]);first | done | rfl | (simp only [List.length_drop,List.length_take];rfl)) ?_;(with_reducible refine (q3_in.calls ((rd_T126 l0_0 x3_1).f0) 1 60 true _ A5.out).mono ?_);rintro e w' ⟨rfl,⟨nd,rfl⟩⟩;refine ⟨_,rfl,?_⟩) | (go_at_call 101;(with_reducible refine (q3_in.calls ((rd_T126 l0_0 x3_1).f1) 1 60 true _ A7.out).mono ?_);rintro e w' ⟨rfl,⟨nd,rfl⟩⟩) | (go_at_call 101;(with_reducible refine (q3_in.calls ((rd_T126 l0_0 x3_1).f2) 1 1000 false _ A9.out).mono ?_);rintro e w' ⟨rfl,⟨nd,rfl⟩⟩))
     go_ret
     exact ⟨by first | rfl | (simp [*] <;> rfl),by repeat (first | (with_reducible first | exact HB.out | refine below_set ?_ (Aside0.out (by assumption)) | apply below_alloc | apply pw_below_drewN) | exact HB.out)⟩
end
end Go.Proofs.YticlelgmmonloaaGreatDoor.C

/- A part of the proof: the walks of the functions that it reaches. TIGHT. -/
import Derived.Test.YtnnmnhpeblhiiaaGreatDoorMR14
set_option linter.unusedVariables false
set_option linter.unusedSimpArgs false
namespace Go.Proofs.YtnnmnhpeblhiiaaGreatDoor.C
open Go.RowKit Go.Proofs.YtnnmnhpeblhiiaaGreatDoorW.PrintWords Go.Proofs.YtnnmnhpeblhiiaaGreatDoorW.PrintLast Go.Proofs.YtnnmnhpeblhiiaaGreatDoorW.PrintMore
set_option linter.unusedVariables false
set_option linter.unusedSimpArgs false
set_option maxHeartbeats 16000000
set_option maxRecDepth 100000
def isSpan_isFlow.f (a0_0 a0_1 : Int) : Option Bool := (ca_isFlow.f a0_0).bind fun t => if t = true then (ca_isFlow.f a0_1).bind fun u => (if u = true then some (decide (a0_0 ≤ a0_1)) else some false) else some false
theorem isSpan_isFlow.calls (a0_0 a0_1 : Int) (r : Bool) (w : World) (h : isSpan_isFlow.f a0_0 a0_1 = some r) :
 Calls Tryz.prog 76 #[.agg #[.int .i64 a0_0,.int .i64 a0_1],.func (.func 67) #[] #[]] w fun e w' => e = .returned (.bool r) ∧ Below w.heap.size w w' := by
 have hu := Tryz.underlying54
 have HB := Aside0.mk (Below.refl w.heap.size w)
 unfold isSpan_isFlow.f at h
 obtain ⟨t,ht,h⟩ := obm h
 have H1 := Aside0.mk ht
 clear ht
 cases t with
 | false =>
  rw [if_neg (by decide)] at h
  obtain rfl := Option.some.inj h
  clear h
  go_enter Tryz.func76,Tryz.ntmps76
  go_wp2_with (first | ((with_reducible refine gate_dst (N := 2) rfl ?_);(try (refine gate_guard (by rfl) ?_;dsimp only));refine box_event ?hg (N := 2) ?hd (cs := #[.int .i64 a0_0,.int .i64 a0_1]) (t := 54) ?hr ?_;(case hd => rfl);(case hg => rfl);(case hr => go_simp;try rfl);intro g hg w2 hbox hb;have n_ := Aside0.mk (below_then HB.out HB.out.size hb);clear HB;have HB := n_;clear n_;clear hg;have BKg := Aside0.mk hbox;clear hbox;have hczg_0 : w2.cell? ⟨g,0,none⟩ = some (.int .i64 a0_0) := (blk_cell BKg.out 0).trans rfl;have hfzg_0 := blk_frozen BKg.out 0;have hczg_1 : w2.cell? ⟨g,1,none⟩ = some (.int .i64 a0_1) := (blk_cell BKg.out 1).trans rfl;have hfzg_1 := blk_frozen BKg.out 1;clear hb) | (go_at_call 67;(with_reducible refine (ca_isFlow.calls a0_0 false _ H1.out).mono ?_);rintro e w1 ⟨rfl,hd⟩;have hb := hd.below;clear hd;have n_ := Aside0.mk (below_then HB.out HB.out.size hb);clear HB;have HB := n_;clear n_;have n_ := Aside0.mk (blk_below BKg.out hb);clear BKg;have BKg := n_;clear n_;have hczg_0 : w1.cell? ⟨g,0,none⟩ = some (.int .i64 a0_0) := (blk_cell BKg.out 0).trans rfl;have hfzg_0 := blk_frozen BKg.out 0;have hczg_1 : w1.cell? ⟨g,1,none⟩ = some (.int .i64 a0_1) := (blk_cell BKg.out 1).trans rfl;have hfzg_1 := blk_frozen BKg.out 1;clear hb))
  go_ret
  exact ⟨rfl,HB.out⟩
 | true =>
  rw [if_pos rfl] at h
  obtain ⟨u,hu2,h⟩ := obm h
  have H2 := Aside0.mk hu2
  clear hu2
  cases u with
  | false =>
   rw [if_neg (by decide)] at h
   obtain rfl := Option.some.inj h
   clear h
   go_enter Tryz.func76,Tryz.ntmps76
   go_wp2_with (first | ((with_reducible refine gate_dst (N := 2) rfl ?_);(try (refine gate_guard (by rfl) ?_;dsimp only));refine box_event ?hg (N := 2) ?hd (cs := #[.int .i64 a0_0,.int .i64 a0_1]) (t := 54) ?hr ?_;(case hd => rfl);(case hg => rfl);(case hr => go_simp;try rfl);intro g hg w2 hbox hb;have n_ := Aside0.mk (below_then HB.out HB.out.size hb);clear HB;have HB := n_;clear n_;clear hg;have BKg := Aside0.mk hbox;clear hbox;have hczg_0 : w2.cell? ⟨g,0,none⟩ = some (.int .i64 a0_0) := (blk_cell BKg.out 0).trans rfl;have hfzg_0 := blk_frozen BKg.out 0;have hczg_1 : w2.cell? ⟨g,1,none⟩ = some (.int .i64 a0_1) := (blk_cell BKg.out 1).trans rfl;have hfzg_1 := blk_frozen BKg.out 1;clear hb) | (go_at_call 67;(with_reducible refine (ca_isFlow.calls a0_0 true _ H1.out).mono ?_);rintro e w1 ⟨rfl,hd⟩;have hb := hd.below;clear hd;have n_ := Aside0.mk (below_then HB.out HB.out.size hb);clear HB;have HB := n_;clear n_;have n_ := Aside0.mk (blk_below BKg.out hb);clear BKg;have BKg := n_;clear n_;have hczg_0 : w1.cell? ⟨g,0,none⟩ = some (.int .i64 a0_0) := (blk_cell BKg.out 0).trans rfl;have hfzg_0 := blk_frozen BKg.out 0;have hczg_1 : w1.cell? ⟨g,1,none⟩ = some (.int .i64 a0_1) := (blk_cell BKg.out 1).trans rfl;have hfzg_1 := blk_frozen BKg.out 1;clear hb) | (go_at_call 67;(with_reducible refine (ca_isFlow.calls a0_1 false _ H2.out).mono ?_);rintro e w1 ⟨rfl,hd⟩;have hb := hd.below;clear hd;have n_ := Aside0.mk (below_then HB.out HB.out.size hb);clear HB;have HB := n_;clear n_;have n_ := Aside0.mk (blk_below BKg.out hb);clear BKg;have BKg := n_;clear n_;have hczg_0 : w1.cell? ⟨g,0,none⟩ = some (.int .i64 a0_0) := (blk_cell BKg.out 0).trans rfl;have hfzg_0 := blk_frozen BKg.out 0;have hczg_1 : w1.cell? ⟨g,1,none⟩ = some (.int .i64 a0_1) := (blk_cell BKg.out 1).trans rfl;have hfzg_1 := blk_frozen BKg.out 1;clear hb))
   go_ret
   exact ⟨rfl,HB.out⟩
  | true =>
   rw [if_pos rfl] at h
   have H3 := Aside0.mk (ret_bool_eq (Option.some.inj h))
   clear h
   go_enter Tryz.func76,Tryz.ntmps76
   go_wp2_with (first | ((with_reducible refine gate_dst (N := 2) rfl ?_);(try (refine gate_guard (by rfl) ?_;dsimp only));refine box_event ?hg (N := 2) ?hd (cs := #[.int .i64 a0_0,.int .i64 a0_1]) (t := 54) ?hr ?_;(case hd => rfl);(case hg => rfl);(case hr => go_simp;try rfl);intro g hg w2 hbox hb;have n_ := Aside0.mk (below_then HB.out HB.out.size hb);clear HB;have HB := n_;clear n_;clear hg;have BKg := Aside0.mk hbox;clear hbox;have hczg_0 : w2.cell? ⟨g,0,none⟩ = some (.int .i64 a0_0) := (blk_cell BKg.out 0).trans rfl;have hfzg_0 := blk_frozen BKg.out 0;have hczg_1 : w2.cell? ⟨g,1,none⟩ = some (.int .i64 a0_1) := (blk_cell BKg.out 1).trans rfl;have hfzg_1 := blk_frozen BKg.out 1;clear hb) | (go_at_call 67;(with_reducible refine (ca_isFlow.calls a0_0 true _ H1.out).mono ?_);rintro e w1 ⟨rfl,hd⟩;have hb := hd.below;clear hd;have n_ := Aside0.mk (below_then HB.out HB.out.size hb);clear HB;have HB := n_;clear n_;have n_ := Aside0.mk (blk_below BKg.out hb);clear BKg;have BKg := n_;clear n_;have hczg_0 : w1.cell? ⟨g,0,none⟩ = some (.int .i64 a0_0) := (blk_cell BKg.out 0).trans rfl;have hfzg_0 := blk_frozen BKg.out 0;have hczg_1 : w1.cell? ⟨g,1,none⟩ = some (.int .i64 a0_1) := (blk_cell BKg.out 1).trans rfl;have hfzg_1 := blk_frozen BKg.out 1;clear hb) | (go_at_call 67;(with_reducible refine (ca_isFlow.calls a0_1 true _ H2.out).mono ?_);rintro e w1 ⟨rfl,hd⟩;have hb := hd.below;clear hd;have n_ := Aside0.mk (below_then HB.out HB.out.size hb);clear HB;have HB := n_;clear n_;have n_ := Aside0.mk (blk_below BKg.out hb);clear BKg;have BKg := n_;clear n_;have hczg_0 : w1.cell? ⟨g,0,none⟩ = some (.int .i64 a0_0) := (blk_cell BKg.out 0).trans rfl;have hfzg_0 := blk_frozen BKg.out 0;have hczg_1 : w1.cell? ⟨g,1,none⟩ = some (.int .i64 a0_1) := (blk_cell BKg.out 1).trans rfl;have hfzg_1 := blk_frozen BKg.out 1;clear hb))
   go_ret
   exact ⟨H3.out,HB.out⟩
section
attribute [local go_sem] max2_int min2_int max_two min_two
mutual
def ca_Bounds.j0 : Nat → Bool → List (S126) → Int → List (S48) → Int → Int → Int → Int → Option ((List (S54)) × Int × Int × Int)
 | 0,_,_,_,_,_,_,_,_ => none
 | k + 1,x21,x273000,x273001,x273002,x273003,x273004,x274000,x274001 => if x21 = true then (some (([] : List (S54)),0,0,2)) else ((ca_fill.f k x273000 x273001 x273002 x273003 x273004).bind fun bt289 => ((gf_shares.f k x273000 bt289.1 x273002 bt289.2.1 bt289.2.2.1 bt289.2.2.2 x274000).bind fun bt296 => ((gf_shares.f k x273000 bt289.1 x273002 bt289.2.1 bt289.2.2.1 bt289.2.2.2 x274001).bind fun bt300 => (ca_Bounds.l0 k bt296.1 bt296.2 bt300.1 bt300.2 ([] : List (S54)) (bt296.1.length : Int) 0))))
def ca_Bounds.l0 : Nat → List Int → Int → List Int → Int → List (S54) → Int → Int → Option ((List (S54)) × Int × Int × Int)
 | 0,_,_,_,_,_,_,_ => none
 | k + 1,x8,x9,x10,x11,x12,x40,x41 => if x41 < x40 then (if 0 ≤ x41 then (if x41 < (x8.length : Int) then (if x41 < (x10.length : Int) then (if x12.length < 8796093022208 then (ca_Bounds.l0 k x8 x9 x10 x11 (x12 ++ [(⟨rd x8 x41,rd x10 x41⟩ : S54)]) x40 (wrap64 (x41 + 1))) else (none)) else (none)) else (none)) else (none)) else (some (x12,x9,x11,0))
end
def ca_Bounds.f (k : Nat) (l0_0 : List (S126)) (a0_1 : Int) (l0_2 : List (S48)) (a0_3 : Int) (a0_4 : Int) (a1_0 : Int) (a1_1 : Int) : Option ((List (S54)) × Int × Int × Int) := (ca_isBasin.f l0_0 a0_1 l0_2 a0_3 a0_4).bind fun t275 => (if t275 = true then ((isSpan_isFlow.f a1_0 a1_1).bind fun t276 => (ca_Bounds.j0 k (!t276) l0_0 a0_1 l0_2 a0_3 a0_4 a1_0 a1_1)) else (ca_Bounds.j0 k true l0_0 a0_1 l0_2 a0_3 a0_4 a1_0 a1_1))
def ca_Bounds.T10 : Bool × List (List Nat × List Nat) := (true,[([],[]),([],[]),([],[]),([1,2],[1,2]),([3],[3]),([],[]),([],[]),([5,6],[5,6]),([7],[7]),([4,8],[4,8]),([9],[9]),([0,10],[0,10]),([11,11,0,1,2,3,4,5,6,7,8,9,10,11],[0,11])])
def ca_Bounds.B10 : List Nat := [0,0,0,6,14,0,0,96,224,510,1022,2047,4095]
theorem ca_Bounds.tab10 : rtab .any (opsOf Tryz.f40 10) = ca_Bounds.T10 := by kernel_rfl
theorem ca_Bounds.bits10 : waitsOk ca_Bounds.T10.2 ca_Bounds.B10 = true := by kernel_rfl
theorem ca_Bounds.calls (k : Nat) (A0_0 : Option Addr) (c0_0 : Nat) (l0_0 : List (S126)) (a0_1 : Int) (A0_2 : Option Addr) (c0_2 : Nat) (l0_2 : List (S48)) (a0_3 : Int) (a0_4 : Int) (a1_0 : Int) (a1_1 : Int) (r1 : List (S54)) (r2 : Int) (r3 : Int) (r4 : Int) (w : World) (hr0_0 : Kd.C k126 w A0_0 l0_0.length l0_0) (hc0_0 : l0_0.length ≤ c0_0) (hr0_2 : Kd.C k48 w A0_2 l0_2.length l0_2) (hc0_2 : l0_2.length ≤ c0_2) (h : ca_Bounds.f k l0_0 a0_1 l0_2 a0_3 a0_4 a1_0 a1_1 = some (r1,r2,r3,r4)) :
 Calls Tryz.prog 40 #[.agg #[.slice A0_0 l0_0.length c0_0,.int .i64 a0_1,.slice A0_2 l0_2.length c0_2,.int .i64 a0_3,.int .i64 a0_4],.agg #[.int .i64 a1_0,.int .i64 a1_1]] w fun e w' => ∃ v0_ : Value,e = .returned (.tuple #[v0_,.agg #[.int .i64 r2,.int .i64 r3],.int .i64 r4]) ∧ Kd.R k54 54 w' w.heap.size (fun _ => True) v0_ r1 ∧ Below w.heap.size w w' := by
 have hu27 := Tryz.underlying27
 have hu54 := Tryz.underlying54
 have hu110 := Tryz.underlying110
 have HR0_0 := am hr0_0
 have HC0_0 := am hc0_0
 clear hr0_0 hc0_0
 have HR0_2 := am hr0_2
 have HC0_2 := am hc0_2
 clear hr0_2 hc0_2
 have HB := am (Below.refl w.heap.size w)
 have H : ((ca_isBasin.f l0_0 a0_1 l0_2 a0_3 a0_4).bind fun t275 => (if t275 = true then ((isSpan_isFlow.f a1_0 a1_1).bind fun t276 => (ca_Bounds.j0 k (!t276) l0_0 a0_1 l0_2 a0_3 a0_4 a1_0 a1_1)) else (ca_Bounds.j0 k true l0_0 a0_1 l0_2 a0_3 a0_4 a1_0 a1_1))) = some (r1,r2,r3,r4) := h
 clear h
 have HC3 := am H
 clear H
 go_enter Tryz.func40,Tryz.ntmps40
 go_upto_region 1 with (first | ((refine gate_dst (N := 2) rfl ?_);refine box_event rfl (N := 2) rfl (cs := #[.slice A0_0 l0_0.length c0_0,.int .i64 a0_1,.slice A0_2 l0_2.length c0_2,.int .i64 a0_3,.int .i64 a0_4]) (t := 27) ?hr ?_;(case hr => go_simp;try rfl);intro gb272 hg w4 hbox hb;have BK272 := am (hbox);have GW272 := am (ge_new (HB.out) hg);have GE272 := am (ge_new (HB.out) hg);replace HB := am (below_step (HB.out) hb);clear hb hbox hg) | ((refine gate_dst (N := 3) rfl ?_);refine box_event rfl (N := 3) rfl (cs := #[.int .i64 a1_0,.int .i64 a1_1]) (t := 54) ?hr ?_;(case hr => go_simp;try rfl);intro gb273 hg w5 hbox hb;have BK273 := am (hbox);have GW273 := am (ge_new (HB.out) hg);have GE273 := am (ge_new (HB.out) hg);have NB272_273 := am (ne_new BK272.out hg);have NB273_272 := am (ne_new2 BK272.out hg);replace BK272 := (kmv hb BK272);replace HB := am (below_step (HB.out) hb);clear hb hbox hg) | ((refine gate_dst (N := 5) rfl ?_);refine box_event rfl (N := 5) rfl (cs := #[.int .i64 0,.int .i64 0]) (t := 54) ?hr ?_;(case hr => go_simp;try rfl);intro gb274 hg w6 hbox hb;have BK274 := am (hbox);have GW274 := am (ge_new (HB.out) hg);have GE274 := am (ge_new (HB.out) hg);have NB272_274 := am (ne_new BK272.out hg);have NB274_272 := am (ne_new2 BK272.out hg);have NB273_274 := am (ne_new BK273.out hg);have NB274_273 := am (ne_new2 BK273.out hg);replace BK272 := (kmv hb BK272);replace BK273 := (kmv hb BK273);replace HB := am (below_step (HB.out) hb);clear hb hbox hg))
 (try simp only [Act.put,List.setIfInBounds_toArray,List.set_cons_zero,List.set_cons_succ])
 go_cut [21] (fun v21 wc => ∃ (kq : Nat) (x21_2 : Bool),v21 = .bool x21_2 ∧ Aside0 (ca_Bounds.j0 kq x21_2 l0_0 a0_1 l0_2 a0_3 a0_4 a1_0 a1_1 = some (r1,r2,r3,r4)) ∧ Aside0 (kq ≤ k) ∧ Aside0 (wc.heap[gb272]? = some (.cells #[(.slice A0_0 l0_0.length c0_0),.int .i64 a0_1,(.slice A0_2 l0_2.length c0_2),.int .i64 a0_3,.int .i64 a0_4] 27 (0,0))) ∧ Aside0 (wc.heap[gb273]? = some (.cells #[.int .i64 a1_0,.int .i64 a1_1] 54 (0,0))) ∧ Aside0 (wc.heap[gb274]? = some (.cells #[.int .i64 0,.int .i64 0] 54 (0,0))) ∧ Aside0 (Below w.heap.size w wc))
 case first =>
  have H := HC3.out
  clear HC3
  replace H := obm H
  obtain ⟨t275,A70,H⟩ := H
  replace H : (if t275 = true then ((isSpan_isFlow.f a1_0 a1_1).bind fun t276 => (ca_Bounds.j0 k (!t276) l0_0 a0_1 l0_2 a0_3 a0_4 a1_0 a1_1)) else (ca_Bounds.j0 k true l0_0 a0_1 l0_2 a0_3 a0_4 a1_0 a1_1)) = some (r1,r2,r3,r4) := H
  have A7 := am A70
  clear A70
  by_cases c8 : t275 = true
  case neg =>
   replace c8 := Bool.eq_false_iff.mpr c8
   subst c8
   replace H : (ca_Bounds.j0 k true l0_0 a0_1 l0_2 a0_3 a0_4 a1_0 a1_1) = some (r1,r2,r3,r4) := by rw [if_neg (show ¬ (false = true) by decide)] at H;exact H
   replace H' := am H
   have hnb17 := NB272_273.out
   have hnc17 := NB273_272.out
   have hnb18 := NB272_274.out
   have hnc18 := NB274_272.out
   obtain ⟨hcz19_0,hcz19_1,hcz19_2,hcz19_3,hcz19_4⟩ := cO5 BK272.out
   go_wp2_with (first | ((with_reducible refine gate_callee (f := 64) rfl ?_);refine goesL_ (some 15) rfl rfl Tryz.func64 (by kernel_rfl) rfl #[.agg #[.slice A0_0 l0_0.length c0_0,.int .i64 a0_1,.slice A0_2 l0_2.length c0_2,.int .i64 a0_3,.int .i64 a0_4]] rfl (by (try simp only [List.map_toArray,List.map_cons,List.map_nil]);first | done | rfl | (simp only [List.length_drop,List.length_take];rfl)) ?_;(refine (ca_isBasin.calls _ _ l0_0 a0_1 _ _ l0_2 a0_3 a0_4 false _ ?side1 ?side2 ?side3 ?side4 A7.out).mono ?_);(case side1 => exact kC HR0_0.out HB.out);(case side2 => exact HC0_0.out);(case side3 => exact kC HR0_2.out HB.out);(case side4 => exact HC0_2.out);rintro e w20 ⟨rfl,hb⟩;refine ⟨_,rfl,?_⟩;replace BK272 := (kmv hb BK272);replace BK273 := (kmv hb BK273);replace BK274 := (kmv hb BK274);replace HB := am (below_step (HB.out) hb);(try clear hb);(try clear hb2);(try clear hk);(try clear hi)))
   go_meet
   case rel => exact ⟨_,(true),(by first | rfl | (simp;done) | (simp [*];done)),H',⟨by first | omega | exact Nat.le_refl _⟩,⟨BK272.out⟩,⟨BK273.out⟩,⟨BK274.out⟩,⟨HB.out⟩⟩
  subst c8
  replace H : ((isSpan_isFlow.f a1_0 a1_1).bind fun t276 => (ca_Bounds.j0 k (!t276) l0_0 a0_1 l0_2 a0_3 a0_4 a1_0 a1_1)) = some (r1,r2,r3,r4) := by rw [if_pos rfl] at H;exact H
  replace H := obm H
  obtain ⟨t276,A90,H⟩ := H
  replace H : (ca_Bounds.j0 k (!t276) l0_0 a0_1 l0_2 a0_3 a0_4 a1_0 a1_1) = some (r1,r2,r3,r4) := H
  have A9 := am A90
  clear A90
  replace H' := am H
  have hnb10 := NB272_273.out
  have hnc10 := NB273_272.out
  have hnb11 := NB272_274.out
  have hnc11 := NB274_272.out
  obtain ⟨hcz12_0,hcz12_1,hcz12_2,hcz12_3,hcz12_4⟩ := cO5 BK272.out
  go_wp2_with (first | ((with_reducible refine gate_callee (f := 64) rfl ?_);refine goesL_ (some 15) rfl rfl Tryz.func64 (by kernel_rfl) rfl #[.agg #[.slice A0_0 l0_0.length c0_0,.int .i64 a0_1,.slice A0_2 l0_2.length c0_2,.int .i64 a0_3,.int .i64 a0_4]] rfl (by (try simp only [List.map_toArray,List.map_cons,List.map_nil]);first | done | rfl | (simp only [List.length_drop,List.length_take];rfl)) ?_;(refine (ca_isBasin.calls _ _ l0_0 a0_1 _ _ l0_2 a0_3 a0_4 true _ ?side1 ?side2 ?side3 ?side4 A7.out).mono ?_);(case side1 => exact kC HR0_0.out HB.out);(case side2 => exact HC0_0.out);(case side3 => exact kC HR0_2.out HB.out);(case side4 => exact HC0_2.out);rintro e w13 ⟨rfl,hb⟩;refine ⟨_,rfl,?_⟩;replace BK272 := (kmv hb BK272);replace BK273 := (kmv hb BK273);replace BK274 := (kmv hb BK274);replace HB := am (below_step (HB.out) hb);(try clear hb);(try clear hb2);(try clear hk);(try clear hi);have hnb14 := NB273_274.out;have hnc14 := NB274_273.out;obtain ⟨hcz15_0,hcz15_1⟩ := cO2 BK273.out) | (go_at_call 76;(refine (isSpan_isFlow.calls a1_0 a1_1  t276 _ A9.out).mono ?_);rintro e w16 ⟨rfl,hb⟩;replace BK272 := (kmv hb BK272);replace BK273 := (kmv hb BK273);replace BK274 := (kmv hb BK274);replace HB := am (below_step (HB.out) hb);(try clear hb);(try clear hb2);(try clear hk);(try clear hi)))
  go_meet
  case rel => exact ⟨_,(!t276),(by first | rfl | (simp;done) | (simp [*];done)),H',⟨by first | omega | exact Nat.le_refl _⟩,⟨BK272.out⟩,⟨BK273.out⟩,⟨BK274.out⟩,⟨HB.out⟩⟩
 case rest =>
  clear HC3
  obtain ⟨kq,x21_2,rfl,HA,HJ2,BK272,BK273,BK274,HB⟩ := hcut
  cases kq with
  | zero => exact absurd HA.out (by simp [ca_Bounds.j0])
  | succ kj2 =>
   have H := HA.out
   clear HA
   simp only [ca_Bounds.j0] at H
   by_cases c21 : x21_2 = true
   · subst c21
     replace H : (some (([] : List (S54)),0,0,2)) = some (r1,r2,r3,r4) := by rw [if_pos rfl] at H;exact H
     simp only [Option.some.injEq,Prod.mk.injEq] at H
     obtain ⟨rfl,rfl,rfl,rfl⟩ := H
     have hnb22 := NB274_272.out
     have hnc22 := NB272_274.out
     have hnb23 := NB274_273.out
     have hnc23 := NB273_274.out
     obtain ⟨hcz24_0,hcz24_1⟩ := cO2 BK274.out
     have hfz24_0 := blk_frozen BK274.out 0
     have hfz24_1 := blk_frozen BK274.out 1
     go_wp2
     refine bodyPost_ret (results_list (rs := [.tmp 4,.cell 5 54,.tmp 6]) rfl (by simp) (.tmp (.cell gb274 54 #[.int .i64 0,.int .i64 0] (0,0) _ rfl (blk_put (cs := #[.int .i64 0,.int .i64 0]) (blk_put (cs := #[.int .i64 0,.int .i64 0]) BK274.out 0 _ rfl) 1 _ rfl) Tryz.underlying54 rfl (by kernel_rfl) (.tmp .nil)))) rfl ?_
     exact ⟨_,by first | rfl | (simp [*] <;> rfl),by first | exact Kd.R_nil _ _ _ _ _ | exact Kd.N_nil _ _ _ _ _ | exact Kd.V_nil _ _ _ _ _ | exact Kd.Q_nil _ _ _ _ _ | exact Kd.S_nil _ _ _ _ _,by repeat (first | (with_reducible first | exact HB.out | refine below_set ?_ (Aside0.out (by assumption)) | apply below_alloc | apply pw_below_drewN) | exact HB.out)⟩
   · replace c21 := Bool.eq_false_iff.mpr c21
     subst c21
     replace H : ((ca_fill.f kj2 l0_0 a0_1 l0_2 a0_3 a0_4).bind fun bt289 => ((gf_shares.f kj2 l0_0 bt289.1 l0_2 bt289.2.1 bt289.2.2.1 bt289.2.2.2 a1_0).bind fun bt296 => ((gf_shares.f kj2 l0_0 bt289.1 l0_2 bt289.2.1 bt289.2.2.1 bt289.2.2.2 a1_1).bind fun bt300 => (ca_Bounds.l0 kj2 bt296.1 bt296.2 bt300.1 bt300.2 ([] : List (S54)) (bt296.1.length : Int) 0)))) = some (r1,r2,r3,r4) := by rw [if_neg (show ¬ (false = true) by decide)] at H;exact H
     replace H := obm H
     obtain ⟨⟨t289,t290,t291,t292⟩,A250,H⟩ := H
     replace H : ((gf_shares.f kj2 l0_0 t289 l0_2 t290 t291 t292 a1_0).bind fun bt296 => ((gf_shares.f kj2 l0_0 t289 l0_2 t290 t291 t292 a1_1).bind fun bt300 => (ca_Bounds.l0 kj2 bt296.1 bt296.2 bt300.1 bt300.2 ([] : List (S54)) (bt296.1.length : Int) 0))) = some (r1,r2,r3,r4) := H
     have A25 := am A250
     clear A250
     replace H := obm H
     obtain ⟨⟨t296,t299⟩,A260,H⟩ := H
     replace H : ((gf_shares.f kj2 l0_0 t289 l0_2 t290 t291 t292 a1_1).bind fun bt300 => (ca_Bounds.l0 kj2 t296 t299 bt300.1 bt300.2 ([] : List (S54)) (t296.length : Int) 0)) = some (r1,r2,r3,r4) := H
     have A26 := am A260
     clear A260
     replace H := obm H
     obtain ⟨⟨t300,t303⟩,A270,H⟩ := H
     replace H : (ca_Bounds.l0 kj2 t296 t299 t300 t303 ([] : List (S54)) (t296.length : Int) 0) = some (r1,r2,r3,r4) := H
     have A27 := am A270
     clear A270
     replace H' := am H
     have hnb28 := NB272_273.out
     have hnc28 := NB273_272.out
     have hnb29 := NB272_274.out
     have hnc29 := NB274_272.out
     obtain ⟨hcz30_0,hcz30_1,hcz30_2,hcz30_3,hcz30_4⟩ := cO5 BK272.out
     go_wp2_with (first | ((with_reducible refine gate_callee (f := 69) rfl ?_);refine goesL_ (some 24) rfl rfl Tryz.func69 (by kernel_rfl) rfl #[.agg #[.slice A0_0 l0_0.length c0_0,.int .i64 a0_1,.slice A0_2 l0_2.length c0_2,.int .i64 a0_3,.int .i64 a0_4]] rfl (by (try simp only [List.map_toArray,List.map_cons,List.map_nil]);first | done | rfl | (simp only [List.length_drop,List.length_take];rfl)) ?_;(refine (ca_fill.calls kj2 _ _ l0_0 a0_1 _ _ l0_2 a0_3 a0_4 t289 t290 t291 t292 _ ?side1 ?side2 ?side3 ?side4 A25.out).mono ?_);(case side1 => exact kC HR0_0.out HB.out);(case side2 => exact HC0_0.out);(case side3 => exact kC HR0_2.out HB.out);(case side4 => exact HC0_2.out);rintro e w31 ⟨v293,rfl,ho0,hb⟩;refine ⟨_,rfl,?_⟩;have HO294 := am (Kd.S_lower ho0 (below_size (HB.out)));replace BK272 := (kmv hb BK272);replace BK273 := (kmv hb BK273);replace BK274 := (kmv hb BK274);replace HB := am (below_step (HB.out) hb);(try clear hb);(try clear hb2);(try clear hk);(try clear hi);(try clear ho0)) | ((refine gate_dst (N := 7) rfl ?_);refine box_event rfl (N := 7) rfl (cs := #[.slice none 0 0,.int .i64 0,.slice none 0 0,.int .i64 0,.int .i64 0,.slice none 0 0]) (t := 110) ?hr ?_;(case hr => go_simp;try rfl);intro gb295 hg w32 hbox hb;have BK295 := am (hbox);have GW295 := am (ge_new (HB.out) hg);have GE295 := am (ge_new (HB.out) hg);have NB272_295 := am (ne_new BK272.out hg);have NB295_272 := am (ne_new2 BK272.out hg);have NB273_295 := am (ne_new BK273.out hg);have NB295_273 := am (ne_new2 BK273.out hg);have NB274_295 := am (ne_new BK274.out hg);have NB295_274 := am (ne_new2 BK274.out hg);replace HO294 := am (Kd.S_below HO294.out hb);replace BK272 := (kmv hb BK272);replace BK273 := (kmv hb BK273);replace BK274 := (kmv hb BK274);replace HB := am (below_step (HB.out) hb);clear hb hbox hg;have hnb33 := NB295_272.out;have hnc33 := NB272_295.out;have hnb34 := NB295_273.out;have hnc34 := NB273_295.out;have hnb35 := NB295_274.out;have hnc35 := NB274_295.out;obtain ⟨hcz36_0,hcz36_1,hcz36_2,hcz36_3,hcz36_4,hcz36_5⟩ := cO6 BK295.out;have hfz36_0 := blk_frozen BK295.out 0;have hfz36_1 := blk_frozen BK295.out 1;have hfz36_2 := blk_frozen BK295.out 2;have hfz36_3 := blk_frozen BK295.out 3;have hfz36_4 := blk_frozen BK295.out 4;have hfz36_5 := blk_frozen BK295.out 5;obtain ⟨Ao37,co37,eo37⟩ := Kd.S_slice HO294.out;subst eo37;have hnb38 := NB273_274.out;have hnc38 := NB274_273.out;obtain ⟨hcz39_0,hcz39_1⟩ := cO2 BK273.out) | ((with_reducible refine gate_callee (f := 71) rfl ?_);refine goesL_ (some 29) rfl rfl Tryz.func71 (by kernel_rfl) rfl #[.agg #[.slice A0_0 l0_0.length c0_0,.int .i64 t289,.slice A0_2 l0_2.length c0_2,.int .i64 t290,.int .i64 t291,.slice Ao37 t292.length co37],.int .i64 a1_0] rfl (by (try simp only [List.map_toArray,List.map_cons,List.map_nil]);first | done | rfl | (simp only [List.length_drop,List.length_take];rfl)) ?_;(refine (gf_shares.calls kj2 _ _ l0_0 t289 _ _ l0_2 t290 t291 _ _ t292 a1_0 t296 t299 _ ?side1 ?side2 ?side3 ?side4 ?side5 ?side6 A26.out).mono ?_);(case side1 => exact kC HR0_0.out (by repeat (first | (with_reducible first | exact HB.out | refine below_set ?_ (Aside0.out (by assumption)) | apply below_alloc | apply pw_below_drewN) | exact HB.out)));(case side2 => exact HC0_0.out);(case side3 => exact kC HR0_2.out (by repeat (first | (with_reducible first | exact HB.out | refine below_set ?_ (Aside0.out (by assumption)) | apply below_alloc | apply pw_below_drewN) | exact HB.out)));(case side4 => exact HC0_2.out);(case side5 => refine (Kd.S_reads' (e := 28) (base := w.heap.size) (ok := fun k_ => True) (n := t292.length) (c := co37) ?_).2.2;exact (Kd.S_mono (Kd.S_far (p := ⟨gb295,5,none⟩) (Kd.S_far (p := ⟨gb295,4,none⟩) (Kd.S_far (p := ⟨gb295,3,none⟩) (Kd.S_far (p := ⟨gb295,2,none⟩) (Kd.S_far (p := ⟨gb295,1,none⟩) (Kd.S_far (p := ⟨gb295,0,none⟩) (Kd.S_types HO294.out BK295.out (by decide)) (fun _ hk => hk.2) (.slice A0_0 l0_0.length c0_0)) (fun _ hk => hk.2) (.int .i64 t289)) (fun _ hk => hk.2) (.slice A0_2 l0_2.length c0_2)) (fun _ hk => hk.2) (.int .i64 t290)) (fun _ hk => hk.2) (.int .i64 t291)) (fun _ hk => hk.2) (.slice Ao37 t292.length co37)) (fun _ h_ => h_.1)));(case side6 => exact (Kd.S_reads' HO294.out).2.1);rintro e w40 ⟨v297,rfl,ho0,hb⟩;refine ⟨_,rfl,?_⟩;have HO298 := am (Kd.R_lower ho0 (below_size (by repeat (first | (with_reducible first | exact HB.out | refine below_set ?_ (Aside0.out (by assumption)) | apply below_alloc | apply pw_below_drewN) | exact HB.out))));replace HO294 := am (Kd.S_elder' (Kd.S_mono (Kd.S_far (p := ⟨gb295,5,none⟩) (Kd.S_far (p := ⟨gb295,4,none⟩) (Kd.S_far (p := ⟨gb295,3,none⟩) (Kd.S_far (p := ⟨gb295,2,none⟩) (Kd.S_far (p := ⟨gb295,1,none⟩) (Kd.S_far (p := ⟨gb295,0,none⟩) (Kd.S_types HO294.out BK295.out (by decide)) (fun _ hk => hk.2) (.slice A0_0 l0_0.length c0_0)) (fun _ hk => hk.2) (.int .i64 t289)) (fun _ hk => hk.2) (.slice A0_2 l0_2.length c0_2)) (fun _ hk => hk.2) (.int .i64 t290)) (fun _ hk => hk.2) (.int .i64 t291)) (fun _ hk => hk.2) (.slice Ao37 t292.length co37)) (fun _ h_ => h_.1)) (Kd.R_base ho0) hb);replace BK272 := am (blk_below (blk_far (blk_far (blk_far (blk_far (blk_far (blk_far BK272.out NB272_295.out _) NB272_295.out _) NB272_295.out _) NB272_295.out _) NB272_295.out _) NB272_295.out _) hb);replace BK273 := am (blk_below (blk_far (blk_far (blk_far (blk_far (blk_far (blk_far BK273.out NB273_295.out _) NB273_295.out _) NB273_295.out _) NB273_295.out _) NB273_295.out _) NB273_295.out _) hb);replace BK274 := am (blk_below (blk_far (blk_far (blk_far (blk_far (blk_far (blk_far BK274.out NB274_295.out _) NB274_295.out _) NB274_295.out _) NB274_295.out _) NB274_295.out _) NB274_295.out _) hb);replace BK295 := am (blk_below (blk_put (cs := #[.slice A0_0 l0_0.length c0_0,.int .i64 t289,.slice A0_2 l0_2.length c0_2,.int .i64 t290,.int .i64 t291,.slice none 0 0]) (blk_put (cs := #[.slice A0_0 l0_0.length c0_0,.int .i64 t289,.slice A0_2 l0_2.length c0_2,.int .i64 t290,.int .i64 0,.slice none 0 0]) (blk_put (cs := #[.slice A0_0 l0_0.length c0_0,.int .i64 t289,.slice A0_2 l0_2.length c0_2,.int .i64 0,.int .i64 0,.slice none 0 0]) (blk_put (cs := #[.slice A0_0 l0_0.length c0_0,.int .i64 t289,.slice none 0 0,.int .i64 0,.int .i64 0,.slice none 0 0]) (blk_put (cs := #[.slice A0_0 l0_0.length c0_0,.int .i64 0,.slice none 0 0,.int .i64 0,.int .i64 0,.slice none 0 0]) (blk_put (cs := #[.slice none 0 0,.int .i64 0,.slice none 0 0,.int .i64 0,.int .i64 0,.slice none 0 0]) BK295.out 0 _ rfl) 1 _ rfl) 2 _ rfl) 3 _ rfl) 4 _ rfl) 5 _ rfl) hb);replace HB := am (below_step (by repeat (first | (with_reducible first | exact HB.out | refine below_set ?_ (Aside0.out (by assumption)) | apply below_alloc | apply pw_below_drewN) | exact HB.out)) hb);(try clear hb);(try clear hb2);(try clear hk);(try clear hi);(try clear ho0);obtain ⟨hcz41_0,hcz41_1,hcz41_2,hcz41_3,hcz41_4,hcz41_5⟩ := cO6 BK295.out;have hfz41_0 := blk_frozen BK295.out 0;have hfz41_1 := blk_frozen BK295.out 1;have hfz41_2 := blk_frozen BK295.out 2;have hfz41_3 := blk_frozen BK295.out 3;have hfz41_4 := blk_frozen BK295.out 4;have hfz41_5 := blk_frozen BK295.out 5;obtain ⟨hcz42_0,hcz42_1⟩ := cO2 BK273.out) | ((with_reducible refine gate_callee (f := 71) rfl ?_);refine goesL_ (some 36) rfl rfl Tryz.func71 (by kernel_rfl) rfl #[.agg #[.slice A0_0 l0_0.length c0_0,.int .i64 t289,.slice A0_2 l0_2.length c0_2,.int .i64 t290,.int .i64 t291,.slice Ao37 t292.length co37],.int .i64 a1_1] rfl (by (try simp only [List.map_toArray,List.map_cons,List.map_nil]);first | done | rfl | (simp only [List.length_drop,List.length_take];rfl)) ?_;(refine (gf_shares.calls kj2 _ _ l0_0 t289 _ _ l0_2 t290 t291 _ _ t292 a1_1 t300 t303 _ ?side1 ?side2 ?side3 ?side4 ?side5 ?side6 A27.out).mono ?_);(case side1 => exact kC HR0_0.out HB.out);(case side2 => exact HC0_0.out);(case side3 => exact kC HR0_2.out HB.out);(case side4 => exact HC0_2.out);(case side5 => repeat (first | exact (Kd.S_reads' HO294.out).2.2 | (with_reducible refine Kd.C_alloc ?_ _) | (with_reducible refine Kd.C_drewN ?_ _) | (with_reducible refine Kd.C_drew ?_)));(case side6 => exact (Kd.S_reads' HO294.out).2.1);rintro e w43 ⟨v301,rfl,ho0,hb⟩;refine ⟨_,rfl,?_⟩;have HO302 := am (Kd.R_lower (Kd.R_new' ho0 (Kd.R_lt HO298.out)) (below_size (HB.out)));replace HO294 := am (Kd.S_elder' HO294.out (Kd.R_base ho0) hb);replace HO298 := am (Kd.R_elder' HO298.out (Kd.R_base ho0) hb);replace BK272 := (kmv hb BK272);replace BK273 := (kmv hb BK273);replace BK274 := (kmv hb BK274);replace BK295 := (kmv hb BK295);replace HB := am (below_step (HB.out) hb);(try clear hb);(try clear hb2);(try clear hk);(try clear hi);(try clear ho0);obtain ⟨Ao44,co44,eo44⟩ := Kd.R_slice HO298.out;subst eo44))
     go_loopg [12,41] kj2 (fun kq v12 v41 w' => ∃ (x12_2 : List (S54)) (x41_2 : Int),v41 = .int .i64 x41_2 ∧ Aside0 (ca_Bounds.l0 kq t296 t299 t300 t303 x12_2 (t296.length : Int) x41_2 = some (r1,r2,r3,r4)) ∧ Aside0 (kq ≤ kj2) ∧ Aside0 (Kd.R (Kd.int .i64) 3 w' w.heap.size (fun k_ => some k_ ≠ (v301 : Value).ownBlock) (.slice Ao44 t296.length co44) t296) ∧ Aside0 (Kd.R (Kd.int .i64) 3 w' w.heap.size (fun k_ => some k_ ≠ ((.slice Ao44 t296.length co44) : Value).ownBlock) v301 t300) ∧ Aside0 (Kd.R k54 54 w' w.heap.size (fun k_ => k_ ≠ gb273 ∧ k_ ≠ gb274) v12 x12_2) ∧ Aside0 (Kd.S (Kd.slice 3 (Kd.int .i64)) 28 w' w.heap.size (fun k_ => some k_ ≠ ((.slice Ao44 t296.length co44) : Value).ownBlock ∧ some k_ ≠ (v301 : Value).ownBlock) (.slice Ao37 t292.length co37) t292) ∧ Aside0 (w'.heap[gb272]? = some (.cells #[(.slice A0_0 l0_0.length c0_0),.int .i64 a0_1,(.slice A0_2 l0_2.length c0_2),.int .i64 a0_3,.int .i64 a0_4] 27 (0,0))) ∧ Aside0 (w'.heap[gb273]? = some (.cells #[.int .i64 a1_0,.int .i64 a1_1] 54 (0,0))) ∧ Aside0 (w'.heap[gb274]? = some (.cells #[.int .i64 0,.int .i64 0] 54 (0,0))) ∧ Aside0 (w'.heap[gb295]? = some (.cells #[(.slice A0_0 l0_0.length c0_0),.int .i64 t289,(.slice A0_2 l0_2.length c0_2),.int .i64 t290,.int .i64 t291,(.slice Ao37 t292.length co37)] 110 (0,0))) ∧ Aside0 (Below w.heap.size w w'))
     case atStart => exact ⟨(([] : List (S54))),(0),(by first | rfl | (simp;done) | (simp [*];done)),H',⟨Nat.le_refl _⟩,⟨by (with_reducible repeat (first | apply Kd.R_alloc | apply Kd.R_drewN | apply Kd.R_drew));exact Kd.R_mono HO298.out (fun _ hk => hk.2)⟩,⟨by (with_reducible repeat (first | apply Kd.R_alloc | apply Kd.R_drewN | apply Kd.R_drew));exact Kd.R_mono HO302.out (fun _ hk => hk.2)⟩,⟨by first | exact Kd.R_nil _ _ _ _ _ | exact Kd.N_nil _ _ _ _ _ | exact Kd.V_nil _ _ _ _ _ | exact Kd.Q_nil _ _ _ _ _ | exact Kd.S_nil _ _ _ _ _⟩,⟨by (with_reducible repeat (first | apply Kd.S_alloc | apply Kd.S_drewN | apply Kd.S_drew));exact Kd.S_mono HO294.out (fun _ hk => ⟨hk.1.2,hk.2⟩)⟩,⟨BK272.out⟩,⟨BK273.out⟩,⟨BK274.out⟩,⟨BK295.out⟩,⟨HB.out⟩⟩
     case round =>
      clear H'
      obtain ⟨x12_2,x41_2,rfl,HA,HK2,HO_8,HO_10,HO_12,HO_296005,BK272,BK273,BK274,BK295,HB⟩ := hrel
      cases gk with
      | zero => exact absurd HA.out (by simp [ca_Bounds.l0])
      | succ k2 =>
       have H := HA.out
       clear HA
       simp only [ca_Bounds.l0] at H
       by_cases c45 : x41_2 < (t296.length : Int)
       case neg =>
        rw [if_neg c45] at H
        have c45b0 : decide (x41_2 < (t296.length : Int)) = false := decide_eq_false c45
        clear c45
        simp only [Option.some.injEq,Prod.mk.injEq] at H
        obtain ⟨rfl,rfl,rfl,rfl⟩ := H
        have hnb53 := NB274_272.out
        have hnc53 := NB272_274.out
        have hnb54 := NB274_273.out
        have hnc54 := NB273_274.out
        have hnb55 := NB274_295.out
        have hnc55 := NB295_274.out
        obtain ⟨hcz56_0,hcz56_1⟩ := cO2 BK274.out
        have hfz56_0 := blk_frozen BK274.out 0
        have hfz56_1 := blk_frozen BK274.out 1
        go_wp2
        refine bodyPost_ret (results_list (rs := [.tmp 4,.cell 5 54,.tmp 6]) rfl (by simp) (.tmp (.cell gb274 54 #[.int .i64 t299,.int .i64 t303] (0,0) _ rfl (blk_put (cs := #[.int .i64 t299,.int .i64 0]) (blk_put (cs := #[.int .i64 0,.int .i64 0]) BK274.out 0 _ rfl) 1 _ rfl) Tryz.underlying54 rfl (by kernel_rfl) (.tmp .nil)))) rfl ?_
        exact ⟨_,by first | rfl | (simp [*] <;> rfl),by (with_reducible repeat (first | apply Kd.R_alloc | apply Kd.R_drewN | apply Kd.R_drew));exact Kd.R_mono (Kd.R_far (p := ⟨gb274,1,none⟩) (Kd.R_far (p := ⟨gb274,0,none⟩) (Kd.R_mono HO_12.out (fun k_ hk => (⟨hk,hk.2⟩ : _ ∧ k_ ≠ gb274))) (fun _ hk => hk.2) (.int .i64 t299)) (fun _ hk => hk.2) (.int .i64 t303)) (fun _ hk => trivial),by repeat (first | (with_reducible first | exact HB.out | refine below_set ?_ (Aside0.out (by assumption)) | apply below_alloc | apply pw_below_drewN) | exact HB.out)⟩
       rw [if_pos c45] at H
       have c45b0 : decide (x41_2 < (t296.length : Int)) = true := decide_eq_true c45
       clear c45
       by_cases c46 : 0 ≤ x41_2
       case neg =>
        rw [if_neg c46] at H
        exact absurd H (by simp)
       rw [if_pos c46] at H
       have c46b0 : decide (0 ≤ x41_2) = true := decide_eq_true c46
       clear c46
       by_cases c47 : x41_2 < (t296.length : Int)
       case neg =>
        rw [if_neg c47] at H
        exact absurd H (by simp)
       rw [if_pos c47] at H
       have c47b0 : decide (x41_2 < (t296.length : Int)) = true := decide_eq_true c47
       clear c47
       by_cases c48 : x41_2 < (t300.length : Int)
       case neg =>
        rw [if_neg c48] at H
        exact absurd H (by simp)
       rw [if_pos c48] at H
       have c48b0 : decide (x41_2 < (t300.length : Int)) = true := decide_eq_true c48
       clear c48
       by_cases c49 : x12_2.length < 8796093022208
       case neg =>
        rw [if_neg c49] at H
        exact absurd H (by simp)
       rw [if_pos c49] at H
       have LMc49 := am c49
       clear c49
       obtain ⟨y306,hy306⟩ : ∃ y_ : List (S54),y_ = (x12_2 ++ [(⟨rd t296 x41_2,rd t300 x41_2⟩ : S54)]) := ⟨_,rfl⟩
       replace H : (ca_Bounds.l0 k2 t296 t299 t300 t303 y306 (t296.length : Int) (wrap64 (x41_2 + 1))) = some (r1,r2,r3,r4) := by first | (rw [hy306];with_reducible exact H) | (have H2_ := (Option.bind_some _ _).symm.trans H;rw [hy306];with_reducible exact H2_) | (have H2_ := (Option.bind_some _ _).symm.trans H;with_reducible exact H2_) | with_reducible exact H | (rw [hy306];exact H) | exact H
       have Ny306 := am hy306
       clear hy306
       replace H' := am H
       try go_wp2
       replace HO_8 := am (Kd.R_drew HO_8.out)
       replace HO_10 := am (Kd.R_drew HO_10.out)
       replace HO_12 := am (Kd.R_drew HO_12.out)
       replace HO_296005 := am (Kd.S_drew HO_296005.out)
       replace BK272 := am (blk_drew BK272.out)
       replace BK273 := am (blk_drew BK273.out)
       replace BK274 := am (blk_drew BK274.out)
       replace BK295 := am (blk_drew BK295.out)
       replace HB := am (below_drew1 HB.out)
       have p304 : 0 ≤ (x41_2 : Int) := of_decide_eq_true (by assumption)
       have q304 : x41_2 < (t296.length : Int) := of_decide_eq_true (by assumption)
       obtain ⟨ad304,e304,hx304_0⟩ := Kd.at_int (Kd.R_reads' HO_8.out).2.2 x41_2 p304 q304
       cases e304
       replace p304 := eq_true p304
       replace q304 := eq_true q304
       obtain ⟨Ao51,co51,eo51⟩ := Kd.R_slice HO_10.out
       (first | subst eo51 | (injection eo51 with f1_ f2_ f3_;have f4_ := f1_.symm;have f5_ := f3_.symm;clear f1_ f2_ f3_;subst f4_;subst f5_))
       have p305 : 0 ≤ (x41_2 : Int) := of_decide_eq_true (by assumption)
       have q305 : x41_2 < (t300.length : Int) := of_decide_eq_true (by assumption)
       obtain ⟨ad305,e305,hx305_0⟩ := Kd.at_int (Kd.R_reads' HO_10.out).2.2 x41_2 p305 q305
       cases e305
       replace p305 := eq_true p305
       replace q305 := eq_true q305
       refine start_ (n := 13) (S := fun w' => w'.cell? (ad304.add (x41_2).toNat) = some (.int .i64 (rd t296 x41_2)) ∧ w'.cell? (ad305.add (x41_2).toNat) = some (.int .i64 (rd t300 x41_2))) (ds := [10,11]) (ba 13 0) (by kernel_rfl) rfl rfl ⟨hx304_0,hx305_0⟩ (fun hHeld => ?_);refine with_tabW ca_Bounds.tab10 ca_Bounds.bits10 (fun HT_ HW_ => ?_)
       generalize wr.drew = w50 at HO_8 HO_10 HO_12 HO_296005 BK272 BK273 BK274 BK295 HB hx304_0 hx305_0 hHeld ⊢
       refine pure_ (i := 0) (N := some 44) (v := ?_) (a' := ?_) (ba 13 1) rfl rfl (any_of HT_.out (by kernel_rfl)) (fun _ _ _ h => h) (Or.inl ⟨by rfl,?_⟩) ?_ ?_
       rotate_left
       · intro w'
         go_simp
         with_reducible rfl
       rotate_left
       · simp only [Act.put,NRM]
         rfl
       refine pure_ (i := 1) (N := some 45) (v := ?_) (a' := ?_) (ba 13 3) rfl rfl (any_of HT_.out (by kernel_rfl)) (fun _ _ _ h => h) (Or.inl ⟨by rfl,?_⟩) ?_ ?_
       rotate_left
       · intro w'
         go_simp
         with_reducible rfl
       rotate_left
       · simp only [Act.put,NRM]
         rfl
       refine pure_ (i := 2) (N := some 46) (v := ?_) (a' := ?_) (ba 13 7) rfl rfl (any_of HT_.out (by kernel_rfl)) (fun _ _ _ h => h) (Or.inl ⟨by rfl,?_⟩) ?_ ?_
       rotate_left
       · intro w'
         go_simp
         with_reducible rfl
       rotate_left
       · simp only [Act.put,NRM]
         rfl
       refine pure_ (i := 3) (N := some 47) (v := ?_) (a' := ?_) (ba 13 15) rfl rfl (any_of HT_.out (by kernel_rfl)) (fun _ _ _ h => h) (Or.inl ⟨by rfl,?_⟩) ?_ ?_
       rotate_left
       · intro w'
         go_simp
         with_reducible rfl
       rotate_left
       · simp only [Act.put,NRM]
         rfl
       refine pure_ (i := 5) (N := some 49) (v := ?_) (a' := ?_) (ba 13 47) rfl rfl (any_of HT_.out (by kernel_rfl)) (fun _ _ _ h => h) (Or.inl ⟨by rfl,?_⟩) ?_ ?_
       rotate_left
       · intro w'
         go_simp
         with_reducible rfl
       rotate_left
       · simp only [Act.put,NRM]
         rfl
       refine pure_ (i := 6) (N := some 50) (v := ?_) (a' := ?_) (ba 13 111) rfl rfl (any_of HT_.out (by kernel_rfl)) (fun _ _ _ h => h) (Or.inl ⟨by rfl,?_⟩) ?_ ?_
       rotate_left
       · intro w'
         go_simp
         with_reducible rfl
       rotate_left
       · simp only [Act.put,NRM]
         rfl
       refine pure_ (i := 7) (N := some 51) (v := ?_) (a' := ?_) (ba 13 239) rfl rfl (any_of HT_.out (by kernel_rfl)) (fun _ _ _ h => h) (Or.inl ⟨by rfl,?_⟩) ?_ ?_
       rotate_left
       · intro w'
         go_simp
         with_reducible rfl
       rotate_left
       · simp only [Act.put,NRM]
         rfl
       refine take_ (i := 4) (N := some 48) (v := ?_) (a' := ?_) (ba 13 255) rfl rfl (take_ofW HT_.out HW_.out (by kernel_rfl)) (fun _ _ _ h => h) (Or.inl ⟨by rfl,?_⟩) hHeld ?_ ?_
       rotate_left
       · rintro w' ⟨s0,s1⟩
         go_simp
         with_reducible rfl
       rotate_left
       · simp only [Act.put,NRM]
         rfl
       refine take_ (i := 8) (N := some 52) (v := ?_) (a' := ?_) (ba 13 511) rfl rfl (take_ofW HT_.out HW_.out (by kernel_rfl)) (fun _ _ _ h => h) (Or.inl ⟨by rfl,?_⟩) hHeld ?_ ?_
       rotate_left
       · rintro w' ⟨s0,s1⟩
         go_simp
         with_reducible rfl
       rotate_left
       · simp only [Act.put,NRM]
         rfl
       refine pure_ (i := 9) (N := some 53) (v := ?_) (a' := ?_) (ba 13 1023) rfl rfl (any_of HT_.out (by kernel_rfl)) (fun _ _ _ h => h) (Or.inl ⟨by rfl,?_⟩) ?_ ?_
       rotate_left
       · intro w'
         go_simp
         with_reducible rfl
       rotate_left
       · simp only [Act.put,NRM]
         rfl
       refine last_ (i := 10) (N := some 54) (ba 13 2047) rfl rfl (one_of HT_.out (by kernel_rfl)) (by decide) (fun K hK => ?_)
       refine value_ (w1 := ?_) (v := ?_) (by rfl) rfl ?_ ?_
       rotate_left 2
       · go_simp
         constructor
         · rfl
         · rfl
       refine hK.out _ _ ?_
       clear hK K
       refine norm_ (a' := ?_) ?_ ?_
       rotate_left
       · show Act.put _ (some 54) _ = _
         simp only [Act.put,NRM]
         rfl
       refine last_ (i := 11) (N := some 55) (ba 13 4095) rfl rfl (one_of HT_.out (by kernel_rfl)) (by decide) (fun K hK => ?_)
       refine Kd.R_append_step k54 (w0 := w) w.heap.size (by rfl) (.tmp 44) (.tmp 54) 42 54 (.agg #[(.int .i64 0),(.int .i64 0)]) 16 rfl Tryz.underlying42 info54 rfl (by decide) (by omega) u12 x12_2 (⟨rd t296 x41_2,rd t300 x41_2⟩ : S54) [.int .i64 (rd t296 x41_2),.int .i64 (rd t300 x41_2)] (fun k_ => k_ ≠ gb273 ∧ k_ ≠ gb274) (fun _ => False) rfl rfl ?aP (fun _ hk => hk.elim) ?aF ?aO ?aB ?aS ?aL ?_
       (case aP => exact k54_mkM _ _ _ (⟨rd t296 x41_2,rd t300 x41_2⟩ : S54))
       (case aB => exact (HB.out))
       (case aF => exact (fun k_ hk => ⟨Kd.freshB (g := gb273) (o := .cells #[.int .i64 a1_0,.int .i64 a1_1] 54 (0,0)) BK273.out k_ hk,Kd.freshB (g := gb274) (o := .cells #[.int .i64 0,.int .i64 0] 54 (0,0)) BK274.out k_ hk⟩))
       (case aO => exact HO_12.out)
       (case aS => exact (below_size (HB.out)))
       (case aL => have := LMc49.out;omega)
       intro v307 w52 ho hb hg hat
       rw [← Ny306.out] at ho
       have n0_ := am (Kd.R_over' HO_8.out (Kd.R_typed HO_12.out) (by decide) hg)
       have n1_ := am (Kd.R_over' HO_10.out (Kd.R_typed HO_12.out) (by decide) hg)
       have n2_ := am (Kd.S_over' HO_296005.out (Kd.R_typed HO_12.out) (by decide) hg)
       have n3_ := am (blk_grown (g := gb272) (o := .cells #[.slice A0_0 l0_0.length c0_0,.int .i64 a0_1,.slice A0_2 l0_2.length c0_2,.int .i64 a0_3,.int .i64 a0_4] 27 (0,0)) BK272.out hg (Kd.R_ne HO_12.out BK272.out (by decide)))
       have n4_ := am (blk_grown (g := gb273) (o := .cells #[.int .i64 a1_0,.int .i64 a1_1] 54 (0,0)) BK273.out hg (Kd.R_away HO_12.out (fun _ hk => hk.1)))
       have n5_ := am (blk_grown (g := gb274) (o := .cells #[.int .i64 0,.int .i64 0] 54 (0,0)) BK274.out hg (Kd.R_away HO_12.out (fun _ hk => hk.2)))
       have n6_ := am (blk_grown (g := gb295) (o := .cells #[.slice A0_0 l0_0.length c0_0,.int .i64 t289,.slice A0_2 l0_2.length c0_2,.int .i64 t290,.int .i64 t291,.slice Ao37 t292.length co37] 110 (0,0)) BK295.out hg (Kd.R_ne HO_12.out BK295.out (by decide)))
       have n7_ := am (hb)
       have n8_ := am (ho)
       clear HO_8
       clear HO_10
       clear HO_296005
       clear BK272
       clear BK273
       clear BK274
       clear BK295
       clear HB
       clear HO_12
       have HO_8 := n0_
       have HO_10 := n1_
       have HO_296005 := n2_
       have BK272 := n3_
       have BK273 := n4_
       have BK274 := n5_
       have BK295 := n6_
       have HB := n7_
       have HO308 := n8_
       clear n0_ n1_ n2_ n3_ n4_ n5_ n6_ n7_ n8_
       clear ho hb hg hat
       refine hK.out _ _ ?_
       clear hK K
       refine norm_ (a' := ?_) ?_ ?_
       rotate_left
       · show Act.put _ (some 55) _ = _
         simp only [Act.put,NRM]
         rfl
       refine pure_ (i := 12) (N := some 12) (v := ?_) (a' := ?_) (ba 13 8191) rfl rfl (any_of HT_.out (by kernel_rfl)) (fun _ _ _ h => h) (Or.inl ⟨by rfl,?_⟩) ?_ ?_
       rotate_left
       · intro w'
         go_simp
         with_reducible rfl
       rotate_left
       · simp only [Act.put,NRM]
         rfl
       refine done_ (done_of HT_.out (by kernel_rfl)) ?_
       try go_wp2
       go_roundg k2
       case measure => have := HJ2.out;have := HK2.out;omega
       case rel => exact ⟨(y306),(wrap64 (x41_2 + 1)),(by first | rfl | (simp;done) | (simp [*];done)),H',⟨by have := HJ2.out;have := HK2.out;omega⟩,⟨by (with_reducible repeat (first | apply Kd.R_alloc | apply Kd.R_drewN | apply Kd.R_drew));exact HO_8.out⟩,⟨by (with_reducible repeat (first | apply Kd.R_alloc | apply Kd.R_drewN | apply Kd.R_drew));exact HO_10.out⟩,⟨by (with_reducible repeat (first | apply Kd.R_alloc | apply Kd.R_drewN | apply Kd.R_drew));exact HO308.out⟩,⟨by (with_reducible repeat (first | apply Kd.S_alloc | apply Kd.S_drewN | apply Kd.S_drew));exact HO_296005.out⟩,⟨BK272.out⟩,⟨BK273.out⟩,⟨BK274.out⟩,⟨BK295.out⟩,⟨HB.out⟩⟩
end
end Go.Proofs.YtnnmnhpeblhiiaaGreatDoor.C

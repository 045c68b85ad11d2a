/- A part of the proof: the walks of the functions that it reaches. TIGHT. -/
import Derived.Test.YticlelgmmonloaaGreatDoorM13
set_option linter.unusedVariables false
set_option linter.unusedSimpArgs false
namespace Go.Proofs.YticlelgmmonloaaGreatDoor.C
open Go.RowKit Go.Proofs.YticlelgmmonloaaGreatDoorW.PrintWords Go.Proofs.YticlelgmmonloaaGreatDoorW.PrintLast Go.Proofs.YticlelgmmonloaaGreatDoorW.PrintMore
set_option linter.unusedVariables false
set_option linter.unusedSimpArgs false
set_option maxHeartbeats 16000000
set_option maxRecDepth 100000
section
attribute [local go_sem] max2_int min2_int max_two min_two
def ca_Shares.j0 : Nat → Int → Bool → List (S126) → Int → List (S64) → Int → Int → Option (List Int × Int × Int)
 | 0,_,_,_,_,_,_,_ => none
 | k + 1,x1,x16,x165000,x165001,x165002,x165003,x165004 => if x16 = true then (some (([] : List Int),0,2)) else ((ca_fill.f k x165000 x165001 x165002 x165003 x165004).bind fun bt179 => ((gf_shares.f k x165000 bt179.1 x165002 bt179.2.1 bt179.2.2.1 bt179.2.2.2 x1).bind fun bt185 => (some (bt185.1,bt185.2,0))))
def ca_Shares.f (k : Nat) (l0_0 : List (S126)) (a0_1 : Int) (l0_2 : List (S64)) (a0_3 : Int) (a0_4 : Int) (a1 : Int) : Option (List Int × Int × Int) := (ca_isBasin.f l0_0 a0_1 l0_2 a0_3 a0_4).bind fun t165 => (if t165 = true then ((ca_isFlow.f a1).bind fun t166 => (ca_Shares.j0 k a1 (!t166) l0_0 a0_1 l0_2 a0_3 a0_4)) else (ca_Shares.j0 k a1 true l0_0 a0_1 l0_2 a0_3 a0_4))
theorem ca_Shares.calls (k : Nat) (A0_0 : Option Addr) (c0_0 : Nat) (l0_0 : List (S126)) (a0_1 : Int) (A0_2 : Option Addr) (c0_2 : Nat) (l0_2 : List (S64)) (a0_3 : Int) (a0_4 : Int) (a1 : Int) (r1 : List Int) (r2 : Int) (r3 : Int) (w : World) (hr0_0 : Kd.C k126 w A0_0 l0_0.length l0_0) (hc0_0 : l0_0.length ≤ c0_0) (hr0_2 : Kd.C k64 w A0_2 l0_2.length l0_2) (hc0_2 : l0_2.length ≤ c0_2) (h : ca_Shares.f k l0_0 a0_1 l0_2 a0_3 a0_4 a1 = some (r1,r2,r3)) :
 Calls Tryz.prog 16 #[.agg #[.slice A0_0 l0_0.length c0_0,.int .i64 a0_1,.slice A0_2 l0_2.length c0_2,.int .i64 a0_3,.int .i64 a0_4],.int .i64 a1] w fun e w' => ∃ v0_ : Value,e = .returned (.tuple #[v0_,.int .i64 r2,.int .i64 r3]) ∧ Kd.R (Kd.int .i64) 3 w' w.heap.size (fun _ => True) v0_ r1 ∧ Below w.heap.size w w' := by
 have hu27 := Tryz.underlying27
 have HR0_0 := am hr0_0
 have HC0_0 := am hc0_0
 clear hr0_0 hc0_0
 have HR0_2 := am hr0_2
 have HC0_2 := am hc0_2
 clear hr0_2 hc0_2
 have HB := am (Below.refl w.heap.size w)
 have H : ((ca_isBasin.f l0_0 a0_1 l0_2 a0_3 a0_4).bind fun t165 => (if t165 = true then ((ca_isFlow.f a1).bind fun t166 => (ca_Shares.j0 k a1 (!t166) l0_0 a0_1 l0_2 a0_3 a0_4)) else (ca_Shares.j0 k a1 true l0_0 a0_1 l0_2 a0_3 a0_4))) = some (r1,r2,r3) := h
 clear h
 have HC3 := am H
 clear H
 go_enter Tryz.func16,Tryz.ntmps16
 go_upto_region 1 with (first | ((refine gate_dst (N := 2) rfl ?_);refine box_event rfl (N := 2) rfl (cs := #[.slice A0_0 l0_0.length c0_0,.int .i64 a0_1,.slice A0_2 l0_2.length c0_2,.int .i64 a0_3,.int .i64 a0_4]) (t := 27) ?hr ?_;(case hr => go_simp;try rfl);intro gb164 hg w4 hbox hb;have BK164 := am (hbox);have GW164 := am (ge_new (HB.out) hg);have GE164 := am (ge_new (HB.out) hg);replace HB := am (below_step (HB.out) hb);clear hb hbox hg))
 (try simp only [Act.put,List.setIfInBounds_toArray,List.set_cons_zero,List.set_cons_succ])
 go_cut [16] (fun v16 wc => ∃ (kq : Nat) (x16_2 : Bool),v16 = .bool x16_2 ∧ Aside0 (ca_Shares.j0 kq a1 x16_2 l0_0 a0_1 l0_2 a0_3 a0_4 = some (r1,r2,r3)) ∧ Aside0 (kq ≤ k) ∧ Aside0 (wc.heap[gb164]? = some (.cells #[(.slice A0_0 l0_0.length c0_0),.int .i64 a0_1,(.slice A0_2 l0_2.length c0_2),.int .i64 a0_3,.int .i64 a0_4] 27 (0,0))) ∧ Aside0 (Below w.heap.size w wc))
 case first =>
  have H := HC3.out
  clear HC3
  replace H := obm H
  obtain ⟨t165,A50,H⟩ := H
  replace H : (if t165 = true then ((ca_isFlow.f a1).bind fun t166 => (ca_Shares.j0 k a1 (!t166) l0_0 a0_1 l0_2 a0_3 a0_4)) else (ca_Shares.j0 k a1 true l0_0 a0_1 l0_2 a0_3 a0_4)) = some (r1,r2,r3) := H
  have A5 := am A50
  clear A50
  by_cases c6 : t165 = true
  case neg =>
   replace c6 := Bool.eq_false_iff.mpr c6
   subst c6
   replace H : (ca_Shares.j0 k a1 true l0_0 a0_1 l0_2 a0_3 a0_4) = some (r1,r2,r3) := by rw [if_neg (show ¬ (false = true) by decide)] at H;exact H
   replace H' := am H
   obtain ⟨hcz10_0,hcz10_1,hcz10_2,hcz10_3,hcz10_4⟩ := cO5 BK164.out
   go_wp2_with (first | ((with_reducible refine gate_callee (f := 57) rfl ?_);refine goesL_ (some 10) rfl rfl Tryz.func57 (by kernel_rfl) rfl #[.agg #[.slice A0_0 l0_0.length c0_0,.int .i64 a0_1,.slice A0_2 l0_2.length c0_2,.int .i64 a0_3,.int .i64 a0_4]] rfl (by (try simp only [List.map_toArray,List.map_cons,List.map_nil]);first | done | rfl | (simp only [List.length_drop,List.length_take];rfl)) ?_;(refine (ca_isBasin.calls _ _ l0_0 a0_1 _ _ l0_2 a0_3 a0_4 false _ ?side1 ?side2 ?side3 ?side4 A5.out).mono ?_);(case side1 => exact kC HR0_0.out HB.out);(case side2 => exact HC0_0.out);(case side3 => exact kC HR0_2.out HB.out);(case side4 => exact HC0_2.out);rintro e w11 ⟨rfl,hb⟩;refine ⟨_,rfl,?_⟩;replace BK164 := (kmv hb BK164);replace HB := am (below_step (HB.out) hb);(try clear hb);(try clear hb2);(try clear hk);(try clear hi)))
   go_meet
   case rel => exact ⟨_,(true),(by first | rfl | (simp;done) | (simp [*];done)),H',⟨by first | omega | exact Nat.le_refl _⟩,⟨BK164.out⟩,⟨HB.out⟩⟩
  subst c6
  replace H : ((ca_isFlow.f a1).bind fun t166 => (ca_Shares.j0 k a1 (!t166) l0_0 a0_1 l0_2 a0_3 a0_4)) = some (r1,r2,r3) := by rw [if_pos rfl] at H;exact H
  replace H := obm H
  obtain ⟨t166,A70,H⟩ := H
  replace H : (ca_Shares.j0 k a1 (!t166) l0_0 a0_1 l0_2 a0_3 a0_4) = some (r1,r2,r3) := H
  have A7 := am A70
  clear A70
  replace H' := am H
  obtain ⟨hcz8_0,hcz8_1,hcz8_2,hcz8_3,hcz8_4⟩ := cO5 BK164.out
  go_wp2_with (first | ((with_reducible refine gate_callee (f := 57) rfl ?_);refine goesL_ (some 10) rfl rfl Tryz.func57 (by kernel_rfl) rfl #[.agg #[.slice A0_0 l0_0.length c0_0,.int .i64 a0_1,.slice A0_2 l0_2.length c0_2,.int .i64 a0_3,.int .i64 a0_4]] rfl (by (try simp only [List.map_toArray,List.map_cons,List.map_nil]);first | done | rfl | (simp only [List.length_drop,List.length_take];rfl)) ?_;(refine (ca_isBasin.calls _ _ l0_0 a0_1 _ _ l0_2 a0_3 a0_4 true _ ?side1 ?side2 ?side3 ?side4 A5.out).mono ?_);(case side1 => exact kC HR0_0.out HB.out);(case side2 => exact HC0_0.out);(case side3 => exact kC HR0_2.out HB.out);(case side4 => exact HC0_2.out);rintro e w9 ⟨rfl,hb⟩;refine ⟨_,rfl,?_⟩;replace BK164 := (kmv hb BK164);replace HB := am (below_step (HB.out) hb);(try clear hb);(try clear hb2);(try clear hk);(try clear hi)) | (go_at_call 58;(refine (ca_isFlow.calls a1 t166 _ A7.out).mono ?_);rintro e w' ⟨rfl,⟨nd,rfl⟩⟩))
  go_meet
  case rel => exact ⟨_,(!t166),(by first | rfl | (simp;done) | (simp [*];done)),H',⟨by first | omega | exact Nat.le_refl _⟩,⟨BK164.out⟩,⟨pw_below_drewN HB.out _⟩⟩
 case rest =>
  clear HC3
  obtain ⟨kq,x16_2,rfl,HA,HJ2,BK164,HB⟩ := hcut
  cases kq with
  | zero => exact absurd HA.out (by simp [ca_Shares.j0])
  | succ kj2 =>
   have H := HA.out
   clear HA
   simp only [ca_Shares.j0] at H
   by_cases c12 : x16_2 = true
   · subst c12
     replace H : (some (([] : List Int),0,2)) = some (r1,r2,r3) := by rw [if_pos rfl] at H;exact H
     simp only [Option.some.injEq,Prod.mk.injEq] at H
     obtain ⟨rfl,rfl,rfl⟩ := H
     go_wp2
     go_ret3
     exact ⟨_,by first | rfl | (simp [*] <;> rfl),by first | exact Kd.R_nil _ _ _ _ _ | exact Kd.N_nil _ _ _ _ _ | exact Kd.V_nil _ _ _ _ _ | exact Kd.Q_nil _ _ _ _ _ | exact Kd.S_nil _ _ _ _ _,HB.out⟩
   · replace c12 := Bool.eq_false_iff.mpr c12
     subst c12
     replace H : ((ca_fill.f kj2 l0_0 a0_1 l0_2 a0_3 a0_4).bind fun bt179 => ((gf_shares.f kj2 l0_0 bt179.1 l0_2 bt179.2.1 bt179.2.2.1 bt179.2.2.2 a1).bind fun bt185 => (some (bt185.1,bt185.2,0)))) = some (r1,r2,r3) := by rw [if_neg (show ¬ (false = true) by decide)] at H;exact H
     replace H := obm H
     obtain ⟨⟨t179,t180,t181,t182⟩,A130,H⟩ := H
     replace H : ((gf_shares.f kj2 l0_0 t179 l0_2 t180 t181 t182 a1).bind fun bt185 => (some (bt185.1,bt185.2,0))) = some (r1,r2,r3) := H
     have A13 := am A130
     clear A130
     replace H := obm H
     obtain ⟨⟨t185,t188⟩,A140,H⟩ := H
     replace H : (some (t185,t188,0)) = some (r1,r2,r3) := H
     have A14 := am A140
     clear A140
     simp only [Option.some.injEq,Prod.mk.injEq] at H
     obtain ⟨rfl,rfl,rfl⟩ := H
     obtain ⟨hcz15_0,hcz15_1,hcz15_2,hcz15_3,hcz15_4⟩ := cO5 BK164.out
     go_wp2_with (first | ((with_reducible refine gate_callee (f := 59) rfl ?_);refine goesL_ (some 19) rfl rfl Tryz.func59 (by kernel_rfl) rfl #[.agg #[.slice A0_0 l0_0.length c0_0,.int .i64 a0_1,.slice A0_2 l0_2.length c0_2,.int .i64 a0_3,.int .i64 a0_4]] rfl (by (try simp only [List.map_toArray,List.map_cons,List.map_nil]);first | done | rfl | (simp only [List.length_drop,List.length_take];rfl)) ?_;(refine (ca_fill.calls kj2 _ _ l0_0 a0_1 _ _ l0_2 a0_3 a0_4 t179 t180 t181 t182 _ ?side1 ?side2 ?side3 ?side4 A13.out).mono ?_);(case side1 => exact kC HR0_0.out HB.out);(case side2 => exact HC0_0.out);(case side3 => exact kC HR0_2.out HB.out);(case side4 => exact HC0_2.out);rintro e w16 ⟨v183,rfl,ho0,hb⟩;refine ⟨_,rfl,?_⟩;have HO184 := am (Kd.S_lower ho0 (below_size (HB.out)));replace BK164 := (kmv hb BK164);replace HB := am (below_step (HB.out) hb);(try clear hb);(try clear hb2);(try clear hk);(try clear hi);(try clear ho0);obtain ⟨Ao17,co17,eo17⟩ := Kd.S_slice HO184.out;subst eo17) | ((with_reducible refine gate_callee (f := 60) rfl ?_);refine goesL_ (some 21) rfl rfl Tryz.func60 (by kernel_rfl) rfl #[.agg #[.slice A0_0 l0_0.length c0_0,.int .i64 t179,.slice A0_2 l0_2.length c0_2,.int .i64 t180,.int .i64 t181,.slice Ao17 t182.length co17],.int .i64 a1] rfl (by (try simp only [List.map_toArray,List.map_cons,List.map_nil]);first | done | rfl | (simp only [List.length_drop,List.length_take];rfl)) ?_;(refine (gf_shares.calls kj2 _ _ l0_0 t179 _ _ l0_2 t180 t181 _ _ t182 a1 t185 t188 _ ?side1 ?side2 ?side3 ?side4 ?side5 ?side6 A14.out).mono ?_);(case side1 => exact kC HR0_0.out HB.out);(case side2 => exact HC0_0.out);(case side3 => exact kC HR0_2.out HB.out);(case side4 => exact HC0_2.out);(case side5 => repeat (first | exact (Kd.S_reads' HO184.out).2.2 | (with_reducible refine Kd.C_alloc ?_ _) | (with_reducible refine Kd.C_drewN ?_ _) | (with_reducible refine Kd.C_drew ?_)));(case side6 => exact (Kd.S_reads' HO184.out).2.1);rintro e w18 ⟨v186,rfl,ho0,hb⟩;refine ⟨_,rfl,?_⟩;have HO187 := am (Kd.R_lower ho0 (below_size (HB.out)));replace HO184 := am (Kd.S_elder' HO184.out (Kd.R_base ho0) hb);replace BK164 := (kmv hb BK164);replace HB := am (below_step (HB.out) hb);(try clear hb);(try clear hb2);(try clear hk);(try clear hi);(try clear ho0)))
     go_ret3
     exact ⟨_,by first | rfl | (simp [*] <;> rfl),by (with_reducible repeat (first | apply Kd.R_alloc | apply Kd.R_drewN | apply Kd.R_drew));exact HO187.out,HB.out⟩
end
def isSpan_isFlow.f (a0_0 a0_1 : Int) : Option Bool := (ca_isFlow.f a0_0).bind fun t => if t = true then (ca_isFlow.f a0_1).bind fun u => (if u = true then some (decide (a0_0 ≤ a0_1)) else some false) else some false
theorem isSpan_isFlow.calls (a0_0 a0_1 : Int) (r : Bool) (w : World) (h : isSpan_isFlow.f a0_0 a0_1 = some r) :
 Calls Tryz.prog 66 #[.agg #[.int .i64 a0_0,.int .i64 a0_1],.func (.func 58) #[] #[]] w fun e w' => e = .returned (.bool r) ∧ Below w.heap.size w w' := by
 have hu := Tryz.underlying40
 have HB := Aside0.mk (Below.refl w.heap.size w)
 unfold isSpan_isFlow.f at h
 obtain ⟨t,ht,h⟩ := obm h
 have H1 := Aside0.mk ht
 clear ht
 cases t with
 | false =>
  rw [if_neg (by decide)] at h
  obtain rfl := Option.some.inj h
  clear h
  go_enter Tryz.func66,Tryz.ntmps66
  go_wp2_with (first | ((with_reducible refine gate_dst (N := 2) rfl ?_);(try (refine gate_guard (by rfl) ?_;dsimp only));refine box_event ?hg (N := 2) ?hd (cs := #[.int .i64 a0_0,.int .i64 a0_1]) (t := 40) ?hr ?_;(case hd => rfl);(case hg => rfl);(case hr => go_simp;try rfl);intro g hg w2 hbox hb;have n_ := Aside0.mk (below_then HB.out HB.out.size hb);clear HB;have HB := n_;clear n_;clear hg;have BKg := Aside0.mk hbox;clear hbox;have hczg_0 : w2.cell? ⟨g,0,none⟩ = some (.int .i64 a0_0) := (blk_cell BKg.out 0).trans rfl;have hfzg_0 := blk_frozen BKg.out 0;have hczg_1 : w2.cell? ⟨g,1,none⟩ = some (.int .i64 a0_1) := (blk_cell BKg.out 1).trans rfl;have hfzg_1 := blk_frozen BKg.out 1;clear hb) | (go_at_call 58;(with_reducible refine (ca_isFlow.calls a0_0 false _ H1.out).mono ?_);rintro e w1 ⟨rfl,hd⟩;have hb := hd.below;clear hd;have n_ := Aside0.mk (below_then HB.out HB.out.size hb);clear HB;have HB := n_;clear n_;have n_ := Aside0.mk (blk_below BKg.out hb);clear BKg;have BKg := n_;clear n_;have hczg_0 : w1.cell? ⟨g,0,none⟩ = some (.int .i64 a0_0) := (blk_cell BKg.out 0).trans rfl;have hfzg_0 := blk_frozen BKg.out 0;have hczg_1 : w1.cell? ⟨g,1,none⟩ = some (.int .i64 a0_1) := (blk_cell BKg.out 1).trans rfl;have hfzg_1 := blk_frozen BKg.out 1;clear hb))
  go_ret
  exact ⟨rfl,HB.out⟩
 | true =>
  rw [if_pos rfl] at h
  obtain ⟨u,hu2,h⟩ := obm h
  have H2 := Aside0.mk hu2
  clear hu2
  cases u with
  | false =>
   rw [if_neg (by decide)] at h
   obtain rfl := Option.some.inj h
   clear h
   go_enter Tryz.func66,Tryz.ntmps66
   go_wp2_with (first | ((with_reducible refine gate_dst (N := 2) rfl ?_);(try (refine gate_guard (by rfl) ?_;dsimp only));refine box_event ?hg (N := 2) ?hd (cs := #[.int .i64 a0_0,.int .i64 a0_1]) (t := 40) ?hr ?_;(case hd => rfl);(case hg => rfl);(case hr => go_simp;try rfl);intro g hg w2 hbox hb;have n_ := Aside0.mk (below_then HB.out HB.out.size hb);clear HB;have HB := n_;clear n_;clear hg;have BKg := Aside0.mk hbox;clear hbox;have hczg_0 : w2.cell? ⟨g,0,none⟩ = some (.int .i64 a0_0) := (blk_cell BKg.out 0).trans rfl;have hfzg_0 := blk_frozen BKg.out 0;have hczg_1 : w2.cell? ⟨g,1,none⟩ = some (.int .i64 a0_1) := (blk_cell BKg.out 1).trans rfl;have hfzg_1 := blk_frozen BKg.out 1;clear hb) | (go_at_call 58;(with_reducible refine (ca_isFlow.calls a0_0 true _ H1.out).mono ?_);rintro e w1 ⟨rfl,hd⟩;have hb := hd.below;clear hd;have n_ := Aside0.mk (below_then HB.out HB.out.size hb);clear HB;have HB := n_;clear n_;have n_ := Aside0.mk (blk_below BKg.out hb);clear BKg;have BKg := n_;clear n_;have hczg_0 : w1.cell? ⟨g,0,none⟩ = some (.int .i64 a0_0) := (blk_cell BKg.out 0).trans rfl;have hfzg_0 := blk_frozen BKg.out 0;have hczg_1 : w1.cell? ⟨g,1,none⟩ = some (.int .i64 a0_1) := (blk_cell BKg.out 1).trans rfl;have hfzg_1 := blk_frozen BKg.out 1;clear hb) | (go_at_call 58;(with_reducible refine (ca_isFlow.calls a0_1 false _ H2.out).mono ?_);rintro e w1 ⟨rfl,hd⟩;have hb := hd.below;clear hd;have n_ := Aside0.mk (below_then HB.out HB.out.size hb);clear HB;have HB := n_;clear n_;have n_ := Aside0.mk (blk_below BKg.out hb);clear BKg;have BKg := n_;clear n_;have hczg_0 : w1.cell? ⟨g,0,none⟩ = some (.int .i64 a0_0) := (blk_cell BKg.out 0).trans rfl;have hfzg_0 := blk_frozen BKg.out 0;have hczg_1 : w1.cell? ⟨g,1,none⟩ = some (.int .i64 a0_1) := (blk_cell BKg.out 1).trans rfl;have hfzg_1 := blk_frozen BKg.out 1;clear hb))
   go_ret
   exact ⟨rfl,HB.out⟩
  | true =>
   rw [if_pos rfl] at h
   have H3 := Aside0.mk (ret_bool_eq (Option.some.inj h))
   clear h
   go_enter Tryz.func66,Tryz.ntmps66
   go_wp2_with (first | ((with_reducible refine gate_dst (N := 2) rfl ?_);(try (refine gate_guard (by rfl) ?_;dsimp only));refine box_event ?hg (N := 2) ?hd (cs := #[.int .i64 a0_0,.int .i64 a0_1]) (t := 40) ?hr ?_;(case hd => rfl);(case hg => rfl);(case hr => go_simp;try rfl);intro g hg w2 hbox hb;have n_ := Aside0.mk (below_then HB.out HB.out.size hb);clear HB;have HB := n_;clear n_;clear hg;have BKg := Aside0.mk hbox;clear hbox;have hczg_0 : w2.cell? ⟨g,0,none⟩ = some (.int .i64 a0_0) := (blk_cell BKg.out 0).trans rfl;have hfzg_0 := blk_frozen BKg.out 0;have hczg_1 : w2.cell? ⟨g,1,none⟩ = some (.int .i64 a0_1) := (blk_cell BKg.out 1).trans rfl;have hfzg_1 := blk_frozen BKg.out 1;clear hb) | (go_at_call 58;(with_reducible refine (ca_isFlow.calls a0_0 true _ H1.out).mono ?_);rintro e w1 ⟨rfl,hd⟩;have hb := hd.below;clear hd;have n_ := Aside0.mk (below_then HB.out HB.out.size hb);clear HB;have HB := n_;clear n_;have n_ := Aside0.mk (blk_below BKg.out hb);clear BKg;have BKg := n_;clear n_;have hczg_0 : w1.cell? ⟨g,0,none⟩ = some (.int .i64 a0_0) := (blk_cell BKg.out 0).trans rfl;have hfzg_0 := blk_frozen BKg.out 0;have hczg_1 : w1.cell? ⟨g,1,none⟩ = some (.int .i64 a0_1) := (blk_cell BKg.out 1).trans rfl;have hfzg_1 := blk_frozen BKg.out 1;clear hb) | (go_at_call 58;(with_reducible refine (ca_isFlow.calls a0_1 true _ H2.out).mono ?_);rintro e w1 ⟨rfl,hd⟩;have hb := hd.below;clear hd;have n_ := Aside0.mk (below_then HB.out HB.out.size hb);clear HB;have HB := n_;clear n_;have n_ := Aside0.mk (blk_below BKg.out hb);clear BKg;have BKg := n_;clear n_;have hczg_0 : w1.cell? ⟨g,0,none⟩ = some (.int .i64 a0_0) := (blk_cell BKg.out 0).trans rfl;have hfzg_0 := blk_frozen BKg.out 0;have hczg_1 : w1.cell? ⟨g,1,none⟩ = some (.int .i64 a0_1) := (blk_cell BKg.out 1).trans rfl;have hfzg_1 := blk_frozen BKg.out 1;clear hb))
   go_ret
   exact ⟨H3.out,HB.out⟩
section
attribute [local go_sem] max2_int min2_int max_two min_two
def ca_Level.j0 : Nat → Bool → List (S126) → Int → List (S64) → Int → Int → Int → Int → Option (Int × Int × Int)
 | 0,_,_,_,_,_,_,_,_ => none
 | k + 1,x14,x193000,x193001,x193002,x193003,x193004,x194000,x194001 => if x14 = true then (some (0,0,2)) else ((ca_fill.f k x193000 x193001 x193002 x193003 x193004).bind fun bt209 => ((gf_level.f x193000 bt209.1 x193002 bt209.2.1 bt209.2.2.1 bt209.2.2.2 x194000).bind fun t216 => ((gf_level.f x193000 bt209.1 x193002 bt209.2.1 bt209.2.2.1 bt209.2.2.2 x194001).bind fun t217 => (some (t216,t217,0)))))
def ca_Level.f (k : Nat) (l0_0 : List (S126)) (a0_1 : Int) (l0_2 : List (S64)) (a0_3 : Int) (a0_4 : Int) (a1_0 : Int) (a1_1 : Int) : Option (Int × Int × Int) := (ca_isBasin.f l0_0 a0_1 l0_2 a0_3 a0_4).bind fun t195 => (if t195 = true then ((isSpan_isFlow.f a1_0 a1_1).bind fun t196 => (ca_Level.j0 k (!t196) l0_0 a0_1 l0_2 a0_3 a0_4 a1_0 a1_1)) else (ca_Level.j0 k true l0_0 a0_1 l0_2 a0_3 a0_4 a1_0 a1_1))
def ca_Level.T4 : Bool × List (List Nat × List Nat) := (true,[([],[]),([],[]),([1],[1]),([0,2],[0,2]),([],[]),([],[]),([5],[5]),([4,6,3],[4,6]),([3,7],[3,7]),([8,7,0,1,2,3,4,5,6,7,8],[8]),([9,0,1,2,3,4,5,6,7,8,9],[])])
def ca_Level.B4 : List Nat := [0,0,2,7,0,0,32,127,255,511,1023]
theorem ca_Level.tab4 : rtab .any (opsOf Tryz.f22 4) = ca_Level.T4 := by kernel_rfl
theorem ca_Level.bits4 : waitsOk ca_Level.T4.2 ca_Level.B4 = true := by kernel_rfl
theorem ca_Level.calls (k : Nat) (A0_0 : Option Addr) (c0_0 : Nat) (l0_0 : List (S126)) (a0_1 : Int) (A0_2 : Option Addr) (c0_2 : Nat) (l0_2 : List (S64)) (a0_3 : Int) (a0_4 : Int) (a1_0 : Int) (a1_1 : Int) (r1 : Int) (r2 : Int) (r3 : Int) (w : World) (hr0_0 : Kd.C k126 w A0_0 l0_0.length l0_0) (hc0_0 : l0_0.length ≤ c0_0) (hr0_2 : Kd.C k64 w A0_2 l0_2.length l0_2) (hc0_2 : l0_2.length ≤ c0_2) (h : ca_Level.f k l0_0 a0_1 l0_2 a0_3 a0_4 a1_0 a1_1 = some (r1,r2,r3)) :
 Calls Tryz.prog 22 #[.agg #[.slice A0_0 l0_0.length c0_0,.int .i64 a0_1,.slice A0_2 l0_2.length c0_2,.int .i64 a0_3,.int .i64 a0_4],.agg #[.int .i64 a1_0,.int .i64 a1_1]] w fun e w' => e = .returned (.tuple #[.agg #[.int .i64 r1,.int .i64 r2],.int .i64 r3]) ∧ Below w.heap.size w w' := by
 have hu27 := Tryz.underlying27
 have hu40 := Tryz.underlying40
 have hu99 := Tryz.underlying99
 have HR0_0 := am hr0_0
 have HC0_0 := am hc0_0
 clear hr0_0 hc0_0
 have HR0_2 := am hr0_2
 have HC0_2 := am hc0_2
 clear hr0_2 hc0_2
 have HB := am (Below.refl w.heap.size w)
 have H : ((ca_isBasin.f l0_0 a0_1 l0_2 a0_3 a0_4).bind fun t195 => (if t195 = true then ((isSpan_isFlow.f a1_0 a1_1).bind fun t196 => (ca_Level.j0 k (!t196) l0_0 a0_1 l0_2 a0_3 a0_4 a1_0 a1_1)) else (ca_Level.j0 k true l0_0 a0_1 l0_2 a0_3 a0_4 a1_0 a1_1))) = some (r1,r2,r3) := h
 clear h
 have HC3 := am H
 clear H
 go_enter Tryz.func22,Tryz.ntmps22
 go_upto_region 1 with (first | ((refine gate_dst (N := 2) rfl ?_);refine box_event rfl (N := 2) rfl (cs := #[.slice A0_0 l0_0.length c0_0,.int .i64 a0_1,.slice A0_2 l0_2.length c0_2,.int .i64 a0_3,.int .i64 a0_4]) (t := 27) ?hr ?_;(case hr => go_simp;try rfl);intro gb192 hg w4 hbox hb;have BK192 := am (hbox);have GW192 := am (ge_new (HB.out) hg);have GE192 := am (ge_new (HB.out) hg);replace HB := am (below_step (HB.out) hb);clear hb hbox hg) | ((refine gate_dst (N := 3) rfl ?_);refine box_event rfl (N := 3) rfl (cs := #[.int .i64 a1_0,.int .i64 a1_1]) (t := 40) ?hr ?_;(case hr => go_simp;try rfl);intro gb193 hg w5 hbox hb;have BK193 := am (hbox);have GW193 := am (ge_new (HB.out) hg);have GE193 := am (ge_new (HB.out) hg);have NB192_193 := am (ne_new BK192.out hg);have NB193_192 := am (ne_new2 BK192.out hg);replace BK192 := (kmv hb BK192);replace HB := am (below_step (HB.out) hb);clear hb hbox hg) | ((refine gate_dst (N := 4) rfl ?_);refine box_event rfl (N := 4) rfl (cs := #[.int .i64 0,.int .i64 0]) (t := 40) ?hr ?_;(case hr => go_simp;try rfl);intro gb194 hg w6 hbox hb;have BK194 := am (hbox);have GW194 := am (ge_new (HB.out) hg);have GE194 := am (ge_new (HB.out) hg);have NB192_194 := am (ne_new BK192.out hg);have NB194_192 := am (ne_new2 BK192.out hg);have NB193_194 := am (ne_new BK193.out hg);have NB194_193 := am (ne_new2 BK193.out hg);replace BK192 := (kmv hb BK192);replace BK193 := (kmv hb BK193);replace HB := am (below_step (HB.out) hb);clear hb hbox hg))
 (try simp only [Act.put,List.setIfInBounds_toArray,List.set_cons_zero,List.set_cons_succ])
 go_cut [14] (fun v14 wc => ∃ (kq : Nat) (x14_2 : Bool),v14 = .bool x14_2 ∧ Aside0 (ca_Level.j0 kq x14_2 l0_0 a0_1 l0_2 a0_3 a0_4 a1_0 a1_1 = some (r1,r2,r3)) ∧ Aside0 (kq ≤ k) ∧ Aside0 (wc.heap[gb192]? = some (.cells #[(.slice A0_0 l0_0.length c0_0),.int .i64 a0_1,(.slice A0_2 l0_2.length c0_2),.int .i64 a0_3,.int .i64 a0_4] 27 (0,0))) ∧ Aside0 (wc.heap[gb193]? = some (.cells #[.int .i64 a1_0,.int .i64 a1_1] 40 (0,0))) ∧ Aside0 (wc.heap[gb194]? = some (.cells #[.int .i64 0,.int .i64 0] 40 (0,0))) ∧ Aside0 (Below w.heap.size w wc))
 case first =>
  have H := HC3.out
  clear HC3
  replace H := obm H
  obtain ⟨t195,A70,H⟩ := H
  replace H : (if t195 = true then ((isSpan_isFlow.f a1_0 a1_1).bind fun t196 => (ca_Level.j0 k (!t196) l0_0 a0_1 l0_2 a0_3 a0_4 a1_0 a1_1)) else (ca_Level.j0 k true l0_0 a0_1 l0_2 a0_3 a0_4 a1_0 a1_1)) = some (r1,r2,r3) := H
  have A7 := am A70
  clear A70
  by_cases c8 : t195 = true
  case neg =>
   replace c8 := Bool.eq_false_iff.mpr c8
   subst c8
   replace H : (ca_Level.j0 k true l0_0 a0_1 l0_2 a0_3 a0_4 a1_0 a1_1) = some (r1,r2,r3) := by rw [if_neg (show ¬ (false = true) by decide)] at H;exact H
   replace H' := am H
   have hnb17 := NB192_193.out
   have hnc17 := NB193_192.out
   have hnb18 := NB192_194.out
   have hnc18 := NB194_192.out
   obtain ⟨hcz19_0,hcz19_1,hcz19_2,hcz19_3,hcz19_4⟩ := cO5 BK192.out
   go_wp2_with (first | ((with_reducible refine gate_callee (f := 57) rfl ?_);refine goesL_ (some 8) rfl rfl Tryz.func57 (by kernel_rfl) rfl #[.agg #[.slice A0_0 l0_0.length c0_0,.int .i64 a0_1,.slice A0_2 l0_2.length c0_2,.int .i64 a0_3,.int .i64 a0_4]] rfl (by (try simp only [List.map_toArray,List.map_cons,List.map_nil]);first | done | rfl | (simp only [List.length_drop,List.length_take];rfl)) ?_;(refine (ca_isBasin.calls _ _ l0_0 a0_1 _ _ l0_2 a0_3 a0_4 false _ ?side1 ?side2 ?side3 ?side4 A7.out).mono ?_);(case side1 => exact kC HR0_0.out HB.out);(case side2 => exact HC0_0.out);(case side3 => exact kC HR0_2.out HB.out);(case side4 => exact HC0_2.out);rintro e w20 ⟨rfl,hb⟩;refine ⟨_,rfl,?_⟩;replace BK192 := (kmv hb BK192);replace BK193 := (kmv hb BK193);replace BK194 := (kmv hb BK194);replace HB := am (below_step (HB.out) hb);(try clear hb);(try clear hb2);(try clear hk);(try clear hi)))
   go_meet
   case rel => exact ⟨_,(true),(by first | rfl | (simp;done) | (simp [*];done)),H',⟨by first | omega | exact Nat.le_refl _⟩,⟨BK192.out⟩,⟨BK193.out⟩,⟨BK194.out⟩,⟨HB.out⟩⟩
  subst c8
  replace H : ((isSpan_isFlow.f a1_0 a1_1).bind fun t196 => (ca_Level.j0 k (!t196) l0_0 a0_1 l0_2 a0_3 a0_4 a1_0 a1_1)) = some (r1,r2,r3) := by rw [if_pos rfl] at H;exact H
  replace H := obm H
  obtain ⟨t196,A90,H⟩ := H
  replace H : (ca_Level.j0 k (!t196) l0_0 a0_1 l0_2 a0_3 a0_4 a1_0 a1_1) = some (r1,r2,r3) := H
  have A9 := am A90
  clear A90
  replace H' := am H
  have hnb10 := NB192_193.out
  have hnc10 := NB193_192.out
  have hnb11 := NB192_194.out
  have hnc11 := NB194_192.out
  obtain ⟨hcz12_0,hcz12_1,hcz12_2,hcz12_3,hcz12_4⟩ := cO5 BK192.out
  go_wp2_with (first | ((with_reducible refine gate_callee (f := 57) rfl ?_);refine goesL_ (some 8) rfl rfl Tryz.func57 (by kernel_rfl) rfl #[.agg #[.slice A0_0 l0_0.length c0_0,.int .i64 a0_1,.slice A0_2 l0_2.length c0_2,.int .i64 a0_3,.int .i64 a0_4]] rfl (by (try simp only [List.map_toArray,List.map_cons,List.map_nil]);first | done | rfl | (simp only [List.length_drop,List.length_take];rfl)) ?_;(refine (ca_isBasin.calls _ _ l0_0 a0_1 _ _ l0_2 a0_3 a0_4 true _ ?side1 ?side2 ?side3 ?side4 A7.out).mono ?_);(case side1 => exact kC HR0_0.out HB.out);(case side2 => exact HC0_0.out);(case side3 => exact kC HR0_2.out HB.out);(case side4 => exact HC0_2.out);rintro e w13 ⟨rfl,hb⟩;refine ⟨_,rfl,?_⟩;replace BK192 := (kmv hb BK192);replace BK193 := (kmv hb BK193);replace BK194 := (kmv hb BK194);replace HB := am (below_step (HB.out) hb);(try clear hb);(try clear hb2);(try clear hk);(try clear hi);have hnb14 := NB193_194.out;have hnc14 := NB194_193.out;obtain ⟨hcz15_0,hcz15_1⟩ := cO2 BK193.out) | (go_at_call 66;(refine (isSpan_isFlow.calls a1_0 a1_1  t196 _ A9.out).mono ?_);rintro e w16 ⟨rfl,hb⟩;replace BK192 := (kmv hb BK192);replace BK193 := (kmv hb BK193);replace BK194 := (kmv hb BK194);replace HB := am (below_step (HB.out) hb);(try clear hb);(try clear hb2);(try clear hk);(try clear hi)))
  go_meet
  case rel => exact ⟨_,(!t196),(by first | rfl | (simp;done) | (simp [*];done)),H',⟨by first | omega | exact Nat.le_refl _⟩,⟨BK192.out⟩,⟨BK193.out⟩,⟨BK194.out⟩,⟨HB.out⟩⟩
 case rest =>
  clear HC3
  obtain ⟨kq,x14_2,rfl,HA,HJ2,BK192,BK193,BK194,HB⟩ := hcut
  cases kq with
  | zero => exact absurd HA.out (by simp [ca_Level.j0])
  | succ kj2 =>
   have H := HA.out
   clear HA
   simp only [ca_Level.j0] at H
   by_cases c21 : x14_2 = true
   · subst c21
     replace H : (some (0,0,2)) = some (r1,r2,r3) := by rw [if_pos rfl] at H;exact H
     simp only [Option.some.injEq,Prod.mk.injEq] at H
     obtain ⟨rfl,rfl,rfl⟩ := H
     have hnb22 := NB194_192.out
     have hnc22 := NB192_194.out
     have hnb23 := NB194_193.out
     have hnc23 := NB193_194.out
     obtain ⟨hcz24_0,hcz24_1⟩ := cO2 BK194.out
     have hfz24_0 := blk_frozen BK194.out 0
     have hfz24_1 := blk_frozen BK194.out 1
     go_wp2
     refine bodyPost_ret (results_ct rfl _ _ gb194 40 #[.int .i64 0,.int .i64 0] (0,0) _ rfl (blk_put (cs := #[.int .i64 0,.int .i64 0]) (blk_put (cs := #[.int .i64 0,.int .i64 0]) BK194.out 0 _ rfl) 1 _ rfl) Tryz.underlying40 rfl (by kernel_rfl)) rfl ?_
     exact ⟨by first | rfl | (simp [*] <;> rfl),by repeat (first | (with_reducible first | exact HB.out | refine below_set ?_ (Aside0.out (by assumption)) | apply below_alloc | apply pw_below_drewN) | exact HB.out)⟩
   · replace c21 := Bool.eq_false_iff.mpr c21
     subst c21
     replace H : ((ca_fill.f kj2 l0_0 a0_1 l0_2 a0_3 a0_4).bind fun bt209 => ((gf_level.f l0_0 bt209.1 l0_2 bt209.2.1 bt209.2.2.1 bt209.2.2.2 a1_0).bind fun t216 => ((gf_level.f l0_0 bt209.1 l0_2 bt209.2.1 bt209.2.2.1 bt209.2.2.2 a1_1).bind fun t217 => (some (t216,t217,0))))) = some (r1,r2,r3) := by rw [if_neg (show ¬ (false = true) by decide)] at H;exact H
     replace H := obm H
     obtain ⟨⟨t209,t210,t211,t212⟩,A250,H⟩ := H
     replace H : ((gf_level.f l0_0 t209 l0_2 t210 t211 t212 a1_0).bind fun t216 => ((gf_level.f l0_0 t209 l0_2 t210 t211 t212 a1_1).bind fun t217 => (some (t216,t217,0)))) = some (r1,r2,r3) := H
     have A25 := am A250
     clear A250
     replace H := obm H
     obtain ⟨t216,A260,H⟩ := H
     replace H : ((gf_level.f l0_0 t209 l0_2 t210 t211 t212 a1_1).bind fun t217 => (some (t216,t217,0))) = some (r1,r2,r3) := H
     have A26 := am A260
     clear A260
     replace H := obm H
     obtain ⟨t217,A270,H⟩ := H
     replace H : (some (t216,t217,0)) = some (r1,r2,r3) := H
     have A27 := am A270
     clear A270
     simp only [Option.some.injEq,Prod.mk.injEq] at H
     obtain ⟨rfl,rfl,rfl⟩ := H
     have hnb28 := NB192_193.out
     have hnc28 := NB193_192.out
     have hnb29 := NB192_194.out
     have hnc29 := NB194_192.out
     obtain ⟨hcz30_0,hcz30_1,hcz30_2,hcz30_3,hcz30_4⟩ := cO5 BK192.out
     try go_wp2_with (first | ((with_reducible refine gate_callee (f := 59) rfl ?_);refine goesL_ (some 17) rfl rfl Tryz.func59 (by kernel_rfl) rfl #[.agg #[.slice A0_0 l0_0.length c0_0,.int .i64 a0_1,.slice A0_2 l0_2.length c0_2,.int .i64 a0_3,.int .i64 a0_4]] rfl (by (try simp only [List.map_toArray,List.map_cons,List.map_nil]);first | done | rfl | (simp only [List.length_drop,List.length_take];rfl)) ?_;(refine (ca_fill.calls kj2 _ _ l0_0 a0_1 _ _ l0_2 a0_3 a0_4 t209 t210 t211 t212 _ ?side1 ?side2 ?side3 ?side4 A25.out).mono ?_);(case side1 => exact kC HR0_0.out HB.out);(case side2 => exact HC0_0.out);(case side3 => exact kC HR0_2.out HB.out);(case side4 => exact HC0_2.out);rintro e w31 ⟨v213,rfl,ho0,hb⟩;refine ⟨_,rfl,?_⟩;have HO214 := am (Kd.S_lower ho0 (below_size (HB.out)));replace BK192 := (kmv hb BK192);replace BK193 := (kmv hb BK193);replace BK194 := (kmv hb BK194);replace HB := am (below_step (HB.out) hb);(try clear hb);(try clear hb2);(try clear hk);(try clear hi);(try clear ho0)) | ((refine gate_dst (N := 6) rfl ?_);refine box_event rfl (N := 6) rfl (cs := #[.slice none 0 0,.int .i64 0,.slice none 0 0,.int .i64 0,.int .i64 0,.slice none 0 0]) (t := 99) ?hr ?_;(case hr => go_simp;try rfl);intro gb215 hg w32 hbox hb;have BK215 := am (hbox);have GW215 := am (ge_new (HB.out) hg);have GE215 := am (ge_new (HB.out) hg);have NB192_215 := am (ne_new BK192.out hg);have NB215_192 := am (ne_new2 BK192.out hg);have NB193_215 := am (ne_new BK193.out hg);have NB215_193 := am (ne_new2 BK193.out hg);have NB194_215 := am (ne_new BK194.out hg);have NB215_194 := am (ne_new2 BK194.out hg);replace HO214 := am (Kd.S_below HO214.out hb);replace BK192 := (kmv hb BK192);replace BK193 := (kmv hb BK193);replace BK194 := (kmv hb BK194);replace HB := am (below_step (HB.out) hb);clear hb hbox hg;have hnb33 := NB215_192.out;have hnc33 := NB192_215.out;have hnb34 := NB215_193.out;have hnc34 := NB193_215.out;have hnb35 := NB215_194.out;have hnc35 := NB194_215.out;obtain ⟨hcz36_0,hcz36_1,hcz36_2,hcz36_3,hcz36_4,hcz36_5⟩ := cO6 BK215.out;have hfz36_0 := blk_frozen BK215.out 0;have hfz36_1 := blk_frozen BK215.out 1;have hfz36_2 := blk_frozen BK215.out 2;have hfz36_3 := blk_frozen BK215.out 3;have hfz36_4 := blk_frozen BK215.out 4;have hfz36_5 := blk_frozen BK215.out 5;obtain ⟨Ao37,co37,eo37⟩ := Kd.S_slice HO214.out;subst eo37))
     have n0_ : Aside0 (Kd.S (Kd.slice 3 (Kd.int .i64)) 30 ((((((w32.setCell ⟨gb215,0,none⟩ (.slice A0_0 l0_0.length c0_0)).setCell ⟨gb215,1,none⟩ (.int .i64 t209)).setCell ⟨gb215,2,none⟩ (.slice A0_2 l0_2.length c0_2)).setCell ⟨gb215,3,none⟩ (.int .i64 t210)).setCell ⟨gb215,4,none⟩ (.int .i64 t211)).setCell ⟨gb215,5,none⟩ (.slice Ao37 t212.length co37)) w.heap.size (fun _ => True) (.slice Ao37 t212.length co37) t212) := ⟨by (with_reducible repeat (first | apply Kd.S_alloc | apply Kd.S_drewN | apply Kd.S_drew));exact Kd.S_mono (Kd.S_far (p := ⟨gb215,5,none⟩) (Kd.S_far (p := ⟨gb215,4,none⟩) (Kd.S_far (p := ⟨gb215,3,none⟩) (Kd.S_far (p := ⟨gb215,2,none⟩) (Kd.S_far (p := ⟨gb215,1,none⟩) (Kd.S_far (p := ⟨gb215,0,none⟩) (Kd.S_types HO214.out BK215.out (by decide)) (fun _ hk => hk.2) (.slice A0_0 l0_0.length c0_0)) (fun _ hk => hk.2) (.int .i64 t209)) (fun _ hk => hk.2) (.slice A0_2 l0_2.length c0_2)) (fun _ hk => hk.2) (.int .i64 t210)) (fun _ hk => hk.2) (.int .i64 t211)) (fun _ hk => hk.2) (.slice Ao37 t212.length co37)) (fun _ hk => trivial)⟩
     have n1_ : Aside0 (((((((w32.setCell ⟨gb215,0,none⟩ (.slice A0_0 l0_0.length c0_0)).setCell ⟨gb215,1,none⟩ (.int .i64 t209)).setCell ⟨gb215,2,none⟩ (.slice A0_2 l0_2.length c0_2)).setCell ⟨gb215,3,none⟩ (.int .i64 t210)).setCell ⟨gb215,4,none⟩ (.int .i64 t211)).setCell ⟨gb215,5,none⟩ (.slice Ao37 t212.length co37)).heap[gb192]? = some (.cells #[.slice A0_0 l0_0.length c0_0,.int .i64 a0_1,.slice A0_2 l0_2.length c0_2,.int .i64 a0_3,.int .i64 a0_4] 27 (0,0))) := ⟨(blk_far (blk_far (blk_far (blk_far (blk_far (blk_far BK192.out NB192_215.out _) NB192_215.out _) NB192_215.out _) NB192_215.out _) NB192_215.out _) NB192_215.out _)⟩
     have n2_ : Aside0 (((((((w32.setCell ⟨gb215,0,none⟩ (.slice A0_0 l0_0.length c0_0)).setCell ⟨gb215,1,none⟩ (.int .i64 t209)).setCell ⟨gb215,2,none⟩ (.slice A0_2 l0_2.length c0_2)).setCell ⟨gb215,3,none⟩ (.int .i64 t210)).setCell ⟨gb215,4,none⟩ (.int .i64 t211)).setCell ⟨gb215,5,none⟩ (.slice Ao37 t212.length co37)).heap[gb193]? = some (.cells #[.int .i64 a1_0,.int .i64 a1_1] 40 (0,0))) := ⟨(blk_far (blk_far (blk_far (blk_far (blk_far (blk_far BK193.out NB193_215.out _) NB193_215.out _) NB193_215.out _) NB193_215.out _) NB193_215.out _) NB193_215.out _)⟩
     have n3_ : Aside0 (((((((w32.setCell ⟨gb215,0,none⟩ (.slice A0_0 l0_0.length c0_0)).setCell ⟨gb215,1,none⟩ (.int .i64 t209)).setCell ⟨gb215,2,none⟩ (.slice A0_2 l0_2.length c0_2)).setCell ⟨gb215,3,none⟩ (.int .i64 t210)).setCell ⟨gb215,4,none⟩ (.int .i64 t211)).setCell ⟨gb215,5,none⟩ (.slice Ao37 t212.length co37)).heap[gb194]? = some (.cells #[.int .i64 0,.int .i64 0] 40 (0,0))) := ⟨(blk_far (blk_far (blk_far (blk_far (blk_far (blk_far BK194.out NB194_215.out _) NB194_215.out _) NB194_215.out _) NB194_215.out _) NB194_215.out _) NB194_215.out _)⟩
     have n4_ : Aside0 (((((((w32.setCell ⟨gb215,0,none⟩ (.slice A0_0 l0_0.length c0_0)).setCell ⟨gb215,1,none⟩ (.int .i64 t209)).setCell ⟨gb215,2,none⟩ (.slice A0_2 l0_2.length c0_2)).setCell ⟨gb215,3,none⟩ (.int .i64 t210)).setCell ⟨gb215,4,none⟩ (.int .i64 t211)).setCell ⟨gb215,5,none⟩ (.slice Ao37 t212.length co37)).heap[gb215]? = some (.cells #[.slice A0_0 l0_0.length c0_0,.int .i64 t209,.slice A0_2 l0_2.length c0_2,.int .i64 t210,.int .i64 t211,.slice Ao37 t212.length co37] 99 (0,0))) := ⟨(blk_put (cs := #[.slice A0_0 l0_0.length c0_0,.int .i64 t209,.slice A0_2 l0_2.length c0_2,.int .i64 t210,.int .i64 t211,.slice none 0 0]) (blk_put (cs := #[.slice A0_0 l0_0.length c0_0,.int .i64 t209,.slice A0_2 l0_2.length c0_2,.int .i64 t210,.int .i64 0,.slice none 0 0]) (blk_put (cs := #[.slice A0_0 l0_0.length c0_0,.int .i64 t209,.slice A0_2 l0_2.length c0_2,.int .i64 0,.int .i64 0,.slice none 0 0]) (blk_put (cs := #[.slice A0_0 l0_0.length c0_0,.int .i64 t209,.slice none 0 0,.int .i64 0,.int .i64 0,.slice none 0 0]) (blk_put (cs := #[.slice A0_0 l0_0.length c0_0,.int .i64 0,.slice none 0 0,.int .i64 0,.int .i64 0,.slice none 0 0]) (blk_put (cs := #[.slice none 0 0,.int .i64 0,.slice none 0 0,.int .i64 0,.int .i64 0,.slice none 0 0]) BK215.out 0 _ rfl) 1 _ rfl) 2 _ rfl) 3 _ rfl) 4 _ rfl) 5 _ rfl)⟩
     have n5_ : Aside0 (Below w.heap.size w ((((((w32.setCell ⟨gb215,0,none⟩ (.slice A0_0 l0_0.length c0_0)).setCell ⟨gb215,1,none⟩ (.int .i64 t209)).setCell ⟨gb215,2,none⟩ (.slice A0_2 l0_2.length c0_2)).setCell ⟨gb215,3,none⟩ (.int .i64 t210)).setCell ⟨gb215,4,none⟩ (.int .i64 t211)).setCell ⟨gb215,5,none⟩ (.slice Ao37 t212.length co37))) := ⟨by repeat (first | (with_reducible first | exact HB.out | refine below_set ?_ (Aside0.out (by assumption)) | apply below_alloc | apply pw_below_drewN) | exact HB.out)⟩
     (try clear HO214)
     (try clear BK192)
     (try clear BK193)
     (try clear BK194)
     (try clear BK215)
     (try clear HB)
     generalize ((((((w32.setCell ⟨gb215,0,none⟩ (.slice A0_0 l0_0.length c0_0)).setCell ⟨gb215,1,none⟩ (.int .i64 t209)).setCell ⟨gb215,2,none⟩ (.slice A0_2 l0_2.length c0_2)).setCell ⟨gb215,3,none⟩ (.int .i64 t210)).setCell ⟨gb215,4,none⟩ (.int .i64 t211)).setCell ⟨gb215,5,none⟩ (.slice Ao37 t212.length co37)) = w38 at n0_ n1_ n2_ n3_ n4_ n5_ ⊢
     have HO214 := n0_
     have BK192 := n1_
     have BK193 := n2_
     have BK194 := n3_
     have BK215 := n4_
     have HB := n5_
     clear n0_ n1_ n2_ n3_ n4_ n5_
     replace HO214 := am (Kd.S_drew HO214.out)
     replace BK192 := am (blk_drew BK192.out)
     replace BK193 := am (blk_drew BK193.out)
     replace BK194 := am (blk_drew BK194.out)
     replace BK215 := am (blk_drew BK215.out)
     replace HB := am (below_drew1 HB.out)
     refine start_ (n := 11) (S := fun w' => w'.cell? ⟨gb215,0,none⟩ = some (.slice A0_0 l0_0.length c0_0) ∧ w'.cell? ⟨gb215,1,none⟩ = some (.int .i64 t209) ∧ w'.cell? ⟨gb215,2,none⟩ = some (.slice A0_2 l0_2.length c0_2) ∧ w'.cell? ⟨gb215,3,none⟩ = some (.int .i64 t210) ∧ w'.cell? ⟨gb215,4,none⟩ = some (.int .i64 t211) ∧ w'.cell? ⟨gb215,5,none⟩ = some (.slice Ao37 t212.length co37) ∧ w'.cell? ⟨gb193,0,none⟩ = some (.int .i64 a1_0) ∧ w'.cell? ⟨gb193,1,none⟩ = some (.int .i64 a1_1)) (ds := []) (ba 11 0) (by kernel_rfl) rfl rfl ⟨(blk_cell BK215.out 0).trans rfl,(blk_cell BK215.out 1).trans rfl,(blk_cell BK215.out 2).trans rfl,(blk_cell BK215.out 3).trans rfl,(blk_cell BK215.out 4).trans rfl,(blk_cell BK215.out 5).trans rfl,(blk_cell BK193.out 0).trans rfl,(blk_cell BK193.out 1).trans rfl⟩ (fun hHeld => ?_);refine with_tabW ca_Level.tab4 ca_Level.bits4 (fun HT_ HW_ => ?_)
     generalize w38.drew = w39 at HO214 BK192 BK193 BK194 BK215 HB hHeld ⊢
     refine pure_ (i := 1) (N := some 19) (v := ?_) (a' := ?_) (ba 11 2) rfl rfl (any_of HT_.out (by kernel_rfl)) (fun _ _ _ h => h) (Or.inl ⟨by rfl,?_⟩) ?_ ?_
     rotate_left
     · intro w'
       go_simp
       with_reducible rfl
     rotate_left
     · simp only [Act.put,NRM]
       rfl
     refine pure_ (i := 5) (N := some 23) (v := ?_) (a' := ?_) (ba 11 34) rfl rfl (any_of HT_.out (by kernel_rfl)) (fun _ _ _ h => h) (Or.inl ⟨by rfl,?_⟩) ?_ ?_
     rotate_left
     · intro w'
       go_simp
       with_reducible rfl
     rotate_left
     · simp only [Act.put,NRM]
       rfl
     refine take_ (i := 0) (N := some 18) (v := ?_) (a' := ?_) (ba 11 35) rfl rfl (take_ofW HT_.out HW_.out (by kernel_rfl)) (fun _ _ _ h => h) (Or.inl ⟨by rfl,?_⟩) hHeld ?_ ?_
     rotate_left
     · rintro w' ⟨s0,s1,s2,s3,s4,s5,s6,s7⟩
       go_simp
       with_reducible rfl
     rotate_left
     · simp only [Act.put,NRM]
       rfl
     refine take_ (i := 2) (N := some 20) (v := ?_) (a' := ?_) (ba 11 39) rfl rfl (take_ofW HT_.out HW_.out (by kernel_rfl)) (fun _ _ _ h => h) (Or.inl ⟨by rfl,?_⟩) hHeld ?_ ?_
     rotate_left
     · rintro w' ⟨s0,s1,s2,s3,s4,s5,s6,s7⟩
       go_simp
       with_reducible rfl
     rotate_left
     · simp only [Act.put,NRM]
       rfl
     refine take_ (i := 4) (N := some 22) (v := ?_) (a' := ?_) (ba 11 55) rfl rfl (take_ofW HT_.out HW_.out (by kernel_rfl)) (fun _ _ _ h => h) (Or.inl ⟨by rfl,?_⟩) hHeld ?_ ?_
     rotate_left
     · rintro w' ⟨s0,s1,s2,s3,s4,s5,s6,s7⟩
       go_simp
       with_reducible rfl
     rotate_left
     · simp only [Act.put,NRM]
       rfl
     refine take_ (i := 6) (N := some 24) (v := ?_) (a' := ?_) (ba 11 119) rfl rfl (take_ofW HT_.out HW_.out (by kernel_rfl)) (fun _ _ _ h => h) (Or.inl ⟨by rfl,?_⟩) hHeld ?_ ?_
     rotate_left
     · rintro w' ⟨s0,s1,s2,s3,s4,s5,s6,s7⟩
       go_simp
       with_reducible rfl
     rotate_left
     · simp only [Act.put,NRM]
       rfl
     refine one_ (i := 3) (N := some 21) (ba 11 127) rfl rfl (one_of HT_.out (by kernel_rfl)) (by decide) (fun K hK => ?_)
     refine goes_ Tryz.func67 (by kernel_rfl) rfl #[.agg #[.slice A0_0 l0_0.length c0_0,.int .i64 t209,.slice A0_2 l0_2.length c0_2,.int .i64 t210,.int .i64 t211,.slice Ao37 t212.length co37],.int .i64 a1_0] (by rfl) rfl rfl (by (try simp only [List.map_toArray,List.map_cons,List.map_nil]);first | done | rfl | (simp only [List.length_drop,List.length_take];rfl)) ?_
     with_reducible refine (gf_level.calls _ _ l0_0 t209 _ _ l0_2 t210 t211 _ _ t212 a1_0 t216 _ ?side1 ?side2 ?side3 ?side4 ?side5 ?side6 A26.out).mono ?_
     (case side1 => exact kC HR0_0.out HB.out)
     (case side2 => exact HC0_0.out)
     (case side3 => exact kC HR0_2.out HB.out)
     (case side4 => exact HC0_2.out)
     (case side5 => repeat (first | exact (Kd.S_reads' HO214.out).2.2 | (with_reducible refine Kd.C_alloc ?_ _) | (with_reducible refine Kd.C_drewN ?_ _) | (with_reducible refine Kd.C_drew ?_)))
     (case side6 => exact (Kd.S_reads' HO214.out).2.1)
     rintro e w40 ⟨rfl,hb⟩
     refine ⟨_,rfl,?_⟩
     replace HO214 := am (Kd.S_below HO214.out hb)
     replace BK192 := (kmv hb BK192)
     replace BK193 := (kmv hb BK193)
     replace BK194 := (kmv hb BK194)
     replace BK215 := (kmv hb BK215)
     replace HB := am (below_step (HB.out) hb)
     (try clear hb)
     (try clear hb2)
     (try clear hk)
     (try clear hi)
     refine hK.out _ _ ⟨(blk_cell BK215.out 0).trans rfl,(blk_cell BK215.out 1).trans rfl,(blk_cell BK215.out 2).trans rfl,(blk_cell BK215.out 3).trans rfl,(blk_cell BK215.out 4).trans rfl,(blk_cell BK215.out 5).trans rfl,(blk_cell BK193.out 0).trans rfl,(blk_cell BK193.out 1).trans rfl⟩ (fun hHeld => ?_)
     clear hK K
     refine norm_ (a' := ?_) ?_ ?_
     rotate_left
     · show Act.put _ (some 21) _ = _
       simp only [Act.put,NRM]
       rfl
     refine one_ (i := 7) (N := some 25) (ba 11 255) rfl rfl (one_of HT_.out (by kernel_rfl)) (by decide) (fun K hK => ?_)
     refine goes_ Tryz.func67 (by kernel_rfl) rfl #[.agg #[.slice A0_0 l0_0.length c0_0,.int .i64 t209,.slice A0_2 l0_2.length c0_2,.int .i64 t210,.int .i64 t211,.slice Ao37 t212.length co37],.int .i64 a1_1] (by rfl) rfl rfl (by (try simp only [List.map_toArray,List.map_cons,List.map_nil]);first | done | rfl | (simp only [List.length_drop,List.length_take];rfl)) ?_
     with_reducible refine (gf_level.calls _ _ l0_0 t209 _ _ l0_2 t210 t211 _ _ t212 a1_1 t217 _ ?side1 ?side2 ?side3 ?side4 ?side5 ?side6 A27.out).mono ?_
     (case side1 => exact kC HR0_0.out HB.out)
     (case side2 => exact HC0_0.out)
     (case side3 => exact kC HR0_2.out HB.out)
     (case side4 => exact HC0_2.out)
     (case side5 => repeat (first | exact (Kd.S_reads' HO214.out).2.2 | (with_reducible refine Kd.C_alloc ?_ _) | (with_reducible refine Kd.C_drewN ?_ _) | (with_reducible refine Kd.C_drew ?_)))
     (case side6 => exact (Kd.S_reads' HO214.out).2.1)
     rintro e w41 ⟨rfl,hb⟩
     refine ⟨_,rfl,?_⟩
     replace HO214 := am (Kd.S_below HO214.out hb)
     replace BK192 := (kmv hb BK192)
     replace BK193 := (kmv hb BK193)
     replace BK194 := (kmv hb BK194)
     replace BK215 := (kmv hb BK215)
     replace HB := am (below_step (HB.out) hb)
     (try clear hb)
     (try clear hb2)
     (try clear hk)
     (try clear hi)
     refine hK.out _ _ ⟨(blk_cell BK215.out 0).trans rfl,(blk_cell BK215.out 1).trans rfl,(blk_cell BK215.out 2).trans rfl,(blk_cell BK215.out 3).trans rfl,(blk_cell BK215.out 4).trans rfl,(blk_cell BK215.out 5).trans rfl,(blk_cell BK193.out 0).trans rfl,(blk_cell BK193.out 1).trans rfl⟩ (fun hHeld => ?_)
     clear hK K
     refine norm_ (a' := ?_) ?_ ?_
     rotate_left
     · show Act.put _ (some 25) _ = _
       simp only [Act.put,NRM]
       rfl
     refine pure_ (i := 8) (N := some 26) (v := ?_) (a' := ?_) (ba 11 511) rfl rfl (any_of HT_.out (by kernel_rfl)) (fun _ _ _ h => h) (Or.inl ⟨by rfl,?_⟩) ?_ ?_
     rotate_left
     · intro w'
       go_simp
       with_reducible rfl
     rotate_left
     · simp only [Act.put,NRM]
       rfl
     refine one_ (i := 9) (N := none) (ba 11 1023) rfl rfl (one_of HT_.out (by kernel_rfl)) (by decide) (fun K hK => ?_)
     have hs42 := cO1 BK194.out
     have hfs42 := blk_frozen BK194.out 0
     have hns42_0 := NB192_194.out
     have hns42_1 := NB193_194.out
     have hns42_3 := NB215_194.out
     have hms42_0 := NB194_192.out
     have hms42_1 := NB194_193.out
     have hms42_3 := NB194_215.out
     have hs43 : w41.cell? ⟨gb194,1,none⟩ = some (.int .i64 0) := (blk_cell BK194.out 1).trans rfl
     have hfs43 := blk_frozen BK194.out 1
     have hns43_0 := NB192_194.out
     have hns43_1 := NB193_194.out
     have hns43_3 := NB215_194.out
     have hms43_0 := NB194_192.out
     have hms43_1 := NB194_193.out
     have hms43_3 := NB194_215.out
     refine skip_ (w1 := ?_) (by rfl) rfl ?_ ?_
     rotate_left
     · go_simp
       rfl
     refine hK.out _ _ ⟨((cell_far (p := ⟨gb194,_,none⟩) NB215_194.out _).trans (((cell_far (p := ⟨gb194,_,none⟩) NB215_194.out _).trans (hHeld.1)))),((cell_far (p := ⟨gb194,_,none⟩) NB215_194.out _).trans (((cell_far (p := ⟨gb194,_,none⟩) NB215_194.out _).trans (hHeld.2.1)))),((cell_far (p := ⟨gb194,_,none⟩) NB215_194.out _).trans (((cell_far (p := ⟨gb194,_,none⟩) NB215_194.out _).trans (hHeld.2.2.1)))),((cell_far (p := ⟨gb194,_,none⟩) NB215_194.out _).trans (((cell_far (p := ⟨gb194,_,none⟩) NB215_194.out _).trans (hHeld.2.2.2.1)))),((cell_far (p := ⟨gb194,_,none⟩) NB215_194.out _).trans (((cell_far (p := ⟨gb194,_,none⟩) NB215_194.out _).trans (hHeld.2.2.2.2.1)))),((cell_far (p := ⟨gb194,_,none⟩) NB215_194.out _).trans (((cell_far (p := ⟨gb194,_,none⟩) NB215_194.out _).trans (hHeld.2.2.2.2.2.1)))),((cell_far (p := ⟨gb194,_,none⟩) NB193_194.out _).trans (((cell_far (p := ⟨gb194,_,none⟩) NB193_194.out _).trans (hHeld.2.2.2.2.2.2.1)))),((cell_far (p := ⟨gb194,_,none⟩) NB193_194.out _).trans (((cell_far (p := ⟨gb194,_,none⟩) NB193_194.out _).trans (hHeld.2.2.2.2.2.2.2))))⟩ (fun hHeld => ?_)
     clear hK K
     refine pure_ (i := 10) (N := some 5) (v := ?_) (a' := ?_) (ba 11 2047) rfl rfl (any_of HT_.out (by kernel_rfl)) (fun _ _ _ h => h) (Or.inl ⟨by rfl,?_⟩) ?_ ?_
     rotate_left
     · intro w'
       go_simp
       with_reducible rfl
     rotate_left
     · simp only [Act.put,NRM]
       rfl
     refine done_ (done_of HT_.out (by kernel_rfl)) ?_
     try go_wp2
     refine bodyPost_ret (results_ct rfl _ _ gb194 40 #[.int .i64 t216,.int .i64 t217] (0,0) _ rfl (blk_put (cs := #[.int .i64 t216,.int .i64 0]) (blk_put (cs := #[.int .i64 0,.int .i64 0]) BK194.out 0 _ rfl) 1 _ rfl) Tryz.underlying40 rfl (by kernel_rfl)) rfl ?_
     exact ⟨by first | rfl | (simp [*] <;> rfl),by repeat (first | (with_reducible first | exact HB.out | refine below_set ?_ (Aside0.out (by assumption)) | apply below_alloc | apply pw_below_drewN) | exact HB.out)⟩
end
end Go.Proofs.YticlelgmmonloaaGreatDoor.C

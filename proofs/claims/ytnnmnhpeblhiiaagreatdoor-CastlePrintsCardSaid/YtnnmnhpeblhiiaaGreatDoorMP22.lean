/- A part of the proof: the walks of the functions that it reaches. TIGHT. -/
import Derived.Test.YtnnmnhpeblhiiaaGreatDoorMP21
import Derived.Test.YtnnmnhpeblhiiaaGreatDoorMP15
import Derived.Outline
set_option linter.unusedVariables false
set_option linter.unusedSimpArgs false
namespace Go.Proofs.YtnnmnhpeblhiiaaGreatDoor.C
open Go.RowKit Go.Proofs.YtnnmnhpeblhiiaaGreatDoorW.PrintWords Go.Proofs.YtnnmnhpeblhiiaaGreatDoorW.PrintLast Go.Proofs.YtnnmnhpeblhiiaaGreatDoorW.PrintMore
set_option linter.unusedVariables false
set_option linter.unusedSimpArgs false
set_option maxHeartbeats 16000000
set_option maxRecDepth 100000
def levelGo (l0_0 : List S126) (a0_1 : Int) (l0_2 : List S48) (a0_3 a0_4 : Int) (l0_5 : List (List Int)) (a1 : Int) : Nat → Int → Int → Option Int
 | 0,_,out => some out
 | n + 1,h,out => (gf_out.f l0_0 a0_1 l0_2 a0_3 a0_4 l0_5 h).bind fun t => if t > a1 then some out else levelGo l0_0 a0_1 l0_2 a0_3 a0_4 l0_5 a1 n (h + 1) h
def gf_level.f (l0_0 : List S126) (a0_1 : Int) (l0_2 : List S48) (a0_3 a0_4 : Int) (l0_5 : List (List Int)) (a1 : Int) : Option Int := levelGo l0_0 a0_1 l0_2 a0_3 a0_4 l0_5 a1 l0_5.length 0 0
theorem gf_level.calls (A0_0 : Option Addr) (c0_0 : Nat) (l0_0 : List S126) (a0_1 : Int) (A0_2 : Option Addr) (c0_2 : Nat) (l0_2 : List S48) (a0_3 a0_4 : Int) (A0_5 : Option Addr) (c0_5 : Nat) (l0_5 : List (List Int)) (a1 : Int) (r : Int) (w : World) (hr0_0 : Kd.C k126 w A0_0 l0_0.length l0_0) (hc0_0 : l0_0.length ≤ c0_0) (hr0_2 : Kd.C k48 w A0_2 l0_2.length l0_2) (hc0_2 : l0_2.length ≤ c0_2) (hr0_5 : Kd.C (Kd.slice 3 (Kd.int .i64)) w A0_5 l0_5.length l0_5) (hc0_5 : l0_5.length ≤ c0_5) (h : gf_level.f l0_0 a0_1 l0_2 a0_3 a0_4 l0_5 a1 = some r) :
 Calls Tryz.prog 85 #[.agg #[.slice A0_0 l0_0.length c0_0,.int .i64 a0_1,.slice A0_2 l0_2.length c0_2,.int .i64 a0_3,.int .i64 a0_4,.slice A0_5 l0_5.length c0_5],.int .i64 a1] w fun e w' => e = .returned (.int .i64 r) ∧ Below w.heap.size w w' := by
 have hu := Tryz.underlying110
 have HB := am (Below.refl w.heap.size w)
 have hm : l0_5.length ≤ 9223372036854775807 := Kd.C_max hr0_5
 have HR0 := am hr0_0
 have HC0 := am hc0_0
 have HR2 := am hr0_2
 have HC2 := am hc0_2
 have HR5 := am hr0_5
 have HC5 := am hc0_5
 clear hr0_0 hc0_0 hr0_2 hc0_2 hr0_5 hc0_5
 have HQ := am (show levelGo l0_0 a0_1 l0_2 a0_3 a0_4 l0_5 a1 ((l0_5.length : Int) - 0).toNat 0 0 = some r from h)
 clear h
 go_enter Tryz.func85,Tryz.ntmps85
 go_wp2_with ((refine gate_dst (N := 2) rfl ?_);(try (refine gate_guard (by rfl) ?_;dsimp only));refine box_event rfl (N := 2) rfl (cs := #[.slice A0_0 l0_0.length c0_0,.int .i64 a0_1,.slice A0_2 l0_2.length c0_2,.int .i64 a0_3,.int .i64 a0_4,.slice A0_5 l0_5.length c0_5]) (t := 110) ?hr ?_;(case hr => go_simp;try rfl);intro g hg w2 hbox hb;replace HB := (bmv HB hb);clear hg;have BKg := am hbox;clear hbox;(try clear hczg_0 hczg_1 hczg_2 hczg_3 hczg_4 hczg_5);obtain ⟨hczg_0,hczg_1,hczg_2,hczg_3,hczg_4,hczg_5⟩ := cO6 BKg.out;clear hb)
 go_step3
 go_wp2
 go_step3
 go_wp2
 go_loopw [5,6,10] (fun v5 v6 v10 w' => ∃ i out : Int,0 ≤ i ∧ i ≤ l0_5.length ∧ v5 = .int .i64 out ∧ v10 = .int .i64 i ∧ Aside0 (levelGo l0_0 a0_1 l0_2 a0_3 a0_4 l0_5 a1 ((l0_5.length : Int) - i).toNat i out = some r) ∧ Aside0 (Below w.heap.size w w') ∧ Aside0 (w'.heap[g]? = some (.cells #[.slice A0_0 l0_0.length c0_0,.int .i64 a0_1,.slice A0_2 l0_2.length c0_2,.int .i64 a0_3,.int .i64 a0_4,.slice A0_5 l0_5.length c0_5] 110 (0,0)))) (fun _ _ v10 _ => l0_5.length - (intOf v10).toNat)
 case atStart => exact ⟨0,0,by omega,by omega,rfl,rfl,HQ,HB,BKg⟩
 case round =>
  clear HQ HB BKg
  obtain ⟨i,out,p1,hi,rfl,rfl,HQ,HB,BKg⟩ := hrel
  by_cases hlt : i < (l0_5.length : Int)
  case neg =>
   go_wp2
   (try rw [Exit.noGoto_ret])
   go_ret
   have hq := HQ.out
   rw [show ((l0_5.length : Int) - i).toNat = 0 by omega] at hq
   exact ⟨ret_int_eq (Option.some.inj hq),HB.out⟩
  have hq := HQ.out
  rw [show ((l0_5.length : Int) - i).toNat = ((l0_5.length : Int) - (i + 1)).toNat + 1 by omega] at hq
  simp only [levelGo] at hq
  obtain ⟨t,ht,hq⟩ := obm hq
  have H1 := am ht
  clear ht HQ
  (try clear hczg_0 hfzg_0);have hczg_0 : wr.cell? ⟨g,0,none⟩ = some (.slice A0_0 l0_0.length c0_0) := (blk_cell BKg.out 0).trans rfl;have hfzg_0 := blk_frozen BKg.out 0
  (try clear hczg_1 hfzg_1);have hczg_1 : wr.cell? ⟨g,1,none⟩ = some (.int .i64 a0_1) := (blk_cell BKg.out 1).trans rfl;have hfzg_1 := blk_frozen BKg.out 1
  (try clear hczg_2 hfzg_2);have hczg_2 : wr.cell? ⟨g,2,none⟩ = some (.slice A0_2 l0_2.length c0_2) := (blk_cell BKg.out 2).trans rfl;have hfzg_2 := blk_frozen BKg.out 2
  (try clear hczg_3 hfzg_3);have hczg_3 : wr.cell? ⟨g,3,none⟩ = some (.int .i64 a0_3) := (blk_cell BKg.out 3).trans rfl;have hfzg_3 := blk_frozen BKg.out 3
  (try clear hczg_4 hfzg_4);have hczg_4 : wr.cell? ⟨g,4,none⟩ = some (.int .i64 a0_4) := (blk_cell BKg.out 4).trans rfl;have hfzg_4 := blk_frozen BKg.out 4
  (try clear hczg_5 hfzg_5);have hczg_5 : wr.cell? ⟨g,5,none⟩ = some (.slice A0_5 l0_5.length c0_5) := (blk_cell BKg.out 5).trans rfl;have hfzg_5 := blk_frozen BKg.out 5
  by_cases hgt : t > a1
  · rw [if_pos hgt] at hq
    have H2 := am (Option.some.inj hq)
    have b1 : decide (a1 < t) = true := decide_eq_true hgt
    clear hq hgt
    go_wp2_with (go_at_call 109;refine (gf_out.calls A0_0 c0_0 l0_0 a0_1 A0_2 c0_2 l0_2 a0_3 a0_4 A0_5 c0_5 l0_5 i t _ (kC HR0.out HB.out) HC0.out (kC HR2.out HB.out) HC2.out (kC HR5.out HB.out) HC5.out H1.out).mono ?_;rintro e w3 ⟨rfl,hb⟩;have n_ := (kmv hb BKg);have m_ := (bmv HB hb);clear BKg HB hb hczg_0 hczg_1 hczg_2 hczg_3 hczg_4 hczg_5 hfzg_0 hfzg_1 hfzg_2 hfzg_3 hfzg_4 hfzg_5;have BKg := n_;have HB := m_;clear n_ m_)
    (try rw [Exit.noGoto_ret])
    go_ret
    exact ⟨ret_int_eq H2.out,HB.out⟩
  · rw [if_neg hgt] at hq
    have H2 := am hq
    have b1 : decide (a1 < t) = false := decide_eq_false hgt
    clear hq hgt
    go_wp2_with (go_at_call 109;refine (gf_out.calls A0_0 c0_0 l0_0 a0_1 A0_2 c0_2 l0_2 a0_3 a0_4 A0_5 c0_5 l0_5 i t _ (kC HR0.out HB.out) HC0.out (kC HR2.out HB.out) HC2.out (kC HR5.out HB.out) HC5.out H1.out).mono ?_;rintro e w3 ⟨rfl,hb⟩;have n_ := (kmv hb BKg);have m_ := (bmv HB hb);clear BKg HB hb hczg_0 hczg_1 hczg_2 hczg_3 hczg_4 hczg_5 hfzg_0 hfzg_1 hfzg_2 hfzg_3 hfzg_4 hfzg_5;have BKg := n_;have HB := m_;clear n_ m_)
    go_roundw
    case rel => exact ⟨i + 1,i,by omega,by omega,rfl,by go_num,H2,HB,BKg⟩
    case measure => simp [intOf];omega
section
attribute [local go_sem] max2_int min2_int max_two min_two
def gf_shares.l0 : Nat → Int → List Int → Int → List Int → Int → Int → Option (List Int × Int)
 | 0,_,_,_,_,_,_ => none
 | k + 1,x1,x7,x8,x33,x34,x35 => if x35 < x34 then (if 0 ≤ x35 then (if x35 < (x33.length : Int) then (if x35 < (x7.length : Int) then (gf_shares.l0 k x1 (x7.set (x35 : Int).toNat (wrap64 ((rd x7 x35) + (mn x8 (wrap64 ((rd x33 x35) - (rd x7 x35))))))) (wrap64 (x8 - (mn x8 (wrap64 ((rd x33 x35) - (rd x7 x35)))))) x33 x34 (wrap64 (x35 + 1))) else (none)) else (none)) else (none)) else ((ca_sum.f k x7).bind fun t190 => (some (x7,wrap64 (x1 - t190))))
def gf_shares.f (k : Nat) (l0_0 : List (S126)) (a0_1 : Int) (l0_2 : List (S48)) (a0_3 : Int) (a0_4 : Int) (l0_5 : List (List Int)) (a1 : Int) : Option (List Int × Int) := (gf_level.f l0_0 a0_1 l0_2 a0_3 a0_4 l0_5 a1).bind fun t179 => (if 0 ≤ t179 then (if t179 < (l0_5.length : Int) then ((sl_Clone_int.f (rd_L3 l0_5 t179)).bind fun t181 => (if t179 < 40 then ((gf_out.f l0_0 a0_1 l0_2 a0_3 a0_4 l0_5 t179).bind fun t184 => (if 0 ≤ (wrap64 (t179 + 1)) then (if (wrap64 (t179 + 1)) < (l0_5.length : Int) then (gf_shares.l0 k a1 t181 (wrap64 (a1 - t184)) (rd_L3 l0_5 (wrap64 (t179 + 1))) ((rd_L3 l0_5 (wrap64 (t179 + 1))).length : Int) 0) else (none)) else (none))) else ((ca_sum.f k t181).bind fun t191 => (some (t181,wrap64 (a1 - t191)))))) else (none)) else (none))
theorem gf_shares.calls (k : Nat) (A0_0 : Option Addr) (c0_0 : Nat) (l0_0 : List (S126)) (a0_1 : Int) (A0_2 : Option Addr) (c0_2 : Nat) (l0_2 : List (S48)) (a0_3 : Int) (a0_4 : Int) (A0_5 : Option Addr) (c0_5 : Nat) (l0_5 : List (List Int)) (a1 : Int) (r1 : List Int) (r2 : Int) (w : World) (hr0_0 : Kd.C k126 w A0_0 l0_0.length l0_0) (hc0_0 : l0_0.length ≤ c0_0) (hr0_2 : Kd.C k48 w A0_2 l0_2.length l0_2) (hc0_2 : l0_2.length ≤ c0_2) (hr0_5 : Kd.C (Kd.slice 3 (Kd.int .i64)) w A0_5 l0_5.length l0_5) (hc0_5 : l0_5.length ≤ c0_5) (h : gf_shares.f k l0_0 a0_1 l0_2 a0_3 a0_4 l0_5 a1 = some (r1,r2)) :
 Calls Tryz.prog 71 #[.agg #[.slice A0_0 l0_0.length c0_0,.int .i64 a0_1,.slice A0_2 l0_2.length c0_2,.int .i64 a0_3,.int .i64 a0_4,.slice A0_5 l0_5.length c0_5],.int .i64 a1] w fun e w' => ∃ v0_ : Value,e = .returned (.tuple #[v0_,.int .i64 r2]) ∧ Kd.R (Kd.int .i64) 3 w' w.heap.size (fun _ => True) v0_ r1 ∧ Below w.heap.size w w' := by
 have hu110 := Tryz.underlying110
 have HR0_0 := am hr0_0
 have HC0_0 := am hc0_0
 clear hr0_0 hc0_0
 have HR0_2 := am hr0_2
 have HC0_2 := am hc0_2
 clear hr0_2 hc0_2
 have HR0_5 := am hr0_5
 have HC0_5 := am hc0_5
 clear hr0_5 hc0_5
 have HB := am (Below.refl w.heap.size w)
 have H : ((gf_level.f l0_0 a0_1 l0_2 a0_3 a0_4 l0_5 a1).bind fun t179 => (if 0 ≤ t179 then (if t179 < (l0_5.length : Int) then ((sl_Clone_int.f (rd_L3 l0_5 t179)).bind fun t181 => (if t179 < 40 then ((gf_out.f l0_0 a0_1 l0_2 a0_3 a0_4 l0_5 t179).bind fun t184 => (if 0 ≤ (wrap64 (t179 + 1)) then (if (wrap64 (t179 + 1)) < (l0_5.length : Int) then (gf_shares.l0 k a1 t181 (wrap64 (a1 - t184)) (rd_L3 l0_5 (wrap64 (t179 + 1))) ((rd_L3 l0_5 (wrap64 (t179 + 1))).length : Int) 0) else (none)) else (none))) else ((ca_sum.f k t181).bind fun t191 => (some (t181,wrap64 (a1 - t191)))))) else (none)) else (none))) = some (r1,r2) := h
 clear h
 replace H := obm H
 obtain ⟨t179,A30,H⟩ := H
 replace H : (if 0 ≤ t179 then (if t179 < (l0_5.length : Int) then ((sl_Clone_int.f (rd_L3 l0_5 t179)).bind fun t181 => (if t179 < 40 then ((gf_out.f l0_0 a0_1 l0_2 a0_3 a0_4 l0_5 t179).bind fun t184 => (if 0 ≤ (wrap64 (t179 + 1)) then (if (wrap64 (t179 + 1)) < (l0_5.length : Int) then (gf_shares.l0 k a1 t181 (wrap64 (a1 - t184)) (rd_L3 l0_5 (wrap64 (t179 + 1))) ((rd_L3 l0_5 (wrap64 (t179 + 1))).length : Int) 0) else (none)) else (none))) else ((ca_sum.f k t181).bind fun t191 => (some (t181,wrap64 (a1 - t191)))))) else (none)) else (none)) = some (r1,r2) := H
 have A3 := am A30
 clear A30
 by_cases c4 : 0 ≤ t179
 case neg =>
  rw [if_neg c4] at H
  exact absurd H (by simp)
 rw [if_pos c4] at H
 have c4b0 : decide (0 ≤ t179) = true := decide_eq_true c4
 clear c4
 by_cases c5 : t179 < (l0_5.length : Int)
 case neg =>
  rw [if_neg c5] at H
  exact absurd H (by simp)
 rw [if_pos c5] at H
 have c5b0 : decide (t179 < (l0_5.length : Int)) = true := decide_eq_true c5
 clear c5
 replace H := obm H
 obtain ⟨t181,A60,H⟩ := H
 replace H : (if t179 < 40 then ((gf_out.f l0_0 a0_1 l0_2 a0_3 a0_4 l0_5 t179).bind fun t184 => (if 0 ≤ (wrap64 (t179 + 1)) then (if (wrap64 (t179 + 1)) < (l0_5.length : Int) then (gf_shares.l0 k a1 t181 (wrap64 (a1 - t184)) (rd_L3 l0_5 (wrap64 (t179 + 1))) ((rd_L3 l0_5 (wrap64 (t179 + 1))).length : Int) 0) else (none)) else (none))) else ((ca_sum.f k t181).bind fun t191 => (some (t181,wrap64 (a1 - t191))))) = some (r1,r2) := H
 have A6 := am A60
 clear A60
 by_cases c7 : t179 < 40
 case neg =>
  rw [if_neg c7] at H
  have c7b0 : decide (t179 < 40) = false := decide_eq_false c7
  clear c7
  replace H := obm H
  obtain ⟨t191,A310,H⟩ := H
  replace H : (some (t181,wrap64 (a1 - t191))) = some (r1,r2) := H
  have A31 := am A310
  clear A310
  simp only [Option.some.injEq,Prod.mk.injEq] at H
  obtain ⟨rfl,rfl⟩ := H
  go_enter Tryz.func71,Tryz.ntmps71
  go_wp2_with (first | ((refine gate_dst (N := 2) rfl ?_);refine box_event rfl (N := 2) rfl (cs := #[.slice A0_0 l0_0.length c0_0,.int .i64 a0_1,.slice A0_2 l0_2.length c0_2,.int .i64 a0_3,.int .i64 a0_4,.slice A0_5 l0_5.length c0_5]) (t := 110) ?hr ?_;(case hr => go_simp;try rfl);intro gb178 hg w32 hbox hb;have BK178 := am (hbox);have GW178 := am (ge_new (HB.out) hg);have GE178 := am (ge_new (HB.out) hg);replace HB := am (below_step (HB.out) hb);clear hb hbox hg;obtain ⟨hcz33_0,hcz33_1,hcz33_2,hcz33_3,hcz33_4,hcz33_5⟩ := cO6 BK178.out) | ((with_reducible refine gate_callee (f := 85) rfl ?_);refine goesL_ (some 14) rfl rfl Tryz.func85 (by kernel_rfl) rfl #[.agg #[.slice A0_0 l0_0.length c0_0,.int .i64 a0_1,.slice A0_2 l0_2.length c0_2,.int .i64 a0_3,.int .i64 a0_4,.slice A0_5 l0_5.length c0_5],.int .i64 a1] rfl (by (try simp only [List.map_toArray,List.map_cons,List.map_nil]);first | done | rfl | (simp only [List.length_drop,List.length_take];rfl)) ?_;(refine (gf_level.calls _ _ l0_0 a0_1 _ _ l0_2 a0_3 a0_4 _ _ l0_5 a1 t179 _ ?side1 ?side2 ?side3 ?side4 ?side5 ?side6 A3.out).mono ?_);(case side1 => exact kC HR0_0.out HB.out);(case side2 => exact HC0_0.out);(case side3 => exact kC HR0_2.out HB.out);(case side4 => exact HC0_2.out);(case side5 => exact kC HR0_5.out HB.out);(case side6 => exact HC0_5.out);rintro e w34 ⟨rfl,hb⟩;refine ⟨_,rfl,?_⟩;replace BK178 := (kmv hb BK178);replace HB := am (below_step (HB.out) hb);(try clear hb);(try clear hb2);(try clear hk);(try clear hi);obtain ⟨hcz35_0,hcz35_1,hcz35_2,hcz35_3,hcz35_4,hcz35_5⟩ := cO6 BK178.out;have p180 : 0 ≤ (t179 : Int) := of_decide_eq_true (by assumption);have q180 : t179 < (l0_5.length : Int) := of_decide_eq_true (by assumption);obtain ⟨ad180,A180_0,c180_0,e180,hx180_0,hl180_0,hi180_0⟩ := at_L3 HR0_5.out t179 p180 q180;cases e180;replace hx180_0 := (HB.out.cell (wbl hx180_0)).trans hx180_0;have HR180_0 := am hi180_0;have HC180_0 := am hl180_0;clear hi180_0 hl180_0;replace p180 := eq_true p180;replace q180 := eq_true q180) | ((with_reducible refine gate_callee (f := 108) rfl ?_);refine goesL_ (some 20) rfl rfl Tryz.func108 (by kernel_rfl) rfl #[.slice A180_0 (rd_L3 l0_5 t179).length c180_0] rfl (by (try simp only [List.map_toArray,List.map_cons,List.map_nil]);first | done | rfl | (simp only [List.length_drop,List.length_take];rfl)) ?_;(refine (sl_Clone_int.calls _ _ (rd_L3 l0_5 t179) t181 _ ?side1 ?side2 A6.out).mono ?_);(case side1 => exact kC HR180_0.out HB.out);(case side2 => exact HC180_0.out);rintro e w36 ⟨v182,rfl,ho0,hb⟩;refine ⟨_,rfl,?_⟩;have HO183 := am (Kd.R_lower ho0 (below_size (HB.out)));replace BK178 := (kmv hb BK178);replace HB := am (below_step (HB.out) hb);(try clear hb);(try clear hb2);(try clear hk);(try clear hi);(try clear ho0);obtain ⟨Ao37,co37,eo37⟩ := Kd.R_slice HO183.out;subst eo37) | ((with_reducible refine gate_callee (f := 110) rfl ?_);refine goesL_ (some 62) rfl rfl Tryz.func110 (by kernel_rfl) rfl #[.slice Ao37 t181.length co37] rfl (by (try simp only [List.map_toArray,List.map_cons,List.map_nil]);first | done | rfl | (simp only [List.length_drop,List.length_take];rfl)) ?_;(refine (ca_sum.calls k _ _ t181 t191 _ ?side1 ?side2 A31.out).mono ?_);(case side1 => repeat (first | exact (Kd.R_reads' HO183.out).2.2 | (with_reducible refine Kd.C_alloc ?_ _) | (with_reducible refine Kd.C_drewN ?_ _) | (with_reducible refine Kd.C_drew ?_)));(case side2 => exact (Kd.R_reads' HO183.out).2.1);rintro e w' ⟨rfl,⟨nd,rfl⟩⟩;refine ⟨_,rfl,?_⟩))
  go_ret2
  exact ⟨_,by first | rfl | (simp [*] <;> rfl),by (with_reducible repeat (first | apply Kd.R_alloc | apply Kd.R_drewN | apply Kd.R_drew));exact HO183.out,pw_below_drewN HB.out _⟩
 rw [if_pos c7] at H
 have c7b0 : decide (t179 < 40) = true := decide_eq_true c7
 clear c7
 replace H := obm H
 obtain ⟨t184,A80,H⟩ := H
 replace H : (if 0 ≤ (wrap64 (t179 + 1)) then (if (wrap64 (t179 + 1)) < (l0_5.length : Int) then (gf_shares.l0 k a1 t181 (wrap64 (a1 - t184)) (rd_L3 l0_5 (wrap64 (t179 + 1))) ((rd_L3 l0_5 (wrap64 (t179 + 1))).length : Int) 0) else (none)) else (none)) = some (r1,r2) := H
 have A8 := am A80
 clear A80
 obtain ⟨ji9,hji9⟩ : ∃ j_ : Int,(wrap64 (t179 + 1)) = j_ := ⟨_,rfl⟩
 replace H : (if 0 ≤ (ji9) then (if (ji9) < (l0_5.length : Int) then (gf_shares.l0 k a1 t181 (wrap64 (a1 - t184)) (rd_L3 l0_5 (ji9)) ((rd_L3 l0_5 (ji9)).length : Int) 0) else (none)) else (none)) = some (r1,r2) := by first | (rw [hji9] at H;exact H) | (simp only [hji9] at H ⊢;exact H)
 (try rw [hji9] at A3)
 (try rw [hji9] at A6)
 (try rw [hji9] at A8)
 have hji9w : (IntKind.i64.wrap (t179 + 1)) = ji9 := (i64_w _).trans hji9
 by_cases c10 : 0 ≤ (ji9)
 case neg =>
  rw [if_neg c10] at H
  exact absurd H (by simp)
 rw [if_pos c10] at H
 have c10b0 : decide (0 ≤ (ji9)) = true := decide_eq_true c10
 clear c10
 by_cases c11 : (ji9) < (l0_5.length : Int)
 case neg =>
  rw [if_neg c11] at H
  exact absurd H (by simp)
 rw [if_pos c11] at H
 have c11b0 : decide ((ji9) < (l0_5.length : Int)) = true := decide_eq_true c11
 clear c11
 replace H' := am H
 go_enter Tryz.func71,Tryz.ntmps71
 go_wp2_with (first | ((refine gate_dst (N := 2) rfl ?_);refine box_event rfl (N := 2) rfl (cs := #[.slice A0_0 l0_0.length c0_0,.int .i64 a0_1,.slice A0_2 l0_2.length c0_2,.int .i64 a0_3,.int .i64 a0_4,.slice A0_5 l0_5.length c0_5]) (t := 110) ?hr ?_;(case hr => go_simp;try rfl);intro gb178 hg w12 hbox hb;have BK178 := am (hbox);have GW178 := am (ge_new (HB.out) hg);have GE178 := am (ge_new (HB.out) hg);replace HB := am (below_step (HB.out) hb);clear hb hbox hg;obtain ⟨hcz13_0,hcz13_1,hcz13_2,hcz13_3,hcz13_4,hcz13_5⟩ := cO6 BK178.out) | ((with_reducible refine gate_callee (f := 85) rfl ?_);refine goesL_ (some 14) rfl rfl Tryz.func85 (by kernel_rfl) rfl #[.agg #[.slice A0_0 l0_0.length c0_0,.int .i64 a0_1,.slice A0_2 l0_2.length c0_2,.int .i64 a0_3,.int .i64 a0_4,.slice A0_5 l0_5.length c0_5],.int .i64 a1] rfl (by (try simp only [List.map_toArray,List.map_cons,List.map_nil]);first | done | rfl | (simp only [List.length_drop,List.length_take];rfl)) ?_;(refine (gf_level.calls _ _ l0_0 a0_1 _ _ l0_2 a0_3 a0_4 _ _ l0_5 a1 t179 _ ?side1 ?side2 ?side3 ?side4 ?side5 ?side6 A3.out).mono ?_);(case side1 => exact kC HR0_0.out HB.out);(case side2 => exact HC0_0.out);(case side3 => exact kC HR0_2.out HB.out);(case side4 => exact HC0_2.out);(case side5 => exact kC HR0_5.out HB.out);(case side6 => exact HC0_5.out);rintro e w14 ⟨rfl,hb⟩;refine ⟨_,rfl,?_⟩;replace BK178 := (kmv hb BK178);replace HB := am (below_step (HB.out) hb);(try clear hb);(try clear hb2);(try clear hk);(try clear hi);obtain ⟨hcz15_0,hcz15_1,hcz15_2,hcz15_3,hcz15_4,hcz15_5⟩ := cO6 BK178.out;have p180 : 0 ≤ (t179 : Int) := of_decide_eq_true (by assumption);have q180 : t179 < (l0_5.length : Int) := of_decide_eq_true (by assumption);obtain ⟨ad180,A180_0,c180_0,e180,hx180_0,hl180_0,hi180_0⟩ := at_L3 HR0_5.out t179 p180 q180;cases e180;replace hx180_0 := (HB.out.cell (wbl hx180_0)).trans hx180_0;have HR180_0 := am hi180_0;have HC180_0 := am hl180_0;clear hi180_0 hl180_0;replace p180 := eq_true p180;replace q180 := eq_true q180) | ((with_reducible refine gate_callee (f := 108) rfl ?_);refine goesL_ (some 20) rfl rfl Tryz.func108 (by kernel_rfl) rfl #[.slice A180_0 (rd_L3 l0_5 t179).length c180_0] rfl (by (try simp only [List.map_toArray,List.map_cons,List.map_nil]);first | done | rfl | (simp only [List.length_drop,List.length_take];rfl)) ?_;(refine (sl_Clone_int.calls _ _ (rd_L3 l0_5 t179) t181 _ ?side1 ?side2 A6.out).mono ?_);(case side1 => exact kC HR180_0.out HB.out);(case side2 => exact HC180_0.out);rintro e w16 ⟨v182,rfl,ho0,hb⟩;refine ⟨_,rfl,?_⟩;have HO183 := am (Kd.R_lower ho0 (below_size (HB.out)));replace BK178 := (kmv hb BK178);replace HB := am (below_step (HB.out) hb);(try clear hb);(try clear hb2);(try clear hk);(try clear hi);(try clear ho0);obtain ⟨hcz17_0,hcz17_1,hcz17_2,hcz17_3,hcz17_4,hcz17_5⟩ := cO6 BK178.out) | ((with_reducible refine gate_callee (f := 109) rfl ?_);refine goesL_ (some 26) rfl rfl Tryz.func109 (by kernel_rfl) rfl #[.agg #[.slice A0_0 l0_0.length c0_0,.int .i64 a0_1,.slice A0_2 l0_2.length c0_2,.int .i64 a0_3,.int .i64 a0_4,.slice (some ad180) l0_5.length c0_5],.int .i64 t179] rfl (by (try simp only [List.map_toArray,List.map_cons,List.map_nil]);first | done | rfl | (simp only [List.length_drop,List.length_take];rfl)) ?_;(refine (gf_out.calls _ _ l0_0 a0_1 _ _ l0_2 a0_3 a0_4 _ _ l0_5 t179 t184 _ ?side1 ?side2 ?side3 ?side4 ?side5 ?side6 A8.out).mono ?_);(case side1 => exact kC HR0_0.out HB.out);(case side2 => exact HC0_0.out);(case side3 => exact kC HR0_2.out HB.out);(case side4 => exact HC0_2.out);(case side5 => exact kC HR0_5.out HB.out);(case side6 => exact HC0_5.out);rintro e w18 ⟨rfl,hb⟩;refine ⟨_,rfl,?_⟩;replace HO183 := am (Kd.R_below HO183.out hb);replace BK178 := (kmv hb BK178);replace HB := am (below_step (HB.out) hb);(try clear hb);(try clear hb2);(try clear hk);(try clear hi);obtain ⟨hcz19_0,hcz19_1,hcz19_2,hcz19_3,hcz19_4,hcz19_5⟩ := cO6 BK178.out;have p185 : 0 ≤ ((ji9) : Int) := of_decide_eq_true (by assumption);have q185 : (ji9) < (l0_5.length : Int) := of_decide_eq_true (by assumption);obtain ⟨ad185,A185_0,c185_0,e185,hx185_0,hl185_0,hi185_0⟩ := at_L3 HR0_5.out (ji9) p185 q185;obtain rfl : ad180 = ad185 := (by injection e185);replace hx185_0 := (HB.out.cell (wbl hx185_0)).trans hx185_0;have HR185_0 := am hi185_0;have HC185_0 := am hl185_0;clear hi185_0 hl185_0;replace p185 := eq_true p185;replace q185 := eq_true q185))
 go_loopg [8,35] k (fun kq v8 v35 w' => ∃ (x7_1 : List Int) (x8_1 : Int) (x35_1 : Int),v8 = .int .i64 x8_1 ∧ v35 = .int .i64 x35_1 ∧ Aside0 (gf_shares.l0 kq a1 x7_1 x8_1 (rd_L3 l0_5 (ji9)) ((rd_L3 l0_5 (ji9)).length : Int) x35_1 = some (r1,r2)) ∧ Aside0 (kq ≤ k) ∧ Aside0 (Kd.R (Kd.int .i64) 3 w' w.heap.size (fun _ => True) v182 x7_1) ∧ Aside0 (w'.heap[gb178]? = some (.cells #[(.slice A0_0 l0_0.length c0_0),.int .i64 a0_1,(.slice A0_2 l0_2.length c0_2),.int .i64 a0_3,.int .i64 a0_4,(.slice (some ad180) l0_5.length c0_5)] 110 (0,0))) ∧ Aside0 (Below w.heap.size w w'))
 case atStart => exact ⟨(t181),(wrap64 (a1 - t184)),(0),(by first | rfl | (simp;done) | (simp [*];done)),(by first | rfl | (simp;done) | (simp [*];done)),H',⟨Nat.le_refl _⟩,⟨by (with_reducible repeat (first | apply Kd.R_alloc | apply Kd.R_drewN | apply Kd.R_drew));exact HO183.out⟩,⟨BK178.out⟩,⟨HB.out⟩⟩
 case round =>
  clear H'
  obtain ⟨x7_1,x8_1,x35_1,rfl,rfl,HA,HK1,HO_7,BK178,HB⟩ := hrel
  cases gk with
  | zero => exact absurd HA.out (by simp [gf_shares.l0])
  | succ k1 =>
   have H := HA.out
   clear HA
   simp only [gf_shares.l0] at H
   by_cases c20 : x35_1 < ((rd_L3 l0_5 (ji9)).length : Int)
   case neg =>
    rw [if_neg c20] at H
    have c20b0 : decide (x35_1 < ((rd_L3 l0_5 (ji9)).length : Int)) = false := decide_eq_false c20
    clear c20
    replace H := obm H
    obtain ⟨t190,A290,H⟩ := H
    replace H : (some (x7_1,wrap64 (a1 - t190))) = some (r1,r2) := H
    have A29 := am A290
    clear A290
    simp only [Option.some.injEq,Prod.mk.injEq] at H
    obtain ⟨rfl,rfl⟩ := H
    obtain ⟨Ao30,co30,eo30⟩ := Kd.R_slice HO_7.out
    subst eo30
    go_wp2_with (first | ((with_reducible refine gate_callee (f := 110) rfl ?_);refine goesL_ (some 62) rfl rfl Tryz.func110 (by kernel_rfl) rfl #[.slice Ao30 x7_1.length co30] rfl (by (try simp only [List.map_toArray,List.map_cons,List.map_nil]);first | done | rfl | (simp only [List.length_drop,List.length_take];rfl)) ?_;(refine (ca_sum.calls k1 _ _ x7_1 t190 _ ?side1 ?side2 A29.out).mono ?_);(case side1 => repeat (first | exact (Kd.R_reads' HO_7.out).2.2 | (with_reducible refine Kd.C_alloc ?_ _) | (with_reducible refine Kd.C_drewN ?_ _) | (with_reducible refine Kd.C_drew ?_)));(case side2 => exact (Kd.R_reads' HO_7.out).2.1);rintro e w' ⟨rfl,⟨nd,rfl⟩⟩;refine ⟨_,rfl,?_⟩))
    go_ret2
    exact ⟨_,by first | rfl | (simp [errW_none,errW_some] <;> rfl) | (simp only [← hji9];first | rfl | (simp [errW_none,errW_some] <;> rfl)) | (simp [*,errW_none,errW_some] <;> rfl),by (with_reducible repeat (first | apply Kd.R_alloc | apply Kd.R_drewN | apply Kd.R_drew));exact HO_7.out,pw_below_drewN HB.out _⟩
   rw [if_pos c20] at H
   have c20b0 : decide (x35_1 < ((rd_L3 l0_5 (ji9)).length : Int)) = true := decide_eq_true c20
   clear c20
   by_cases c21 : 0 ≤ x35_1
   case neg =>
    rw [if_neg c21] at H
    exact absurd H (by simp)
   rw [if_pos c21] at H
   have c21b0 : decide (0 ≤ x35_1) = true := decide_eq_true c21
   clear c21
   by_cases c22 : x35_1 < ((rd_L3 l0_5 (ji9)).length : Int)
   case neg =>
    rw [if_neg c22] at H
    exact absurd H (by simp)
   rw [if_pos c22] at H
   have c22b0 : decide (x35_1 < ((rd_L3 l0_5 (ji9)).length : Int)) = true := decide_eq_true c22
   clear c22
   by_cases c23 : x35_1 < (x7_1.length : Int)
   case neg =>
    rw [if_neg c23] at H
    exact absurd H (by simp)
   rw [if_pos c23] at H
   have c23b0 : decide (x35_1 < (x7_1.length : Int)) = true := decide_eq_true c23
   clear c23
   obtain ⟨ji24,hji24⟩ : ∃ j_ : Int,(mn x8_1 (wrap64 ((rd (rd_L3 l0_5 (ji9)) x35_1) - (rd x7_1 x35_1)))) = j_ := ⟨_,rfl⟩
   replace H : (gf_shares.l0 k1 a1 (x7_1.set (x35_1 : Int).toNat (wrap64 ((rd x7_1 x35_1) + (ji24)))) (wrap64 (x8_1 - (ji24))) (rd_L3 l0_5 (ji9)) ((rd_L3 l0_5 (ji9)).length : Int) (wrap64 (x35_1 + 1))) = some (r1,r2) := by first | (rw [hji24] at H;exact H) | (simp only [hji24] at H ⊢;exact H)
   have hji24_ : (if (wrap64 ((rd (rd_L3 l0_5 (ji9)) x35_1) - (rd x7_1 x35_1))) < x8_1 then (wrap64 ((rd (rd_L3 l0_5 (ji9)) x35_1) - (rd x7_1 x35_1))) else x8_1) = ji24 := hji24
   obtain ⟨y189,hy189⟩ : ∃ y_ : List Int,y_ = (x7_1.set (x35_1 : Int).toNat (wrap64 ((rd x7_1 x35_1) + (ji24)))) := ⟨_,rfl⟩
   replace H : (gf_shares.l0 k1 a1 y189 (wrap64 (x8_1 - (ji24))) (rd_L3 l0_5 (ji9)) ((rd_L3 l0_5 (ji9)).length : Int) (wrap64 (x35_1 + 1))) = some (r1,r2) := by first | (rw [hy189];with_reducible exact H) | (have H2_ := (Option.bind_some _ _).symm.trans H;rw [hy189];with_reducible exact H2_) | (have H2_ := (Option.bind_some _ _).symm.trans H;with_reducible exact H2_) | with_reducible exact H | (rw [hy189];exact H) | exact H
   have Ny189 := am hy189
   clear hy189
   replace H' := am H
   have p186 : 0 ≤ (x35_1 : Int) := of_decide_eq_true (by assumption)
   have q186 : x35_1 < ((rd_L3 l0_5 (ji9)).length : Int) := of_decide_eq_true (by assumption)
   obtain ⟨ad186,e186,hx186_0⟩ := Kd.at_int HR185_0.out x35_1 p186 q186
   cases e186
   replace hx186_0 := (HB.out.cell (wbl hx186_0)).trans hx186_0
   replace p186 := eq_true p186
   replace q186 := eq_true q186
   obtain ⟨Ao26,co26,eo26⟩ := Kd.R_slice HO_7.out
   subst eo26
   have p187 : 0 ≤ (x35_1 : Int) := of_decide_eq_true (by assumption)
   have q187 : x35_1 < (x7_1.length : Int) := of_decide_eq_true (by assumption)
   obtain ⟨ad187,e187,hx187_0⟩ := Kd.at_int (Kd.R_reads' HO_7.out).2.2 x35_1 p187 q187
   cases e187
   replace p187 := eq_true p187
   replace q187 := eq_true q187
   have p188 : 0 ≤ (x35_1 : Int) := of_decide_eq_true (by assumption)
   have q188 : x35_1 < (x7_1.length : Int) := of_decide_eq_true (by assumption)
   obtain ⟨ad188,e188,hx188_0⟩ := Kd.at_int (Kd.R_reads' HO_7.out).2.2 x35_1 p188 q188
   obtain rfl : ad187 = ad188 := (by injection e188)
   replace p188 := eq_true p188
   replace q188 := eq_true q188
   have p25 : 0 ≤ (x35_1 : Int) := of_decide_eq_true (by assumption)
   have q25 : (x35_1 : Int) < ((x7_1.length : Int) : Int) := of_decide_eq_true (by assumption)
   obtain ⟨go25,co25,eo25,gb25,gl25,cl25,HG25⟩ := Kd.R_form HO_7.out (by omega)
   (first | cases eo25 | (injection eo25 with ea_ en_ ec_;(first | subst ea_ | (injection ea_ with ea_;subst ea_));subst ec_;clear en_))
   have GB25 := am gb25
   have GG25 := am HG25
   clear gb25 gl25 HG25
   (first | simp only [add_plain] at hx187_0 | skip)
   (first | simp only [add_plain] at hx188_0 | skip)
   obtain ⟨hx25_0,hf25_0⟩ := Kd.R_celln 0 HO_7.out (x35_1 : Int) p25 q25
   replace p25 := eq_true p25
   replace q25 := eq_true q25
   have HP27 := Kd.R_putg HO_7.out (x35_1 : Int) (wrap64 ((rd x7_1 x35_1) + (ji24)))
   go_wp2_with (first | ((with_reducible refine gate_store (t := 3) (p := 54) rfl ?_);refine store_event (t := 3) (p := 54) (v := ?vo_w28) (w1 := (wr.setCell ⟨go25,(x35_1 : Int).toNat,none⟩ (.int .i64 (wrap64 ((rd x7_1 x35_1) + (ji24)))))) ?hg ?ho ?hn ?hr ?_;(case ho => rfl);(case hg => rfl);(case hn => rfl);(case hr => go_simp;try rfl);intro w28 hw;have hg : wr.grownBy w28 (some go25) := (by rw [hw];exact HP27.2);have hp_ : Kd.R (Kd.int .i64) 3 w28 w.heap.size (fun _ => True) (.slice (some ⟨go25,0,none⟩) x7_1.length co26) y189 := (by rw [hw,Ny189.out];exact HP27.1);clear HP27;have n0_ := am (hp_);have n1_ := am (blk_grown (g := gb178) (o := .cells #[.slice A0_0 l0_0.length c0_0,.int .i64 a0_1,.slice A0_2 l0_2.length c0_2,.int .i64 a0_3,.int .i64 a0_4,.slice (some ad180) l0_5.length c0_5] 110 (0,0)) BK178.out hg (Kd.R_ne HO_7.out BK178.out (by decide)));have n2_ := am ((by rw [hw];exact below_set (HB.out) GB25.out : Below w.heap.size w w28));clear HO_7;clear BK178;clear HB;have HO_7 := n0_;have BK178 := n1_;have HB := n2_;clear n0_ n1_ n2_;clear hg hw hp_))
   go_roundg k1
   case measure => have := HK1.out;omega
   case rel => exact ⟨(y189),(wrap64 (x8_1 - (ji24))),(wrap64 (x35_1 + 1)),(by first | rfl | (simp;done) | (simp only [← hji24] <;> (first | rfl | simp)) | (simp [*];done)),(by first | rfl | (simp;done) | (simp [*];done)),H',⟨by have := HK1.out;omega⟩,⟨by (with_reducible repeat (first | apply Kd.R_alloc | apply Kd.R_drewN | apply Kd.R_drew));exact HO_7.out⟩,⟨BK178.out⟩,⟨HB.out⟩⟩
end
end Go.Proofs.YtnnmnhpeblhiiaaGreatDoor.C
namespace Go.Proofs.YtnnmnhpeblhiiaaGreatDoor.C
open Go.RowKit Go.Abs Go.Proofs.YtnnmnhpeblhiiaaGreatDoorW.PrintWords Go.Proofs.YtnnmnhpeblhiiaaGreatDoorW.PrintLast Go.Proofs.YtnnmnhpeblhiiaaGreatDoorW.PrintMore
set_option linter.unusedVariables false
set_option linter.unusedSimpArgs false
set_option maxHeartbeats 16000000
set_option maxRecDepth 100000
def decRows : List AV→Option (List S126)
 | []=>some []
 | .int .i64 a :: .int .i64 b :: .int .i64 c :: l=>(decRows l).map (⟨a,b,c⟩ :: ·)
 | _=>none
theorem decRows_eq : ∀ {cs : List AV} {xs : List S126} {e : Env} {vs : List Value},decRows cs = some xs→concL e cs = some vs→∀ (j : Nat) p,xs[j]? = some p→(vs.drop (j * 3)).take 3 = [.int .i64 p.f0,.int .i64 p.f1,.int .i64 p.f2]
 | [],_,e,vs,h,hv,j,p,hj=>by cases h;simp at hj
 | a :: l,xs,e,vs,h,hv,j,p,hj=>by
  unfold decRows at h
  split at h
  ·cases ‹_ :: _ = []›
  ·rename_i heq;cases heq
   simp only [Option.map_eq_some_iff] at h
   obtain ⟨ys,h1,rfl⟩:=h
   simp only [concL,conc,Option.bind_some,Option.map_eq_some_iff] at hv
   obtain ⟨_,⟨_,⟨zs,hz,rfl⟩,rfl⟩,rfl⟩:=hv
   cases j with
   | zero=>cases hj;rfl
   | succ j=>rw [show (j + 1) * 3 = j * 3 + 3 by omega];exact decRows_eq h1 hz j p (by simpa using hj)
  ·cases h
def decNoz : List AV→Option (List S48)
 | []=>some []
 | .int .i64 a :: .int .i64 b :: l=>(decNoz l).map (⟨a,b⟩ :: ·)
 | _=>none
theorem decNoz_eq : ∀ {cs : List AV} {xs : List S48} {e : Env} {vs : List Value},decNoz cs = some xs→concL e cs = some vs→∀ (j : Nat) p,xs[j]? = some p→(vs.drop (j * 2)).take 2 = [.int .i64 p.f0,.int .i64 p.f1]
 | [],_,e,vs,h,hv,j,p,hj=>by cases h;simp at hj
 | a :: l,xs,e,vs,h,hv,j,p,hj=>by
  unfold decNoz at h
  split at h
  ·cases ‹_ :: _ = []›
  ·rename_i heq;cases heq
   simp only [Option.map_eq_some_iff] at h
   obtain ⟨ys,h1,rfl⟩:=h
   simp only [concL,conc,Option.bind_some,Option.map_eq_some_iff] at hv
   obtain ⟨_,⟨zs,hz,rfl⟩,rfl⟩:=hv
   cases j with
   | zero=>cases hj;rfl
   | succ j=>rw [show (j + 1) * 2 = j * 2 + 2 by omega];exact decNoz_eq h1 hz j p (by simpa using hj)
  ·cases h
noncomputable def rdRows : St→AV→Option (List S126):=rdG 3 decRows
noncomputable def rdNoz : St→AV→Option (List S48):=rdG 2 decNoz
theorem rdRows_ok {e : Env} {s : St} {w : World} (hs : Sim e s w) {v : AV} {xs : List S126} {x : Value} (h : rdRows s v = some xs) (hx : conc e v = some x) : ∃ A c,x = .slice A xs.length c∧xs.length≤c∧Kd.C k126 w A xs.length xs:=
 rdG_ok (d:=k126) hs (by show 0 < 3;omega) (fun cs xs vs h1 h2 j p hj=>by
  show k126.K w p ((vs.drop (j * 3)).take 3)
  rw [decRows_eq h1 h2 j p hj];exact k126_mk w p) h hx
theorem rdNoz_ok {e : Env} {s : St} {w : World} (hs : Sim e s w) {v : AV} {xs : List S48} {x : Value} (h : rdNoz s v = some xs) (hx : conc e v = some x) : ∃ A c,x = .slice A xs.length c∧xs.length≤c∧Kd.C k48 w A xs.length xs:=
 rdG_ok (d:=k48) hs (by show 0 < 2;omega) (fun cs xs vs h1 h2 j p hj=>by
  show k48.K w p ((vs.drop (j * 2)).take 2)
  rw [decNoz_eq h1 h2 j p hj];exact k48_mk w p) h hx
noncomputable def fillG (args : List AV) (s : St) : Option (Rt × St):=
 match args with
 | [.agg [t,.int .i64 d,z,.int .i64 wr,.int .i64 sp]]=>(rdRows s t).bind fun rs=>(rdNoz s z).bind fun zs=>(ca_fill.f 400 rs d zs wr sp).bind fun r =>
  if r.2.2.2.all (fun l=>!l.isEmpty) && !r.2.2.2.isEmpty then
   some (.ret (.agg [t,.int .i64 r.1,z,.int .i64 r.2.1,.int .i64 r.2.2.1,.opn (s.next + r.2.2.2.length) r.2.2.2.length]),(addInts 3 r.2.2.2 s).2.add (.ro 28 (some 1) (addInts 3 r.2.2.2 s).1))
  else none
 | _=>none
noncomputable def levelG (args : List AV) (s : St) : Option (Rt × St):=
 match args with
 | [.agg [t,.int .i64 d,z,.int .i64 wr,.int .i64 sp,g],.int .i64 c]=>(rdRows s t).bind fun rs=>(rdNoz s z).bind fun zs=>(rdLists s g).bind fun gs=>(gf_level.f rs d zs wr sp gs c).bind fun r=>some (.ret (.int .i64 r),s)
 | _=>none
noncomputable def sharesG (args : List AV) (s : St) : Option (Rt × St):=
 match args with
 | [.agg [t,.int .i64 d,z,.int .i64 wr,.int .i64 sp,g],.int .i64 c]=>(rdRows s t).bind fun rs=>(rdNoz s z).bind fun zs=>(rdLists s g).bind fun gs=>(gf_shares.f 400 rs d zs wr sp gs c).bind fun r =>
  if r.1.isEmpty then none else some (.ret (.tup [.opn s.next r.1.length,.int .i64 r.2]),s.add (.cells 3 (some 1) (r.1.map (.int .i64))))
 | _=>none
noncomputable def castleHook : Hook:=fun f=>if Nat.beq f 69 then some fillG else if Nat.beq f 85 then some levelG else if Nat.beq f 71 then some sharesG else none
theorem fillG_ok {args : List AV} {s : St} {r : Rt} {s' : St} (h : fillG args s = some (r,s')) {e : Env} {w : World} (hs : Sim e s w) (hf : Free e s.next s'.next) {xs : List Value} (hxs : concL e args = some xs) (c : Frame) (cs : List Frame) :
  ∃ e' w',Sim e' s' w'∧Goes e s w e' s' w'∧EndsAt Tryz.prog (lone (Frame.enter Tryz.prog 69 xs.toArray .normal) (c :: cs) w) c cs e' r w':=by
 unfold fillG at h
 split at h
 case h_2=>cases h
 rename_i t d z wr sp
 simp only [Option.bind_eq_some_iff] at h
 obtain ⟨rs,hrs,zs,hzs,⟨r1,r2,r3,r4⟩,hr,h⟩:=h
 split at h
 case isFalse=>cases h
 rename_i hne
 simp only [Bool.and_eq_true,Bool.not_eq_true',List.all_eq_true,List.isEmpty_eq_false_iff] at hne
 obtain ⟨hne1,hne2⟩:=hne
 cases h
 simp only [concL,conc,Option.bind_eq_some_iff,Option.map_eq_some_iff,Option.some.injEq] at hxs
 obtain ⟨_,⟨_,⟨xt,hxt,_,⟨_,rfl,_,⟨xz,hxz,_,⟨_,rfl,_,⟨_,rfl,_,rfl,rfl⟩,rfl⟩,rfl⟩,rfl⟩,rfl⟩,rfl⟩,_,rfl,rfl⟩:=hxs
 obtain ⟨A0,c0,rfl,hc0,hC0⟩:=rdRows_ok hs hrs hxt
 obtain ⟨A2,c2,rfl,hc2,hC2⟩:=rdNoz_ok hs hzs hxz
 obtain ⟨en,w',⟨v3,rfl,hS,hB⟩,hst⟩:=endsC (ca_fill.calls 400 A0 c0 rs d A2 c2 zs wr sp r1 r2 r3 r4 w hC0 hc0 hC2 hc2 hr) c cs
 obtain ⟨hg1,hg2⟩:=grow hs hB
 obtain ⟨_,inner,ho,hrep⟩:=Kd.S_R hS
 obtain ⟨ho1,ho2⟩:=ho
 rcases ho2 with ⟨_,ho2⟩ | ⟨g,cap,cur,rfl,o1,o2,o3,o4,o5,o6⟩
 ·exact absurd (List.length_eq_zero_iff.1 ho2) hne2
 have hsz : (Kd.slice 3 (Kd.int .i64)).sz = 1:=rfl
 rw [hsz] at ho1 o5 o6
 have hfree : Free e s.next (s.next + r4.length + 1):=fun n a b=>hf n a (by simp only [St.add,addInts_next];exact b)
 obtain ⟨e1,p1,p2,p3,p4,p5,p6⟩:=addInts_ok (t:=3) (ok:=fun k=>True∧some k ≠ (Value.slice (some ⟨g,0,none⟩) r4.length cap).ownBlock) (l:=r4) (vs:=inner) hg2 hg1 (fun n x b q hx hr he=>rwBelow hs n x b q hx hr he) (fun n a b=>hfree n a (Nat.lt_succ_of_lt b)) (by rw [ho1];omega)
  (fun j ys hj=>by
   obtain ⟨v,hv1,hv2⟩:=hrep.2 j ys hj
   refine ⟨hne1 ys (List.mem_of_getElem? hj),v,?_,hv2⟩
   have : ((inner.drop (j * 1)).take 1)[0]? = some v:=by rw [show (inner.drop (j * 1)).take 1 = [v] from hv1];rfl
   rw [List.getElem?_take,if_pos (by omega),List.getElem?_drop] at this
   simpa using this)
 have hn1 : (addInts 3 r4 s).2.next = s.next + r4.length:=addInts_next ..
 have hfr1 : e1 (addInts 3 r4 s).2.next = none:=by
  rw [hn1];exact p6 _ (Nat.le_refl _) (hfree _ (by omega) (by omega))
 have hob : w'.heap[g]? = some (.cells (inner ++ cur.toList.drop (r4.length * 1)).toArray 28 (0,0)):=by
  rw [o2,← o6,List.take_append_drop]
 obtain ⟨q1,q2,_⟩:=addAt (q:=cap) (blk:=.ro 28 (some 1) (addInts 3 r4 s).1) p1 p2 p3 hfr1 o1 (Array.getElem?_eq_some_iff.1 o2).1 (.inl fun z=>z) hob
  ⟨_,_,concL_le (Env.le_upd _ hfr1) _ _ p5,rfl,fun m hm=>by cases hm;rw [← o6,List.take_append_drop,Array.length_toList];exact o5⟩
 refine ⟨_,w',q1,q2,?_⟩
 have hle:=p4.trans (Env.le_upd (g,cap) hfr1)
 have hup : (e1.upd (addInts 3 r4 s).2.next (g,cap)) (s.next + r4.length) = some (g,cap):=by rw [← hn1];exact Env.upd_self ..
 refine ⟨_,?_,hst _ rfl⟩
 simp only [conc,concL,conc_le hle _ _ hxt,conc_le hle _ _ hxz,hup,Option.map_some,Option.bind_some]
theorem levelG_ok {args : List AV} {s : St} {r : Rt} {s' : St} (h : levelG args s = some (r,s')) {e : Env} {w : World} (hs : Sim e s w) (hf : Free e s.next s'.next) {xs : List Value} (hxs : concL e args = some xs) (c : Frame) (cs : List Frame) :
  ∃ e' w',Sim e' s' w'∧Goes e s w e' s' w'∧EndsAt Tryz.prog (lone (Frame.enter Tryz.prog 85 xs.toArray .normal) (c :: cs) w) c cs e' r w':=by
 unfold levelG at h
 split at h
 case h_2=>cases h
 rename_i t d z wr sp gv cc
 simp only [Option.bind_eq_some_iff] at h
 obtain ⟨rs,hrs,zs,hzs,gs,hgs,rr,hr,h⟩:=h
 cases h
 simp only [concL,conc,Option.bind_eq_some_iff,Option.map_eq_some_iff,Option.some.injEq] at hxs
 obtain ⟨_,⟨_,⟨xt,hxt,_,⟨_,rfl,_,⟨xz,hxz,_,⟨_,rfl,_,⟨_,rfl,_,⟨xg,hxg,_,rfl,rfl⟩,rfl⟩,rfl⟩,rfl⟩,rfl⟩,rfl⟩,rfl⟩,_,⟨_,rfl,_,rfl,rfl⟩,rfl⟩:=hxs
 obtain ⟨A0,c0,rfl,hc0,hC0⟩:=rdRows_ok hs hrs hxt
 obtain ⟨A2,c2,rfl,hc2,hC2⟩:=rdNoz_ok hs hzs hxz
 obtain ⟨A5,c5,rfl,hc5,hC5⟩:=rdLists_ok hs hgs hxg
 obtain ⟨en,w',⟨rfl,hB⟩,hst⟩:=endsC (gf_level.calls A0 c0 rs d A2 c2 zs wr sp A5 c5 gs cc rr w hC0 hc0 hC2 hc2 hC5 hc5 hr) c cs
 obtain ⟨hg1,hg2⟩:=grow hs hB
 exact ⟨e,w',hg1,hg2,_,rfl,hst _ rfl⟩
theorem sharesG_ok {args : List AV} {s : St} {r : Rt} {s' : St} (h : sharesG args s = some (r,s')) {e : Env} {w : World} (hs : Sim e s w) (hf : Free e s.next s'.next) {xs : List Value} (hxs : concL e args = some xs) (c : Frame) (cs : List Frame) :
  ∃ e' w',Sim e' s' w'∧Goes e s w e' s' w'∧EndsAt Tryz.prog (lone (Frame.enter Tryz.prog 71 xs.toArray .normal) (c :: cs) w) c cs e' r w':=by
 unfold sharesG at h
 split at h
 case h_2=>cases h
 rename_i t d z wr sp gv cc
 simp only [Option.bind_eq_some_iff] at h
 obtain ⟨rs,hrs,zs,hzs,gs,hgs,⟨r1,r2⟩,hr,h⟩:=h
 split at h
 case isTrue=>cases h
 rename_i hne
 have hne : r1 ≠ []:=fun e0=>hne (by simp only [e0,List.isEmpty_nil])
 cases h
 simp only [concL,conc,Option.bind_eq_some_iff,Option.map_eq_some_iff,Option.some.injEq] at hxs
 obtain ⟨_,⟨_,⟨xt,hxt,_,⟨_,rfl,_,⟨xz,hxz,_,⟨_,rfl,_,⟨_,rfl,_,⟨xg,hxg,_,rfl,rfl⟩,rfl⟩,rfl⟩,rfl⟩,rfl⟩,rfl⟩,rfl⟩,_,⟨_,rfl,_,rfl,rfl⟩,rfl⟩:=hxs
 obtain ⟨A0,c0,rfl,hc0,hC0⟩:=rdRows_ok hs hrs hxt
 obtain ⟨A2,c2,rfl,hc2,hC2⟩:=rdNoz_ok hs hzs hxz
 obtain ⟨A5,c5,rfl,hc5,hC5⟩:=rdLists_ok hs hgs hxg
 obtain ⟨en,w',⟨v0,rfl,hR,hB⟩,hst⟩:=endsC (gf_shares.calls 400 A0 c0 rs d A2 c2 zs wr sp A5 c5 gs cc r1 r2 w hC0 hc0 hC2 hc2 hC5 hc5 hr) c cs
 obtain ⟨hg1,hg2⟩:=grow hs hB
 obtain ⟨g,cap,rest,rfl,h1,h2,h3,h4⟩:=row_of (d:=Kd.int .i64) (n:=0) hR hne
 have hfree : e s.next = none:=hf _ (Nat.le_refl _) (by simp only [St.add];omega)
 obtain ⟨q1,q2,_⟩:=addAt (q:=cap) (blk:=.cells 3 (some 1) (r1.map (.int .i64))) hg2 hg1 (fun n x b q hx hr he=>rwBelow hs n x b q hx hr he) hfree h1 h2
  (.inr fun n x q _ he=>absurd (hs.bound n g q he) (by omega)) h3 ⟨_,rest,concL_ints _ r1,rfl,h4⟩
 refine ⟨_,w',q1,q2,_,?_,hst _ rfl⟩
 simp only [conc,concL,Env.upd_self,Option.map_some,Option.bind_some]
theorem castleHook_ok : HookOk Tryz.prog castleHook:=by
 intro f g hg args s r s' h e w hs hf xs hxs c cs
 unfold castleHook at hg
 split at hg
 ·rename_i hb;cases hg;cases Nat.eq_of_beq_eq_true hb;exact fillG_ok h hs hf hxs c cs
 ·split at hg
  ·rename_i hb;cases hg;cases Nat.eq_of_beq_eq_true hb;exact levelG_ok h hs hf hxs c cs
  ·split at hg
   ·rename_i hb;cases hg;cases Nat.eq_of_beq_eq_true hb;exact sharesG_ok h hs hf hxs c cs
   ·cases hg
end Go.Proofs.YtnnmnhpeblhiiaaGreatDoor.C
namespace Go.Proofs.YtnnmnhpeblhiiaaGreatDoor.C
open Go Go.Abs Go.RowKit
set_option linter.unusedVariables false
set_option linter.unusedSimpArgs false
set_option maxHeartbeats 16000000
set_option maxRecDepth 100000
abbrev I (n : Int) : AV:=.int .i64 n
abbrev U : AV:=.tup []
abbrev L {α : Type} : T4 α:=.leaf
abbrev N {α : Type} (v : α) (a b c d : T4 α) : T4 α:=.node v a b c d
abbrev N0 {α : Type} (v : α) : T4 α:=.node v .leaf .leaf .leaf .leaf
abbrev N1 {α : Type} (v : α) (a : T4 α) : T4 α:=.node v a .leaf .leaf .leaf
abbrev N2 {α : Type} (v : α) (a : T4 α) : T4 α:=.node v .leaf a .leaf .leaf
abbrev N3 {α : Type} (v : α) (a : T4 α) : T4 α:=.node v .leaf .leaf a .leaf
abbrev N4 {α : Type} (v : α) (a : T4 α) : T4 α:=.node v .leaf .leaf .leaf a
noncomputable def knownCall : CallF:=fCall Tryz.prog Go.Proofs.YtnnmnhpeblhiiaaGreatDoor.C.castleHook 100000 60
noncomputable def kt0 : FT:=ofL []
noncomputable def kg0 : Sg:=sgOf ⟨.leaf,0,[]⟩
noncomputable def kt1 : FT:=(N U (N U L (N (.ptr 318 0) (N0 (I 0)) L L L) (N (.ptr 175 0) (N0 (I 0)) L L L) (N0 (.opn 36 3))) (N U (N0 (I 1)) (N1 U (N0 (I 0))) (N (I 3) (N0 (.bool false)) L L L) L) (N U (N (.opn 710 3) (N0 (I 0)) L L L) (N (.ptr 244 0) (N0 (I 0)) L L L) (N0 (.opn 114 3)) L) (N U (N (.opn 424 3) (N0 (I 0)) L L L) (N (.opn 243 3) (N0 (I 0)) L L L) (N0 (I 10)) L))
noncomputable def kg1 : Sg:=sgOf ⟨(N none (N none (N3 none (N1 none (N0 (some (.cells 126 none [(I 5),(I 4),(I 10),(I 10),(I 8),(I 20),(I 20),(I 15),(I 45)]))))) L (N none L (N2 none (N1 none (N0 (some (.cells 3 none [(I 8),(I 12),(I 12)]))))) (N0 (some (.cells 48 none [(I 0),(I 10),(I 1),(I 10),(I 2),(I 12)]))) L) (N3 none (N4 none (N0 (some (.cells 126 none [(I 5),(I 4),(I 10),(I 10),(I 8),(I 20),(I 20),(I 15),(I 45)])))))) (N (some (.cells 126 none [(I 5),(I 4),(I 10),(I 10),(I 8),(I 20),(I 20),(I 15),(I 45)])) (N none L L (N1 none (N0 (some (.cells 48 none [(I 0),(I 10),(I 1),(I 10),(I 2),(I 12)])))) (N2 none (N2 none (N0 (some (.cells 3 (some 1) [(I 10),(I 11),(I 12)])))))) L (N3 none (N4 none (N0 (some (.cells 54 none [(I 27),(I 56)]))))) (N none L (N none (N0 (some (.cells 3 (some 1) [(I 10),(I 20),(I 45)]))) (N0 (some (.cells 126 none [(I 5),(I 4),(I 10),(I 10),(I 8),(I 20),(I 20),(I 15),(I 45)]))) L L) (N4 none (N0 (some (.cells 48 none [(I 0),(I 10),(I 1),(I 10),(I 2),(I 12)])))) L)) (N (some (.cells 48 none [(I 0),(I 10),(I 1),(I 10),(I 2),(I 12)])) (N3 none (N3 none (N0 (some (.cells 126 none [(I 5),(I 4),(I 10),(I 10),(I 8),(I 20),(I 20),(I 15),(I 45)]))))) (N2 none (N2 none (N1 none (N0 (some (.cells 126 none [(I 5),(I 4),(I 10),(I 10),(I 8),(I 20),(I 20),(I 15),(I 45)])))))) (N2 none (N2 none (N0 (some (.cells 54 none [(I 13),(I 15)]))))) (N2 none (N none L (N0 (some (.cells 48 none [(I 0),(I 10),(I 1),(I 10),(I 2),(I 12)]))) (N0 (some (.cells 54 (some 2) [(I 8),(I 10),(I 13),(I 20),(I 9),(I 30)]))) L))) (N none (N none L (N2 none (N1 none (N0 (some (.cells 3 (some 1) [(I (-4)),(I (-5)),(I 9)]))))) (N3 none (N0 (some (.cells 48 none [(I 0),(I 10),(I 1),(I 10),(I 2),(I 12)])))) L) (N none L (N2 none (N1 none (N0 (some (.cells 48 none [(I 0),(I 10),(I 1),(I 10),(I 2),(I 12)]))))) (N0 (some (.cells 126 none [(I 5),(I 4),(I 10),(I 10),(I 8),(I 20),(I 20),(I 15),(I 45)]))) L) L (N none (N0 (some (.ro 3 (some 1) [(I 10),(I 20),(I 45)]))) (N3 none (N0 (some (.cells 54 none [(I 0),(I 0)])))) L L))),758,[710,429,428,427,424,322,321,318,318,248,247,244,244,243,179,178,175,175,118,117,114,61,60,36,3,2]⟩
noncomputable def kt2 : FT:=(N U (N U (N0 (.opn 5340 2)) (N (.ptr 318 0) (N0 (I 0)) L L L) (N (.ptr 175 0) (N0 (I 0)) L L L) (N0 (.opn 36 3))) (N U (N (I 1) (N0 (I 0)) L L L) (N1 U (N0 (I 0))) (N (I 3) (N0 (.bool false)) L L L) L) (N U (N (.opn 710 3) (N0 (I 0)) L L L) (N (.ptr 244 0) (N0 (I 0)) L L L) (N0 (.opn 114 3)) L) (N U (N (.opn 424 3) (N0 (I 0)) L L L) (N (.opn 243 3) (N0 (I 0)) L L L) (N0 (I 10)) L))
noncomputable def kg2 : Sg:=sgOf ⟨(N none (N none (N3 none (N1 none (N0 (some (.cells 126 none [(I 5),(I 4),(I 10),(I 10),(I 8),(I 20),(I 20),(I 15),(I 45)]))))) (N3 none (N3 none (N2 none (N0 (some (.cells 48 none [(I 0),(I 10),(I 1),(I 10),(I 2),(I 12)])))))) (N none L (N2 none (N1 none (N0 (some (.cells 3 none [(I 8),(I 12),(I 12)]))))) (N0 (some (.cells 48 none [(I 0),(I 10),(I 1),(I 10),(I 2),(I 12)]))) L) (N3 none (N4 none (N0 (some (.cells 126 none [(I 5),(I 4),(I 10),(I 10),(I 8),(I 20),(I 20),(I 15),(I 45)])))))) (N (some (.cells 126 none [(I 5),(I 4),(I 10),(I 10),(I 8),(I 20),(I 20),(I 15),(I 45)])) (N none L L (N1 none (N0 (some (.cells 48 none [(I 0),(I 10),(I 1),(I 10),(I 2),(I 12)])))) (N2 none (N2 none (N0 (some (.cells 3 (some 1) [(I 10),(I 11),(I 12)])))))) (N3 none (N3 none (N2 none (N0 (some (.cells 54 none [(I 4),(I 4),(I 8),(I 8),(I 18),(I 18)])))))) (N3 none (N4 none (N0 (some (.cells 54 none [(I 27),(I 56)]))))) (N none L (N none (N0 (some (.cells 3 (some 1) [(I 10),(I 20),(I 45)]))) (N0 (some (.cells 126 none [(I 5),(I 4),(I 10),(I 10),(I 8),(I 20),(I 20),(I 15),(I 45)]))) L L) (N4 none (N0 (some (.cells 48 none [(I 0),(I 10),(I 1),(I 10),(I 2),(I 12)])))) L)) (N (some (.cells 48 none [(I 0),(I 10),(I 1),(I 10),(I 2),(I 12)])) (N3 none (N3 none (N0 (some (.cells 126 none [(I 5),(I 4),(I 10),(I 10),(I 8),(I 20),(I 20),(I 15),(I 45)]))))) (N2 none (N2 none (N1 none (N0 (some (.cells 126 none [(I 5),(I 4),(I 10),(I 10),(I 8),(I 20),(I 20),(I 15),(I 45)])))))) (N2 none (N2 none (N0 (some (.cells 54 none [(I 13),(I 15)]))))) (N2 none (N none L (N0 (some (.cells 48 none [(I 0),(I 10),(I 1),(I 10),(I 2),(I 12)]))) (N0 (some (.cells 54 (some 2) [(I 8),(I 10),(I 13),(I 20),(I 9),(I 30)]))) L))) (N none (N none L (N2 none (N1 none (N0 (some (.cells 3 (some 1) [(I (-4)),(I (-5)),(I 9)]))))) (N3 none (N (some (.cells 48 none [(I 0),(I 10),(I 1),(I 10),(I 2),(I 12)])) L (N0 (some (.cells 126 none [(I 5),(I 4),(I 10),(I 10),(I 8),(I 20),(I 20),(I 15),(I 45)]))) L L)) L) (N none (N3 none (N4 none (N4 none (N0 (some (.cells 44 (some 2) [(I 2),(I 9),(I 2),(I 10)])))))) (N2 none (N1 none (N0 (some (.cells 48 none [(I 0),(I 10),(I 1),(I 10),(I 2),(I 12)]))))) (N0 (some (.cells 126 none [(I 5),(I 4),(I 10),(I 10),(I 8),(I 20),(I 20),(I 15),(I 45)]))) L) L (N none (N0 (some (.ro 3 (some 1) [(I 10),(I 20),(I 45)]))) (N3 none (N0 (some (.cells 54 none [(I 0),(I 0)])))) L L))),6791,[5340,762,761,760,710,429,428,427,424,322,321,318,318,248,247,244,244,243,179,178,175,175,118,117,114,61,60,36,3,2]⟩
theorem ks0 : ((kcOf Tryz.prog 19).drop 0).seqs 8 = true:=by kernel_rfl
theorem kr0 (kx : KX) (k : KT) : warm 1 (runKX 100000 (((kcOf Tryz.prog 19).drop 0).take 8) ⟨Tryz.prog,knownCall,kx⟩ kt0 kg0 k) = k kt1 kg1:=by kernel_rfl
theorem ks1 : ((kcOf Tryz.prog 19).drop 8).seqs 1 = true:=by kernel_rfl
theorem kr1 (kx : KX) (k : KT) : warm 12 (runKX 99992 (((kcOf Tryz.prog 19).drop 8).take 1) ⟨Tryz.prog,knownCall,kx⟩ kt1 kg1 k) = k kt2 kg2:=by kernel_rfl
theorem klast : okTrue (warm 107 (from_ Tryz.prog knownCall 19 9 99991 kt2 kg2)) = true:=by kernel_rfl
theorem known_run : okTrue (runF Tryz.prog Go.Proofs.YtnnmnhpeblhiiaaGreatDoor.C.castleHook 100000 60 19 []) = true:=by
 rw [runF_from]
 rw [show from_ Tryz.prog (fCall Tryz.prog Go.Proofs.YtnnmnhpeblhiiaaGreatDoor.C.castleHook 100000 60) 19 0 100000 (ofL []) (sgOf ⟨.leaf,0,[]⟩) = from_ Tryz.prog knownCall 19 0 100000 kt0 kg0 from rfl]
 rw [show from_ Tryz.prog knownCall 19 0 100000 kt0 kg0 = from_ Tryz.prog knownCall 19 8 99992 kt1 kg1 from from_step (K:=99991) (m:=8) ks0 fun kx k=>(warm_eq 1 _).symm.trans (kr0 kx k)]
 rw [show from_ Tryz.prog knownCall 19 8 99992 kt1 kg1 = from_ Tryz.prog knownCall 19 9 99991 kt2 kg2 from from_step (K:=99990) (m:=1) ks1 fun kx k=>(warm_eq 12 _).symm.trans (kr1 kx k)]
 exact (congrArg okTrue (warm_eq 107 _)).symm.trans klast
end Go.Proofs.YtnnmnhpeblhiiaaGreatDoor.C
namespace Go.Proofs.YtnnmnhpeblhiiaaGreatDoor.C
open Go Go.RowKit Go.Abs
set_option linter.unusedVariables false
set_option linter.unusedSimpArgs false
set_option maxHeartbeats 16000000
set_option maxRecDepth 100000
def l4_known.f : Option Bool:=some true
theorem l4_known.calls (r : Bool) (w : World) (h : l4_known.f = some r) : Calls Tryz.prog 19 #[] w fun e w'=>e = .returned (.bool r)∧Below w.heap.size w w':=by
 cases h
 exact calls_true castleHook_ok known_run w
theorem known_true : l4_known.f = some true:=rfl
end Go.Proofs.YtnnmnhpeblhiiaaGreatDoor.C

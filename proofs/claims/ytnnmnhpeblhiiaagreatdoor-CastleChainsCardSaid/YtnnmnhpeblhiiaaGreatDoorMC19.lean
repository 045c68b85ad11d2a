/- A part of the proof: the walks of the functions that it reaches. TIGHT. -/
import Derived.Test.YtnnmnhpeblhiiaaGreatDoorMC18
import Derived.Laws.EntriesVeiled
import Derived.Outline
import Derived.Tactics2
import Derived.Defers
import Derived.Recover
import Derived.Laws.Pointers
import Derived.Lib.Hide
set_option linter.unusedVariables false
set_option linter.unusedSimpArgs false
namespace Go.Proofs.YtnnmnhpeblhiiaaGreatDoor.C
open Go.RowKit Go.Proofs.YtnnmnhpeblhiiaaGreatDoorW.PrintWords Go.Proofs.YtnnmnhpeblhiiaaGreatDoorW.PrintLast Go.Proofs.YtnnmnhpeblhiiaaGreatDoorW.PrintMore
set_option linter.unusedVariables false
set_option linter.unusedSimpArgs false
set_option maxHeartbeats 16000000
set_option maxRecDepth 100000
section
attribute [local go_sem] max2_int min2_int max_two min_two
def gf_weir.f (l0_0 : List (S126)) (a0_1 : Int) (l0_2 : List (S48)) (a0_3 : Int) (a0_4 : Int) (l0_5 : List (List Int)) (a1 : Int) : Option (Int) := some (wrap64 (a0_4 * (mx 0 (wrap64 (a1 - a0_3)))))
theorem gf_weir.calls (A0_0 : Option Addr) (c0_0 : Nat) (l0_0 : List (S126)) (a0_1 : Int) (A0_2 : Option Addr) (c0_2 : Nat) (l0_2 : List (S48)) (a0_3 : Int) (a0_4 : Int) (A0_5 : Option Addr) (c0_5 : Nat) (l0_5 : List (List Int)) (a1 : Int) (r : Int) (w : World) (hr0_0 : Kd.C k126 w A0_0 l0_0.length l0_0) (hc0_0 : l0_0.length ≤ c0_0) (hr0_2 : Kd.C k48 w A0_2 l0_2.length l0_2) (hc0_2 : l0_2.length ≤ c0_2) (hr0_5 : Kd.C (Kd.slice 3 (Kd.int .i64)) w A0_5 l0_5.length l0_5) (hc0_5 : l0_5.length ≤ c0_5) (h : gf_weir.f l0_0 a0_1 l0_2 a0_3 a0_4 l0_5 a1 = some r) :
 Calls Tryz.prog 87 #[.agg #[.slice A0_0 l0_0.length c0_0,.int .i64 a0_1,.slice A0_2 l0_2.length c0_2,.int .i64 a0_3,.int .i64 a0_4,.slice A0_5 l0_5.length c0_5],.int .i64 a1] w fun e w' => e = .returned (.int .i64 r) ∧ Below w.heap.size w w' := by
 have hu110 := Tryz.underlying110
 have HR0_0 := am hr0_0
 have HC0_0 := am hc0_0
 clear hr0_0 hc0_0
 have HR0_2 := am hr0_2
 have HC0_2 := am hc0_2
 clear hr0_2 hc0_2
 have HR0_5 := am hr0_5
 have HC0_5 := am hc0_5
 clear hr0_5 hc0_5
 have HB := am (Below.refl w.heap.size w)
 have H : (some (wrap64 (a0_4 * (mx 0 (wrap64 (a1 - a0_3)))))) = some r := h
 clear h
 obtain ⟨ji3,hji3⟩ : ∃ j_ : Int,(mx 0 (wrap64 (a1 - a0_3))) = j_ := ⟨_,rfl⟩
 replace H : (some (wrap64 (a0_4 * (ji3)))) = some r := by first | (rw [hji3] at H;exact H) | (simp only [hji3] at H ⊢;exact H)
 (try (have hji3l : 0 ≤ ji3 := by (rw [← hji3];unfold mx;(repeat' split) <;> omega)))
 (try (have hji3m : 0 ≤ ji3 := by omega))
 have hji3_ : (if 0 < (wrap64 (a1 - a0_3)) then (wrap64 (a1 - a0_3)) else 0) = ji3 := hji3
 obtain rfl := Option.some.inj H
 go_enter Tryz.func87,Tryz.ntmps87
 go_wp2_with (first | ((refine gate_dst (N := 2) rfl ?_);refine box_event rfl (N := 2) rfl (cs := #[.slice A0_0 l0_0.length c0_0,.int .i64 a0_1,.slice A0_2 l0_2.length c0_2,.int .i64 a0_3,.int .i64 a0_4,.slice A0_5 l0_5.length c0_5]) (t := 110) ?hr ?_;(case hr => go_simp;try rfl);intro gb335 hg w4 hbox hb;have BK335 := am (hbox);have GW335 := am (ge_new (HB.out) hg);have GE335 := am (ge_new (HB.out) hg);replace HB := am (below_step (HB.out) hb);clear hb hbox hg;obtain ⟨hcz5_0,hcz5_1,hcz5_2,hcz5_3,hcz5_4,hcz5_5⟩ := cO6 BK335.out))
 go_ret
 exact ⟨by first | rfl | (simp [errW_none,errW_some] <;> rfl) | (simp only [← hji3];first | rfl | (simp [errW_none,errW_some] <;> rfl)) | (simp [*,errW_none,errW_some] <;> rfl),HB.out⟩
end
def gf_out.f (l0_0 : List S126) (a0_1 : Int) (l0_2 : List S48) (a0_3 a0_4 : Int) (l0_5 : List (List Int)) (a1 : Int) : Option Int :=
 (gf_nozzles.f ((rd_L3 l0_5 a1).length + 1) l0_0 a0_1 l0_2 a0_3 a0_4 l0_5 a1).bind fun x => (gf_weir.f l0_0 a0_1 l0_2 a0_3 a0_4 l0_5 a1).bind fun y => some (wrap64 (wrap64 x + y))
theorem gf_out.calls (A0_0 : Option Addr) (c0_0 : Nat) (l0_0 : List S126) (a0_1 : Int) (A0_2 : Option Addr) (c0_2 : Nat) (l0_2 : List S48) (a0_3 a0_4 : Int) (A0_5 : Option Addr) (c0_5 : Nat) (l0_5 : List (List Int)) (a1 : Int) (r : Int) (w : World) (hr0_0 : Kd.C k126 w A0_0 l0_0.length l0_0) (hc0_0 : l0_0.length ≤ c0_0) (hr0_2 : Kd.C k48 w A0_2 l0_2.length l0_2) (hc0_2 : l0_2.length ≤ c0_2) (hr0_5 : Kd.C (Kd.slice 3 (Kd.int .i64)) w A0_5 l0_5.length l0_5) (hc0_5 : l0_5.length ≤ c0_5) (h : gf_out.f l0_0 a0_1 l0_2 a0_3 a0_4 l0_5 a1 = some r) :
 Calls Tryz.prog 109 #[.agg #[.slice A0_0 l0_0.length c0_0,.int .i64 a0_1,.slice A0_2 l0_2.length c0_2,.int .i64 a0_3,.int .i64 a0_4,.slice A0_5 l0_5.length c0_5],.int .i64 a1] w fun e w' => e = .returned (.int .i64 r) ∧ Below w.heap.size w w' := by
 have hu := Tryz.underlying110
 have HB := am (Below.refl w.heap.size w)
 have HR0 := am hr0_0
 have HC0 := am hc0_0
 have HR2 := am hr0_2
 have HC2 := am hc0_2
 have HR5 := am hr0_5
 have HC5 := am hc0_5
 clear hr0_0 hc0_0 hr0_2 hc0_2 hr0_5 hc0_5
 unfold gf_out.f at h
 obtain ⟨x,hx,h⟩ := obm h
 obtain ⟨y,hy,h⟩ := obm h
 have H1 := am hx
 have H2 := am hy
 have H3 := am (Option.some.inj h)
 clear hx hy h
 go_enter Tryz.func109,Tryz.ntmps109
 go_wp2_with ((refine gate_dst (N := 2) rfl ?_);(try (refine gate_guard (by rfl) ?_;dsimp only));refine box_event rfl (N := 2) rfl (cs := #[.slice A0_0 l0_0.length c0_0,.int .i64 a0_1,.slice A0_2 l0_2.length c0_2,.int .i64 a0_3,.int .i64 a0_4,.slice A0_5 l0_5.length c0_5]) (t := 110) ?hr ?_;(case hr => go_simp;try rfl);intro g hg w2 hbox hb;replace HB := (bmv HB hb);clear hg;have BKg := am hbox;clear hbox;(try clear hczg_0 hczg_1 hczg_2 hczg_3 hczg_4 hczg_5);obtain ⟨hczg_0,hczg_1,hczg_2,hczg_3,hczg_4,hczg_5⟩ := cO6 BKg.out;clear hb)
 have hi0 : ∀ W,(Instr.index 178 (.agg #[.func (.func 131) #[.agg #[.slice A0_0 l0_0.length c0_0,.int .i64 a0_1,.slice A0_2 l0_2.length c0_2,.int .i64 a0_3,.int .i64 a0_4,.slice A0_5 l0_5.length c0_5]] #[],.func (.func 87) #[.agg #[.slice A0_0 l0_0.length c0_0,.int .i64 a0_1,.slice A0_2 l0_2.length c0_2,.int .i64 a0_3,.int .i64 a0_4,.slice A0_5 l0_5.length c0_5]] #[]]) (.int .i64 0)).run Tryz.prog W = .ok (.func (.func 131) #[.agg #[.slice A0_0 l0_0.length c0_0,.int .i64 a0_1,.slice A0_2 l0_2.length c0_2,.int .i64 a0_3,.int .i64 a0_4,.slice A0_5 l0_5.length c0_5]] #[]) W := fun W => by rfl
 have hi1 : ∀ W,(Instr.index 178 (.agg #[.func (.func 131) #[.agg #[.slice A0_0 l0_0.length c0_0,.int .i64 a0_1,.slice A0_2 l0_2.length c0_2,.int .i64 a0_3,.int .i64 a0_4,.slice A0_5 l0_5.length c0_5]] #[],.func (.func 87) #[.agg #[.slice A0_0 l0_0.length c0_0,.int .i64 a0_1,.slice A0_2 l0_2.length c0_2,.int .i64 a0_3,.int .i64 a0_4,.slice A0_5 l0_5.length c0_5]] #[]]) (.int .i64 1)).run Tryz.prog W = .ok (.func (.func 87) #[.agg #[.slice A0_0 l0_0.length c0_0,.int .i64 a0_1,.slice A0_2 l0_2.length c0_2,.int .i64 a0_3,.int .i64 a0_4,.slice A0_5 l0_5.length c0_5]] #[]) W := fun W => by rfl
 go_loopw [6,8,15] (fun v6 v8 v15 w' => ((v6 = .int .i64 0 ∧ v15 = .int .i64 0) ∨ (v6 = .int .i64 (wrap64 x) ∧ v15 = .int .i64 1) ∨ (v6 = .int .i64 (wrap64 (wrap64 x + y)) ∧ v15 = .int .i64 2)) ∧ Aside0 (Below w.heap.size w w')) (fun _ _ v15 _ => 2 - (intOf v15).toNat)
 case atStart => exact ⟨.inl ⟨rfl,rfl⟩,⟨below_alloc HB.out _⟩⟩
 case round =>
  obtain ⟨hc,HBr⟩ := hrel
  rcases hc with ⟨rfl,rfl⟩ | ⟨rfl,rfl⟩ | ⟨rfl,rfl⟩
  · go_wp2_with (go_at_call 131;refine (gf_nozzles.calls _ A0_0 c0_0 l0_0 a0_1 A0_2 c0_2 l0_2 a0_3 a0_4 A0_5 c0_5 l0_5 a1 x _ (kC HR0.out HBr.out) HC0.out (kC HR2.out HBr.out) HC2.out (kC HR5.out HBr.out) HC5.out H1.out).mono ?_;rintro e w3 ⟨rfl,hb⟩)
    go_roundw
    case rel => exact ⟨.inr (.inl ⟨by simp,by simp⟩),⟨below_then HBr.out HBr.out.size hb⟩⟩
    case measure => simp [intOf]
  · go_wp2_with (go_at_call 87;refine (gf_weir.calls A0_0 c0_0 l0_0 a0_1 A0_2 c0_2 l0_2 a0_3 a0_4 A0_5 c0_5 l0_5 a1 y _ (kC HR0.out HBr.out) HC0.out (kC HR2.out HBr.out) HC2.out (kC HR5.out HBr.out) HC5.out H2.out).mono ?_;rintro e w3 ⟨rfl,hb⟩)
    go_roundw
    case rel => exact ⟨.inr (.inr ⟨by simp,by simp⟩),⟨below_then HBr.out HBr.out.size hb⟩⟩
    case measure => simp [intOf]
  · go_wp2
    go_ret
    exact ⟨ret_int_eq H3.out,HBr.out⟩
def levelGo (l0_0 : List S126) (a0_1 : Int) (l0_2 : List S48) (a0_3 a0_4 : Int) (l0_5 : List (List Int)) (a1 : Int) : Nat → Int → Int → Option Int
 | 0,_,out => some out
 | n + 1,h,out => (gf_out.f l0_0 a0_1 l0_2 a0_3 a0_4 l0_5 h).bind fun t => if t > a1 then some out else levelGo l0_0 a0_1 l0_2 a0_3 a0_4 l0_5 a1 n (h + 1) h
def gf_level.f (l0_0 : List S126) (a0_1 : Int) (l0_2 : List S48) (a0_3 a0_4 : Int) (l0_5 : List (List Int)) (a1 : Int) : Option Int := levelGo l0_0 a0_1 l0_2 a0_3 a0_4 l0_5 a1 l0_5.length 0 0
theorem gf_level.calls (A0_0 : Option Addr) (c0_0 : Nat) (l0_0 : List S126) (a0_1 : Int) (A0_2 : Option Addr) (c0_2 : Nat) (l0_2 : List S48) (a0_3 a0_4 : Int) (A0_5 : Option Addr) (c0_5 : Nat) (l0_5 : List (List Int)) (a1 : Int) (r : Int) (w : World) (hr0_0 : Kd.C k126 w A0_0 l0_0.length l0_0) (hc0_0 : l0_0.length ≤ c0_0) (hr0_2 : Kd.C k48 w A0_2 l0_2.length l0_2) (hc0_2 : l0_2.length ≤ c0_2) (hr0_5 : Kd.C (Kd.slice 3 (Kd.int .i64)) w A0_5 l0_5.length l0_5) (hc0_5 : l0_5.length ≤ c0_5) (h : gf_level.f l0_0 a0_1 l0_2 a0_3 a0_4 l0_5 a1 = some r) :
 Calls Tryz.prog 85 #[.agg #[.slice A0_0 l0_0.length c0_0,.int .i64 a0_1,.slice A0_2 l0_2.length c0_2,.int .i64 a0_3,.int .i64 a0_4,.slice A0_5 l0_5.length c0_5],.int .i64 a1] w fun e w' => e = .returned (.int .i64 r) ∧ Below w.heap.size w w' := by
 have hu := Tryz.underlying110
 have HB := am (Below.refl w.heap.size w)
 have hm : l0_5.length ≤ 9223372036854775807 := Kd.C_max hr0_5
 have HR0 := am hr0_0
 have HC0 := am hc0_0
 have HR2 := am hr0_2
 have HC2 := am hc0_2
 have HR5 := am hr0_5
 have HC5 := am hc0_5
 clear hr0_0 hc0_0 hr0_2 hc0_2 hr0_5 hc0_5
 have HQ := am (show levelGo l0_0 a0_1 l0_2 a0_3 a0_4 l0_5 a1 ((l0_5.length : Int) - 0).toNat 0 0 = some r from h)
 clear h
 go_enter Tryz.func85,Tryz.ntmps85
 go_wp2_with ((refine gate_dst (N := 2) rfl ?_);(try (refine gate_guard (by rfl) ?_;dsimp only));refine box_event rfl (N := 2) rfl (cs := #[.slice A0_0 l0_0.length c0_0,.int .i64 a0_1,.slice A0_2 l0_2.length c0_2,.int .i64 a0_3,.int .i64 a0_4,.slice A0_5 l0_5.length c0_5]) (t := 110) ?hr ?_;(case hr => go_simp;try rfl);intro g hg w2 hbox hb;replace HB := (bmv HB hb);clear hg;have BKg := am hbox;clear hbox;(try clear hczg_0 hczg_1 hczg_2 hczg_3 hczg_4 hczg_5);obtain ⟨hczg_0,hczg_1,hczg_2,hczg_3,hczg_4,hczg_5⟩ := cO6 BKg.out;clear hb)
 go_step3
 go_wp2
 go_step3
 go_wp2
 go_loopw [5,6,10] (fun v5 v6 v10 w' => ∃ i out : Int,0 ≤ i ∧ i ≤ l0_5.length ∧ v5 = .int .i64 out ∧ v10 = .int .i64 i ∧ Aside0 (levelGo l0_0 a0_1 l0_2 a0_3 a0_4 l0_5 a1 ((l0_5.length : Int) - i).toNat i out = some r) ∧ Aside0 (Below w.heap.size w w') ∧ Aside0 (w'.heap[g]? = some (.cells #[.slice A0_0 l0_0.length c0_0,.int .i64 a0_1,.slice A0_2 l0_2.length c0_2,.int .i64 a0_3,.int .i64 a0_4,.slice A0_5 l0_5.length c0_5] 110 (0,0)))) (fun _ _ v10 _ => l0_5.length - (intOf v10).toNat)
 case atStart => exact ⟨0,0,by omega,by omega,rfl,rfl,HQ,HB,BKg⟩
 case round =>
  clear HQ HB BKg
  obtain ⟨i,out,p1,hi,rfl,rfl,HQ,HB,BKg⟩ := hrel
  by_cases hlt : i < (l0_5.length : Int)
  case neg =>
   go_wp2
   (try rw [Exit.noGoto_ret])
   go_ret
   have hq := HQ.out
   rw [show ((l0_5.length : Int) - i).toNat = 0 by omega] at hq
   exact ⟨ret_int_eq (Option.some.inj hq),HB.out⟩
  have hq := HQ.out
  rw [show ((l0_5.length : Int) - i).toNat = ((l0_5.length : Int) - (i + 1)).toNat + 1 by omega] at hq
  simp only [levelGo] at hq
  obtain ⟨t,ht,hq⟩ := obm hq
  have H1 := am ht
  clear ht HQ
  (try clear hczg_0 hfzg_0);have hczg_0 : wr.cell? ⟨g,0,none⟩ = some (.slice A0_0 l0_0.length c0_0) := (blk_cell BKg.out 0).trans rfl;have hfzg_0 := blk_frozen BKg.out 0
  (try clear hczg_1 hfzg_1);have hczg_1 : wr.cell? ⟨g,1,none⟩ = some (.int .i64 a0_1) := (blk_cell BKg.out 1).trans rfl;have hfzg_1 := blk_frozen BKg.out 1
  (try clear hczg_2 hfzg_2);have hczg_2 : wr.cell? ⟨g,2,none⟩ = some (.slice A0_2 l0_2.length c0_2) := (blk_cell BKg.out 2).trans rfl;have hfzg_2 := blk_frozen BKg.out 2
  (try clear hczg_3 hfzg_3);have hczg_3 : wr.cell? ⟨g,3,none⟩ = some (.int .i64 a0_3) := (blk_cell BKg.out 3).trans rfl;have hfzg_3 := blk_frozen BKg.out 3
  (try clear hczg_4 hfzg_4);have hczg_4 : wr.cell? ⟨g,4,none⟩ = some (.int .i64 a0_4) := (blk_cell BKg.out 4).trans rfl;have hfzg_4 := blk_frozen BKg.out 4
  (try clear hczg_5 hfzg_5);have hczg_5 : wr.cell? ⟨g,5,none⟩ = some (.slice A0_5 l0_5.length c0_5) := (blk_cell BKg.out 5).trans rfl;have hfzg_5 := blk_frozen BKg.out 5
  by_cases hgt : t > a1
  · rw [if_pos hgt] at hq
    have H2 := am (Option.some.inj hq)
    have b1 : decide (a1 < t) = true := decide_eq_true hgt
    clear hq hgt
    go_wp2_with (go_at_call 109;refine (gf_out.calls A0_0 c0_0 l0_0 a0_1 A0_2 c0_2 l0_2 a0_3 a0_4 A0_5 c0_5 l0_5 i t _ (kC HR0.out HB.out) HC0.out (kC HR2.out HB.out) HC2.out (kC HR5.out HB.out) HC5.out H1.out).mono ?_;rintro e w3 ⟨rfl,hb⟩;have n_ := (kmv hb BKg);have m_ := (bmv HB hb);clear BKg HB hb hczg_0 hczg_1 hczg_2 hczg_3 hczg_4 hczg_5 hfzg_0 hfzg_1 hfzg_2 hfzg_3 hfzg_4 hfzg_5;have BKg := n_;have HB := m_;clear n_ m_)
    (try rw [Exit.noGoto_ret])
    go_ret
    exact ⟨ret_int_eq H2.out,HB.out⟩
  · rw [if_neg hgt] at hq
    have H2 := am hq
    have b1 : decide (a1 < t) = false := decide_eq_false hgt
    clear hq hgt
    go_wp2_with (go_at_call 109;refine (gf_out.calls A0_0 c0_0 l0_0 a0_1 A0_2 c0_2 l0_2 a0_3 a0_4 A0_5 c0_5 l0_5 i t _ (kC HR0.out HB.out) HC0.out (kC HR2.out HB.out) HC2.out (kC HR5.out HB.out) HC5.out H1.out).mono ?_;rintro e w3 ⟨rfl,hb⟩;have n_ := (kmv hb BKg);have m_ := (bmv HB hb);clear BKg HB hb hczg_0 hczg_1 hczg_2 hczg_3 hczg_4 hczg_5 hfzg_0 hfzg_1 hfzg_2 hfzg_3 hfzg_4 hfzg_5;have BKg := n_;have HB := m_;clear n_ m_)
    go_roundw
    case rel => exact ⟨i + 1,i,by omega,by omega,rfl,by go_num,H2,HB,BKg⟩
    case measure => simp [intOf];omega
section
attribute [local go_sem] max2_int min2_int max_two min_two
def gf_shares.l0 : Nat → Int → List Int → Int → List Int → Int → Int → Option (List Int × Int)
 | 0,_,_,_,_,_,_ => none
 | k + 1,x1,x7,x8,x33,x34,x35 => if x35 < x34 then (if 0 ≤ x35 then (if x35 < (x33.length : Int) then (if x35 < (x7.length : Int) then (gf_shares.l0 k x1 (x7.set (x35 : Int).toNat (wrap64 ((rd x7 x35) + (mn x8 (wrap64 ((rd x33 x35) - (rd x7 x35))))))) (wrap64 (x8 - (mn x8 (wrap64 ((rd x33 x35) - (rd x7 x35)))))) x33 x34 (wrap64 (x35 + 1))) else (none)) else (none)) else (none)) else ((ca_sum.f k x7).bind fun t190 => (some (x7,wrap64 (x1 - t190))))
def gf_shares.f (k : Nat) (l0_0 : List (S126)) (a0_1 : Int) (l0_2 : List (S48)) (a0_3 : Int) (a0_4 : Int) (l0_5 : List (List Int)) (a1 : Int) : Option (List Int × Int) := (gf_level.f l0_0 a0_1 l0_2 a0_3 a0_4 l0_5 a1).bind fun t179 => (if 0 ≤ t179 then (if t179 < (l0_5.length : Int) then ((sl_Clone_int.f (rd_L3 l0_5 t179)).bind fun t181 => (if t179 < 40 then ((gf_out.f l0_0 a0_1 l0_2 a0_3 a0_4 l0_5 t179).bind fun t184 => (if 0 ≤ (wrap64 (t179 + 1)) then (if (wrap64 (t179 + 1)) < (l0_5.length : Int) then (gf_shares.l0 k a1 t181 (wrap64 (a1 - t184)) (rd_L3 l0_5 (wrap64 (t179 + 1))) ((rd_L3 l0_5 (wrap64 (t179 + 1))).length : Int) 0) else (none)) else (none))) else ((ca_sum.f k t181).bind fun t191 => (some (t181,wrap64 (a1 - t191)))))) else (none)) else (none))
theorem gf_shares.calls (k : Nat) (A0_0 : Option Addr) (c0_0 : Nat) (l0_0 : List (S126)) (a0_1 : Int) (A0_2 : Option Addr) (c0_2 : Nat) (l0_2 : List (S48)) (a0_3 : Int) (a0_4 : Int) (A0_5 : Option Addr) (c0_5 : Nat) (l0_5 : List (List Int)) (a1 : Int) (r1 : List Int) (r2 : Int) (w : World) (hr0_0 : Kd.C k126 w A0_0 l0_0.length l0_0) (hc0_0 : l0_0.length ≤ c0_0) (hr0_2 : Kd.C k48 w A0_2 l0_2.length l0_2) (hc0_2 : l0_2.length ≤ c0_2) (hr0_5 : Kd.C (Kd.slice 3 (Kd.int .i64)) w A0_5 l0_5.length l0_5) (hc0_5 : l0_5.length ≤ c0_5) (h : gf_shares.f k l0_0 a0_1 l0_2 a0_3 a0_4 l0_5 a1 = some (r1,r2)) :
 Calls Tryz.prog 71 #[.agg #[.slice A0_0 l0_0.length c0_0,.int .i64 a0_1,.slice A0_2 l0_2.length c0_2,.int .i64 a0_3,.int .i64 a0_4,.slice A0_5 l0_5.length c0_5],.int .i64 a1] w fun e w' => ∃ v0_ : Value,e = .returned (.tuple #[v0_,.int .i64 r2]) ∧ Kd.R (Kd.int .i64) 3 w' w.heap.size (fun _ => True) v0_ r1 ∧ Below w.heap.size w w' := by
 have hu110 := Tryz.underlying110
 have HR0_0 := am hr0_0
 have HC0_0 := am hc0_0
 clear hr0_0 hc0_0
 have HR0_2 := am hr0_2
 have HC0_2 := am hc0_2
 clear hr0_2 hc0_2
 have HR0_5 := am hr0_5
 have HC0_5 := am hc0_5
 clear hr0_5 hc0_5
 have HB := am (Below.refl w.heap.size w)
 have H : ((gf_level.f l0_0 a0_1 l0_2 a0_3 a0_4 l0_5 a1).bind fun t179 => (if 0 ≤ t179 then (if t179 < (l0_5.length : Int) then ((sl_Clone_int.f (rd_L3 l0_5 t179)).bind fun t181 => (if t179 < 40 then ((gf_out.f l0_0 a0_1 l0_2 a0_3 a0_4 l0_5 t179).bind fun t184 => (if 0 ≤ (wrap64 (t179 + 1)) then (if (wrap64 (t179 + 1)) < (l0_5.length : Int) then (gf_shares.l0 k a1 t181 (wrap64 (a1 - t184)) (rd_L3 l0_5 (wrap64 (t179 + 1))) ((rd_L3 l0_5 (wrap64 (t179 + 1))).length : Int) 0) else (none)) else (none))) else ((ca_sum.f k t181).bind fun t191 => (some (t181,wrap64 (a1 - t191)))))) else (none)) else (none))) = some (r1,r2) := h
 clear h
 replace H := obm H
 obtain ⟨t179,A30,H⟩ := H
 replace H : (if 0 ≤ t179 then (if t179 < (l0_5.length : Int) then ((sl_Clone_int.f (rd_L3 l0_5 t179)).bind fun t181 => (if t179 < 40 then ((gf_out.f l0_0 a0_1 l0_2 a0_3 a0_4 l0_5 t179).bind fun t184 => (if 0 ≤ (wrap64 (t179 + 1)) then (if (wrap64 (t179 + 1)) < (l0_5.length : Int) then (gf_shares.l0 k a1 t181 (wrap64 (a1 - t184)) (rd_L3 l0_5 (wrap64 (t179 + 1))) ((rd_L3 l0_5 (wrap64 (t179 + 1))).length : Int) 0) else (none)) else (none))) else ((ca_sum.f k t181).bind fun t191 => (some (t181,wrap64 (a1 - t191)))))) else (none)) else (none)) = some (r1,r2) := H
 have A3 := am A30
 clear A30
 by_cases c4 : 0 ≤ t179
 case neg =>
  rw [if_neg c4] at H
  exact absurd H (by simp)
 rw [if_pos c4] at H
 have c4b0 : decide (0 ≤ t179) = true := decide_eq_true c4
 clear c4
 by_cases c5 : t179 < (l0_5.length : Int)
 case neg =>
  rw [if_neg c5] at H
  exact absurd H (by simp)
 rw [if_pos c5] at H
 have c5b0 : decide (t179 < (l0_5.length : Int)) = true := decide_eq_true c5
 clear c5
 replace H := obm H
 obtain ⟨t181,A60,H⟩ := H
 replace H : (if t179 < 40 then ((gf_out.f l0_0 a0_1 l0_2 a0_3 a0_4 l0_5 t179).bind fun t184 => (if 0 ≤ (wrap64 (t179 + 1)) then (if (wrap64 (t179 + 1)) < (l0_5.length : Int) then (gf_shares.l0 k a1 t181 (wrap64 (a1 - t184)) (rd_L3 l0_5 (wrap64 (t179 + 1))) ((rd_L3 l0_5 (wrap64 (t179 + 1))).length : Int) 0) else (none)) else (none))) else ((ca_sum.f k t181).bind fun t191 => (some (t181,wrap64 (a1 - t191))))) = some (r1,r2) := H
 have A6 := am A60
 clear A60
 by_cases c7 : t179 < 40
 case neg =>
  rw [if_neg c7] at H
  have c7b0 : decide (t179 < 40) = false := decide_eq_false c7
  clear c7
  replace H := obm H
  obtain ⟨t191,A310,H⟩ := H
  replace H : (some (t181,wrap64 (a1 - t191))) = some (r1,r2) := H
  have A31 := am A310
  clear A310
  simp only [Option.some.injEq,Prod.mk.injEq] at H
  obtain ⟨rfl,rfl⟩ := H
  go_enter Tryz.func71,Tryz.ntmps71
  go_wp2_with (first | ((refine gate_dst (N := 2) rfl ?_);refine box_event rfl (N := 2) rfl (cs := #[.slice A0_0 l0_0.length c0_0,.int .i64 a0_1,.slice A0_2 l0_2.length c0_2,.int .i64 a0_3,.int .i64 a0_4,.slice A0_5 l0_5.length c0_5]) (t := 110) ?hr ?_;(case hr => go_simp;try rfl);intro gb178 hg w32 hbox hb;have BK178 := am (hbox);have GW178 := am (ge_new (HB.out) hg);have GE178 := am (ge_new (HB.out) hg);replace HB := am (below_step (HB.out) hb);clear hb hbox hg;obtain ⟨hcz33_0,hcz33_1,hcz33_2,hcz33_3,hcz33_4,hcz33_5⟩ := cO6 BK178.out) | ((with_reducible refine gate_callee (f := 85) rfl ?_);refine goesL_ (some 14) rfl rfl Tryz.func85 (by kernel_rfl) rfl #[.agg #[.slice A0_0 l0_0.length c0_0,.int .i64 a0_1,.slice A0_2 l0_2.length c0_2,.int .i64 a0_3,.int .i64 a0_4,.slice A0_5 l0_5.length c0_5],.int .i64 a1] rfl (by (try simp only [List.map_toArray,List.map_cons,List.map_nil]);first | done | rfl | (simp only [List.length_drop,List.length_take];rfl)) ?_;(refine (gf_level.calls _ _ l0_0 a0_1 _ _ l0_2 a0_3 a0_4 _ _ l0_5 a1 t179 _ ?side1 ?side2 ?side3 ?side4 ?side5 ?side6 A3.out).mono ?_);(case side1 => exact kC HR0_0.out HB.out);(case side2 => exact HC0_0.out);(case side3 => exact kC HR0_2.out HB.out);(case side4 => exact HC0_2.out);(case side5 => exact kC HR0_5.out HB.out);(case side6 => exact HC0_5.out);rintro e w34 ⟨rfl,hb⟩;refine ⟨_,rfl,?_⟩;replace BK178 := (kmv hb BK178);replace HB := am (below_step (HB.out) hb);(try clear hb);(try clear hb2);(try clear hk);(try clear hi);obtain ⟨hcz35_0,hcz35_1,hcz35_2,hcz35_3,hcz35_4,hcz35_5⟩ := cO6 BK178.out;have p180 : 0 ≤ (t179 : Int) := of_decide_eq_true (by assumption);have q180 : t179 < (l0_5.length : Int) := of_decide_eq_true (by assumption);obtain ⟨ad180,A180_0,c180_0,e180,hx180_0,hl180_0,hi180_0⟩ := at_L3 HR0_5.out t179 p180 q180;cases e180;replace hx180_0 := (HB.out.cell (wbl hx180_0)).trans hx180_0;have HR180_0 := am hi180_0;have HC180_0 := am hl180_0;clear hi180_0 hl180_0;replace p180 := eq_true p180;replace q180 := eq_true q180) | ((with_reducible refine gate_callee (f := 108) rfl ?_);refine goesL_ (some 20) rfl rfl Tryz.func108 (by kernel_rfl) rfl #[.slice A180_0 (rd_L3 l0_5 t179).length c180_0] rfl (by (try simp only [List.map_toArray,List.map_cons,List.map_nil]);first | done | rfl | (simp only [List.length_drop,List.length_take];rfl)) ?_;(refine (sl_Clone_int.calls _ _ (rd_L3 l0_5 t179) t181 _ ?side1 ?side2 A6.out).mono ?_);(case side1 => exact kC HR180_0.out HB.out);(case side2 => exact HC180_0.out);rintro e w36 ⟨v182,rfl,ho0,hb⟩;refine ⟨_,rfl,?_⟩;have HO183 := am (Kd.R_lower ho0 (below_size (HB.out)));replace BK178 := (kmv hb BK178);replace HB := am (below_step (HB.out) hb);(try clear hb);(try clear hb2);(try clear hk);(try clear hi);(try clear ho0);obtain ⟨Ao37,co37,eo37⟩ := Kd.R_slice HO183.out;subst eo37) | ((with_reducible refine gate_callee (f := 110) rfl ?_);refine goesL_ (some 62) rfl rfl Tryz.func110 (by kernel_rfl) rfl #[.slice Ao37 t181.length co37] rfl (by (try simp only [List.map_toArray,List.map_cons,List.map_nil]);first | done | rfl | (simp only [List.length_drop,List.length_take];rfl)) ?_;(refine (ca_sum.calls k _ _ t181 t191 _ ?side1 ?side2 A31.out).mono ?_);(case side1 => repeat (first | exact (Kd.R_reads' HO183.out).2.2 | (with_reducible refine Kd.C_alloc ?_ _) | (with_reducible refine Kd.C_drewN ?_ _) | (with_reducible refine Kd.C_drew ?_)));(case side2 => exact (Kd.R_reads' HO183.out).2.1);rintro e w' ⟨rfl,⟨nd,rfl⟩⟩;refine ⟨_,rfl,?_⟩))
  go_ret2
  exact ⟨_,by first | rfl | (simp [*] <;> rfl),by (with_reducible repeat (first | apply Kd.R_alloc | apply Kd.R_drewN | apply Kd.R_drew));exact HO183.out,pw_below_drewN HB.out _⟩
 rw [if_pos c7] at H
 have c7b0 : decide (t179 < 40) = true := decide_eq_true c7
 clear c7
 replace H := obm H
 obtain ⟨t184,A80,H⟩ := H
 replace H : (if 0 ≤ (wrap64 (t179 + 1)) then (if (wrap64 (t179 + 1)) < (l0_5.length : Int) then (gf_shares.l0 k a1 t181 (wrap64 (a1 - t184)) (rd_L3 l0_5 (wrap64 (t179 + 1))) ((rd_L3 l0_5 (wrap64 (t179 + 1))).length : Int) 0) else (none)) else (none)) = some (r1,r2) := H
 have A8 := am A80
 clear A80
 obtain ⟨ji9,hji9⟩ : ∃ j_ : Int,(wrap64 (t179 + 1)) = j_ := ⟨_,rfl⟩
 replace H : (if 0 ≤ (ji9) then (if (ji9) < (l0_5.length : Int) then (gf_shares.l0 k a1 t181 (wrap64 (a1 - t184)) (rd_L3 l0_5 (ji9)) ((rd_L3 l0_5 (ji9)).length : Int) 0) else (none)) else (none)) = some (r1,r2) := by first | (rw [hji9] at H;exact H) | (simp only [hji9] at H ⊢;exact H)
 (try rw [hji9] at A3)
 (try rw [hji9] at A6)
 (try rw [hji9] at A8)
 have hji9w : (IntKind.i64.wrap (t179 + 1)) = ji9 := (i64_w _).trans hji9
 by_cases c10 : 0 ≤ (ji9)
 case neg =>
  rw [if_neg c10] at H
  exact absurd H (by simp)
 rw [if_pos c10] at H
 have c10b0 : decide (0 ≤ (ji9)) = true := decide_eq_true c10
 clear c10
 by_cases c11 : (ji9) < (l0_5.length : Int)
 case neg =>
  rw [if_neg c11] at H
  exact absurd H (by simp)
 rw [if_pos c11] at H
 have c11b0 : decide ((ji9) < (l0_5.length : Int)) = true := decide_eq_true c11
 clear c11
 replace H' := am H
 go_enter Tryz.func71,Tryz.ntmps71
 go_wp2_with (first | ((refine gate_dst (N := 2) rfl ?_);refine box_event rfl (N := 2) rfl (cs := #[.slice A0_0 l0_0.length c0_0,.int .i64 a0_1,.slice A0_2 l0_2.length c0_2,.int .i64 a0_3,.int .i64 a0_4,.slice A0_5 l0_5.length c0_5]) (t := 110) ?hr ?_;(case hr => go_simp;try rfl);intro gb178 hg w12 hbox hb;have BK178 := am (hbox);have GW178 := am (ge_new (HB.out) hg);have GE178 := am (ge_new (HB.out) hg);replace HB := am (below_step (HB.out) hb);clear hb hbox hg;obtain ⟨hcz13_0,hcz13_1,hcz13_2,hcz13_3,hcz13_4,hcz13_5⟩ := cO6 BK178.out) | ((with_reducible refine gate_callee (f := 85) rfl ?_);refine goesL_ (some 14) rfl rfl Tryz.func85 (by kernel_rfl) rfl #[.agg #[.slice A0_0 l0_0.length c0_0,.int .i64 a0_1,.slice A0_2 l0_2.length c0_2,.int .i64 a0_3,.int .i64 a0_4,.slice A0_5 l0_5.length c0_5],.int .i64 a1] rfl (by (try simp only [List.map_toArray,List.map_cons,List.map_nil]);first | done | rfl | (simp only [List.length_drop,List.length_take];rfl)) ?_;(refine (gf_level.calls _ _ l0_0 a0_1 _ _ l0_2 a0_3 a0_4 _ _ l0_5 a1 t179 _ ?side1 ?side2 ?side3 ?side4 ?side5 ?side6 A3.out).mono ?_);(case side1 => exact kC HR0_0.out HB.out);(case side2 => exact HC0_0.out);(case side3 => exact kC HR0_2.out HB.out);(case side4 => exact HC0_2.out);(case side5 => exact kC HR0_5.out HB.out);(case side6 => exact HC0_5.out);rintro e w14 ⟨rfl,hb⟩;refine ⟨_,rfl,?_⟩;replace BK178 := (kmv hb BK178);replace HB := am (below_step (HB.out) hb);(try clear hb);(try clear hb2);(try clear hk);(try clear hi);obtain ⟨hcz15_0,hcz15_1,hcz15_2,hcz15_3,hcz15_4,hcz15_5⟩ := cO6 BK178.out;have p180 : 0 ≤ (t179 : Int) := of_decide_eq_true (by assumption);have q180 : t179 < (l0_5.length : Int) := of_decide_eq_true (by assumption);obtain ⟨ad180,A180_0,c180_0,e180,hx180_0,hl180_0,hi180_0⟩ := at_L3 HR0_5.out t179 p180 q180;cases e180;replace hx180_0 := (HB.out.cell (wbl hx180_0)).trans hx180_0;have HR180_0 := am hi180_0;have HC180_0 := am hl180_0;clear hi180_0 hl180_0;replace p180 := eq_true p180;replace q180 := eq_true q180) | ((with_reducible refine gate_callee (f := 108) rfl ?_);refine goesL_ (some 20) rfl rfl Tryz.func108 (by kernel_rfl) rfl #[.slice A180_0 (rd_L3 l0_5 t179).length c180_0] rfl (by (try simp only [List.map_toArray,List.map_cons,List.map_nil]);first | done | rfl | (simp only [List.length_drop,List.length_take];rfl)) ?_;(refine (sl_Clone_int.calls _ _ (rd_L3 l0_5 t179) t181 _ ?side1 ?side2 A6.out).mono ?_);(case side1 => exact kC HR180_0.out HB.out);(case side2 => exact HC180_0.out);rintro e w16 ⟨v182,rfl,ho0,hb⟩;refine ⟨_,rfl,?_⟩;have HO183 := am (Kd.R_lower ho0 (below_size (HB.out)));replace BK178 := (kmv hb BK178);replace HB := am (below_step (HB.out) hb);(try clear hb);(try clear hb2);(try clear hk);(try clear hi);(try clear ho0);obtain ⟨hcz17_0,hcz17_1,hcz17_2,hcz17_3,hcz17_4,hcz17_5⟩ := cO6 BK178.out) | ((with_reducible refine gate_callee (f := 109) rfl ?_);refine goesL_ (some 26) rfl rfl Tryz.func109 (by kernel_rfl) rfl #[.agg #[.slice A0_0 l0_0.length c0_0,.int .i64 a0_1,.slice A0_2 l0_2.length c0_2,.int .i64 a0_3,.int .i64 a0_4,.slice (some ad180) l0_5.length c0_5],.int .i64 t179] rfl (by (try simp only [List.map_toArray,List.map_cons,List.map_nil]);first | done | rfl | (simp only [List.length_drop,List.length_take];rfl)) ?_;(refine (gf_out.calls _ _ l0_0 a0_1 _ _ l0_2 a0_3 a0_4 _ _ l0_5 t179 t184 _ ?side1 ?side2 ?side3 ?side4 ?side5 ?side6 A8.out).mono ?_);(case side1 => exact kC HR0_0.out HB.out);(case side2 => exact HC0_0.out);(case side3 => exact kC HR0_2.out HB.out);(case side4 => exact HC0_2.out);(case side5 => exact kC HR0_5.out HB.out);(case side6 => exact HC0_5.out);rintro e w18 ⟨rfl,hb⟩;refine ⟨_,rfl,?_⟩;replace HO183 := am (Kd.R_below HO183.out hb);replace BK178 := (kmv hb BK178);replace HB := am (below_step (HB.out) hb);(try clear hb);(try clear hb2);(try clear hk);(try clear hi);obtain ⟨hcz19_0,hcz19_1,hcz19_2,hcz19_3,hcz19_4,hcz19_5⟩ := cO6 BK178.out;have p185 : 0 ≤ ((ji9) : Int) := of_decide_eq_true (by assumption);have q185 : (ji9) < (l0_5.length : Int) := of_decide_eq_true (by assumption);obtain ⟨ad185,A185_0,c185_0,e185,hx185_0,hl185_0,hi185_0⟩ := at_L3 HR0_5.out (ji9) p185 q185;obtain rfl : ad180 = ad185 := (by injection e185);replace hx185_0 := (HB.out.cell (wbl hx185_0)).trans hx185_0;have HR185_0 := am hi185_0;have HC185_0 := am hl185_0;clear hi185_0 hl185_0;replace p185 := eq_true p185;replace q185 := eq_true q185))
 go_loopg [8,35] k (fun kq v8 v35 w' => ∃ (x7_1 : List Int) (x8_1 : Int) (x35_1 : Int),v8 = .int .i64 x8_1 ∧ v35 = .int .i64 x35_1 ∧ Aside0 (gf_shares.l0 kq a1 x7_1 x8_1 (rd_L3 l0_5 (ji9)) ((rd_L3 l0_5 (ji9)).length : Int) x35_1 = some (r1,r2)) ∧ Aside0 (kq ≤ k) ∧ Aside0 (Kd.R (Kd.int .i64) 3 w' w.heap.size (fun _ => True) v182 x7_1) ∧ Aside0 (w'.heap[gb178]? = some (.cells #[(.slice A0_0 l0_0.length c0_0),.int .i64 a0_1,(.slice A0_2 l0_2.length c0_2),.int .i64 a0_3,.int .i64 a0_4,(.slice (some ad180) l0_5.length c0_5)] 110 (0,0))) ∧ Aside0 (Below w.heap.size w w'))
 case atStart => exact ⟨(t181),(wrap64 (a1 - t184)),(0),(by first | rfl | (simp;done) | (simp [*];done)),(by first | rfl | (simp;done) | (simp [*];done)),H',⟨Nat.le_refl _⟩,⟨by (with_reducible repeat (first | apply Kd.R_alloc | apply Kd.R_drewN | apply Kd.R_drew));exact HO183.out⟩,⟨BK178.out⟩,⟨HB.out⟩⟩
 case round =>
  clear H'
  obtain ⟨x7_1,x8_1,x35_1,rfl,rfl,HA,HK1,HO_7,BK178,HB⟩ := hrel
  cases gk with
  | zero => exact absurd HA.out (by simp [gf_shares.l0])
  | succ k1 =>
   have H := HA.out
   clear HA
   simp only [gf_shares.l0] at H
   by_cases c20 : x35_1 < ((rd_L3 l0_5 (ji9)).length : Int)
   case neg =>
    rw [if_neg c20] at H
    have c20b0 : decide (x35_1 < ((rd_L3 l0_5 (ji9)).length : Int)) = false := decide_eq_false c20
    clear c20
    replace H := obm H
    obtain ⟨t190,A290,H⟩ := H
    replace H : (some (x7_1,wrap64 (a1 - t190))) = some (r1,r2) := H
    have A29 := am A290
    clear A290
    simp only [Option.some.injEq,Prod.mk.injEq] at H
    obtain ⟨rfl,rfl⟩ := H
    obtain ⟨Ao30,co30,eo30⟩ := Kd.R_slice HO_7.out
    subst eo30
    go_wp2_with (first | ((with_reducible refine gate_callee (f := 110) rfl ?_);refine goesL_ (some 62) rfl rfl Tryz.func110 (by kernel_rfl) rfl #[.slice Ao30 x7_1.length co30] rfl (by (try simp only [List.map_toArray,List.map_cons,List.map_nil]);first | done | rfl | (simp only [List.length_drop,List.length_take];rfl)) ?_;(refine (ca_sum.calls k1 _ _ x7_1 t190 _ ?side1 ?side2 A29.out).mono ?_);(case side1 => repeat (first | exact (Kd.R_reads' HO_7.out).2.2 | (with_reducible refine Kd.C_alloc ?_ _) | (with_reducible refine Kd.C_drewN ?_ _) | (with_reducible refine Kd.C_drew ?_)));(case side2 => exact (Kd.R_reads' HO_7.out).2.1);rintro e w' ⟨rfl,⟨nd,rfl⟩⟩;refine ⟨_,rfl,?_⟩))
    go_ret2
    exact ⟨_,by first | rfl | (simp [errW_none,errW_some] <;> rfl) | (simp only [← hji9];first | rfl | (simp [errW_none,errW_some] <;> rfl)) | (simp [*,errW_none,errW_some] <;> rfl),by (with_reducible repeat (first | apply Kd.R_alloc | apply Kd.R_drewN | apply Kd.R_drew));exact HO_7.out,pw_below_drewN HB.out _⟩
   rw [if_pos c20] at H
   have c20b0 : decide (x35_1 < ((rd_L3 l0_5 (ji9)).length : Int)) = true := decide_eq_true c20
   clear c20
   by_cases c21 : 0 ≤ x35_1
   case neg =>
    rw [if_neg c21] at H
    exact absurd H (by simp)
   rw [if_pos c21] at H
   have c21b0 : decide (0 ≤ x35_1) = true := decide_eq_true c21
   clear c21
   by_cases c22 : x35_1 < ((rd_L3 l0_5 (ji9)).length : Int)
   case neg =>
    rw [if_neg c22] at H
    exact absurd H (by simp)
   rw [if_pos c22] at H
   have c22b0 : decide (x35_1 < ((rd_L3 l0_5 (ji9)).length : Int)) = true := decide_eq_true c22
   clear c22
   by_cases c23 : x35_1 < (x7_1.length : Int)
   case neg =>
    rw [if_neg c23] at H
    exact absurd H (by simp)
   rw [if_pos c23] at H
   have c23b0 : decide (x35_1 < (x7_1.length : Int)) = true := decide_eq_true c23
   clear c23
   obtain ⟨ji24,hji24⟩ : ∃ j_ : Int,(mn x8_1 (wrap64 ((rd (rd_L3 l0_5 (ji9)) x35_1) - (rd x7_1 x35_1)))) = j_ := ⟨_,rfl⟩
   replace H : (gf_shares.l0 k1 a1 (x7_1.set (x35_1 : Int).toNat (wrap64 ((rd x7_1 x35_1) + (ji24)))) (wrap64 (x8_1 - (ji24))) (rd_L3 l0_5 (ji9)) ((rd_L3 l0_5 (ji9)).length : Int) (wrap64 (x35_1 + 1))) = some (r1,r2) := by first | (rw [hji24] at H;exact H) | (simp only [hji24] at H ⊢;exact H)
   have hji24_ : (if (wrap64 ((rd (rd_L3 l0_5 (ji9)) x35_1) - (rd x7_1 x35_1))) < x8_1 then (wrap64 ((rd (rd_L3 l0_5 (ji9)) x35_1) - (rd x7_1 x35_1))) else x8_1) = ji24 := hji24
   obtain ⟨y189,hy189⟩ : ∃ y_ : List Int,y_ = (x7_1.set (x35_1 : Int).toNat (wrap64 ((rd x7_1 x35_1) + (ji24)))) := ⟨_,rfl⟩
   replace H : (gf_shares.l0 k1 a1 y189 (wrap64 (x8_1 - (ji24))) (rd_L3 l0_5 (ji9)) ((rd_L3 l0_5 (ji9)).length : Int) (wrap64 (x35_1 + 1))) = some (r1,r2) := by first | (rw [hy189];with_reducible exact H) | (have H2_ := (Option.bind_some _ _).symm.trans H;rw [hy189];with_reducible exact H2_) | (have H2_ := (Option.bind_some _ _).symm.trans H;with_reducible exact H2_) | with_reducible exact H | (rw [hy189];exact H) | exact H
   have Ny189 := am hy189
   clear hy189
   replace H' := am H
   have p186 : 0 ≤ (x35_1 : Int) := of_decide_eq_true (by assumption)
   have q186 : x35_1 < ((rd_L3 l0_5 (ji9)).length : Int) := of_decide_eq_true (by assumption)
   obtain ⟨ad186,e186,hx186_0⟩ := Kd.at_int HR185_0.out x35_1 p186 q186
   cases e186
   replace hx186_0 := (HB.out.cell (wbl hx186_0)).trans hx186_0
   replace p186 := eq_true p186
   replace q186 := eq_true q186
   obtain ⟨Ao26,co26,eo26⟩ := Kd.R_slice HO_7.out
   subst eo26
   have p187 : 0 ≤ (x35_1 : Int) := of_decide_eq_true (by assumption)
   have q187 : x35_1 < (x7_1.length : Int) := of_decide_eq_true (by assumption)
   obtain ⟨ad187,e187,hx187_0⟩ := Kd.at_int (Kd.R_reads' HO_7.out).2.2 x35_1 p187 q187
   cases e187
   replace p187 := eq_true p187
   replace q187 := eq_true q187
   have p188 : 0 ≤ (x35_1 : Int) := of_decide_eq_true (by assumption)
   have q188 : x35_1 < (x7_1.length : Int) := of_decide_eq_true (by assumption)
   obtain ⟨ad188,e188,hx188_0⟩ := Kd.at_int (Kd.R_reads' HO_7.out).2.2 x35_1 p188 q188
   obtain rfl : ad187 = ad188 := (by injection e188)
   replace p188 := eq_true p188
   replace q188 := eq_true q188
   have p25 : 0 ≤ (x35_1 : Int) := of_decide_eq_true (by assumption)
   have q25 : (x35_1 : Int) < ((x7_1.length : Int) : Int) := of_decide_eq_true (by assumption)
   obtain ⟨go25,co25,eo25,gb25,gl25,cl25,HG25⟩ := Kd.R_form HO_7.out (by omega)
   (first | cases eo25 | (injection eo25 with ea_ en_ ec_;(first | subst ea_ | (injection ea_ with ea_;subst ea_));subst ec_;clear en_))
   have GB25 := am gb25
   have GG25 := am HG25
   clear gb25 gl25 HG25
   (first | simp only [add_plain] at hx187_0 | skip)
   (first | simp only [add_plain] at hx188_0 | skip)
   obtain ⟨hx25_0,hf25_0⟩ := Kd.R_celln 0 HO_7.out (x35_1 : Int) p25 q25
   replace p25 := eq_true p25
   replace q25 := eq_true q25
   have HP27 := Kd.R_putg HO_7.out (x35_1 : Int) (wrap64 ((rd x7_1 x35_1) + (ji24)))
   go_wp2_with (first | ((with_reducible refine gate_store (t := 3) (p := 54) rfl ?_);refine store_event (t := 3) (p := 54) (v := ?vo_w28) (w1 := (wr.setCell ⟨go25,(x35_1 : Int).toNat,none⟩ (.int .i64 (wrap64 ((rd x7_1 x35_1) + (ji24)))))) ?hg ?ho ?hn ?hr ?_;(case ho => rfl);(case hg => rfl);(case hn => rfl);(case hr => go_simp;try rfl);intro w28 hw;have hg : wr.grownBy w28 (some go25) := (by rw [hw];exact HP27.2);have hp_ : Kd.R (Kd.int .i64) 3 w28 w.heap.size (fun _ => True) (.slice (some ⟨go25,0,none⟩) x7_1.length co26) y189 := (by rw [hw,Ny189.out];exact HP27.1);clear HP27;have n0_ := am (hp_);have n1_ := am (blk_grown (g := gb178) (o := .cells #[.slice A0_0 l0_0.length c0_0,.int .i64 a0_1,.slice A0_2 l0_2.length c0_2,.int .i64 a0_3,.int .i64 a0_4,.slice (some ad180) l0_5.length c0_5] 110 (0,0)) BK178.out hg (Kd.R_ne HO_7.out BK178.out (by decide)));have n2_ := am ((by rw [hw];exact below_set (HB.out) GB25.out : Below w.heap.size w w28));clear HO_7;clear BK178;clear HB;have HO_7 := n0_;have BK178 := n1_;have HB := n2_;clear n0_ n1_ n2_;clear hg hw hp_))
   go_roundg k1
   case measure => have := HK1.out;omega
   case rel => exact ⟨(y189),(wrap64 (x8_1 - (ji24))),(wrap64 (x35_1 + 1)),(by first | rfl | (simp;done) | (simp only [← hji24] <;> (first | rfl | simp)) | (simp [*];done)),(by first | rfl | (simp;done) | (simp [*];done)),H',⟨by have := HK1.out;omega⟩,⟨by (with_reducible repeat (first | apply Kd.R_alloc | apply Kd.R_drewN | apply Kd.R_drew));exact HO_7.out⟩,⟨BK178.out⟩,⟨HB.out⟩⟩
end
def flowIn (l1 : List S66) (i cups : Int) (xs : List (List Int)) (ys : List Int) : Option Int :=
 if 0 < i then (if i - 1 < (l1.length : Int) then (if 0 ≤ (rd_T66 l1 (i - 1)).f0 then (if (rd_T66 l1 (i - 1)).f0 < (ys.length : Int) then (if 0 ≤ (rd_T66 l1 (i - 1)).f1 then (if (rd_T66 l1 (i - 1)).f0 < (xs.length : Int) then (if (rd_T66 l1 (i - 1)).f1 < ((rd_L3 xs (rd_T66 l1 (i - 1)).f0).length : Int) then some (rd (rd_L3 xs (rd_T66 l1 (i - 1)).f0) (rd_T66 l1 (i - 1)).f1) else none) else none) else some (rd ys (rd_T66 l1 (i - 1)).f0)) else none) else none) else none) else some cups
def flowGo (k : Nat) (l1 : List S66) : List S110 → Int → Int → List (List Int) → List Int → Option (List (List Int) × List Int)
 | [],_,_,xs,ys => some (xs,ys)
 | x :: rest,i,cups,xs,ys => (flowIn l1 i cups xs ys).bind fun c => (gf_shares.f k x.f0.f0.f0 x.f0.f0.f1 x.f0.f1 x.f0.f2 x.f0.f3 x.f1 c).bind fun t => if xs.length < 5864062014805 then (if ys.length < 17592186044416 then flowGo k l1 rest (i + 1) c (xs ++ [t.1]) (ys ++ [t.2]) else none) else none
def ca_flow.f (k : Nat) (l0 : List S110) (l1 : List S66) (a2 : Int) : Option (List (List Int) × List Int) := flowGo k l1 l0 0 a2 [] []
theorem infoInts : (Tryz.prog.info? 28).map (fun i => (i.zero,i.size,i.bytes)) = some (some (.slice none 0 0),1,24) := by kernel_rfl
theorem infoInt : (Tryz.prog.info? 3).map (fun i => (i.zero,i.size,i.bytes)) = some (some (.int .i64 0),1,8) := by kernel_rfl
theorem N_after9 {d : Kd (List Int)} {e base B : Nat} {W w1 : World} {u v v1 : Value} {xs : List (List Int)} (h : Kd.N d e W base (fun k => B ≤ k ∧ some k ≠ v.ownBlock) u xs) (hg : W.grownBy w1 v.ownBlock) (hat : v1.ownBlock = v.ownBlock ∨ ∃ b,v1.ownBlock = some b ∧ W.heap.size ≤ b) : Kd.N d e w1 base (fun k => B ≤ k ∧ some k ≠ v1.ownBlock) u xs :=
 Kd.N_afterv (ok := fun k => B ≤ k) h hg hat
theorem rowFK {wc : World} {n : Nat} {A5 : Option Addr} {c5 : Nat} {l : List Int} (hr : (Kd.int .i64).R 3 wc n (fun _ => True) (.slice A5 l.length c5) l) :
 Kd.FK (Kd.slice 3 (Kd.int .i64)) wc (fun k => n ≤ k) l [.slice A5 l.length c5] := fun W' hW => ⟨A5,c5,rfl,(Kd.R_reads' hr).2.1,Kd.R_F (Kd.R_mono (Kd.R_bound hr) (fun _ hk => hk.2.1)) W' hW⟩
theorem ca_flow.calls (k : Nat) (A0 : Option Addr) (c0 : Nat) (l0 : List S110) (A1 : Option Addr) (c1 : Nat) (l1 : List S66) (a2 : Int) (r1 : List (List Int)) (r2 : List Int) (w : World) (hr0 : Kd.C k110 w A0 l0.length l0) (hr1 : Kd.C k66 w A1 l1.length l1) (h : ca_flow.f k l0 l1 a2 = some (r1,r2)) :
 Calls Tryz.prog 81 #[.slice A0 l0.length c0,.slice A1 l1.length c1,.int .i64 a2] w fun e w' => ∃ v0_ v1_ : Value,e = .returned (.tuple #[v0_,v1_]) ∧ Kd.N (Kd.slice 3 (Kd.int .i64)) 28 w' w.heap.size (fun k_ => w.heap.size ≤ k_ ∧ some k_ ≠ (v1_ : Value).ownBlock) v0_ r1 ∧ Kd.R (Kd.int .i64) 3 w' w.heap.size (fun _ => True) v1_ r2 ∧ Below w.heap.size w w' := by
 have huf := Tryz.underlying110
 have huF := Tryz.underlying66
 have HM := am (Kd.C_max hr0)
 have HR0 := am hr0
 have HR1 := am hr1
 have HB := am (Below.refl w.heap.size w)
 have HQ := am h
 clear hr0 hr1 h
 go_enter Tryz.func81,Tryz.ntmps81
 go_wp2
 go_loopw [2,8,9,17] (fun v2 v8 v9 v17 w' => ∃ (cups i : Int) (xs : List (List Int)) (ys : List Int),0 ≤ i ∧ i ≤ l0.length ∧ v2 = .int .i64 cups ∧ v17 = .int .i64 i ∧ Aside0 (flowGo k l1 (l0.drop i.toNat) i cups xs ys = some (r1,r2)) ∧ Aside0 (Kd.N (Kd.slice 3 (Kd.int .i64)) 28 w' w.heap.size (fun k_ => w.heap.size ≤ k_ ∧ some k_ ≠ (v9 : Value).ownBlock) v8 xs) ∧ Aside0 (Kd.R (Kd.int .i64) 3 w' w.heap.size (fun _ => True) v9 ys) ∧ Aside0 (Below w.heap.size w w')) (fun _ _ _ v17 _ => l0.length - (intOf v17).toNat)
 case atStart => exact ⟨a2,0,[],[],by omega,by omega,rfl,rfl,HQ,⟨Kd.N_nil _ _ _ _ _⟩,⟨Kd.R_nil _ _ _ _ _⟩,HB⟩
 case round =>
  clear HQ HB
  obtain ⟨cups,i,xs,ys,p1,hi,rfl,rfl,HQ,HS,HO,HB⟩ := hrel
  have HW9 := am HB.out.size
  have hm := HM.out
  by_cases hlt : i < (l0.length : Int)
  case neg =>
   go_wp2
   go_ret2
   have hq := HQ.out
   rw [List.drop_of_length_le (by omega)] at hq
   simp only [flowGo,Option.some.injEq,Prod.mk.injEq] at hq
   obtain ⟨rfl,rfl⟩ := hq
   exact ⟨_,_,rfl,HS.out,HO.out,HB.out⟩
  obtain ⟨ad,A0_,c0_,A2,c2,A5,c5,e1,hx0,hx1,hx2,hx3,hx4,hx5,hl0,hi0,hl2,hi2,hl5,hi5⟩ := at_T110 HR0.out i p1 hlt
  cases e1
  replace hx0 := (HB.out.cell (wbl hx0)).trans hx0
  replace hx1 := (HB.out.cell (wbl hx1)).trans hx1
  replace hx2 := (HB.out.cell (wbl hx2)).trans hx2
  replace hx3 := (HB.out.cell (wbl hx3)).trans hx3
  replace hx4 := (HB.out.cell (wbl hx4)).trans hx4
  replace hx5 := (HB.out.cell (wbl hx5)).trans hx5
  have hq := HQ.out
  rw [drop_at z110 l0 i p1 hlt,show l0.getD i.toNat z110 = rd_T110 l0 i from rfl] at hq
  simp only [flowGo] at hq
  generalize rd_T110 l0 i = x at *
  obtain ⟨c,hc,hq⟩ := obm hq
  obtain ⟨⟨t1,t2⟩,ht,hq⟩ := obm hq
  have HT := am ht
  clear ht HQ
  dsimp only at hq
  by_cases hn1 : xs.length < 5864062014805
  case neg => rw [if_neg hn1] at hq;cases hq
  rw [if_pos hn1] at hq
  by_cases hn2 : ys.length < 17592186044416
  case neg => rw [if_neg hn2] at hq;cases hq
  rw [if_pos hn2] at hq
  have HQ := am hq
  have HL1 := am hn1
  have HL2 := am hn2
  clear hq hn1 hn2
  have HI0 := am hi0
  have HI2 := am hi2
  have HI5 := am hi5
  have HL0_ := am hl0
  have HL2_ := am hl2
  have HL5_ := am hl5
  clear hi0 hi2 hi5 hl0 hl2 hl5
  obtain ⟨A8,c8,e8⟩ := Kd.N_slice HS.out
  subst e8
  obtain ⟨A9,c9,e9⟩ := Kd.R_slice HO.out
  subst e9
  unfold flowIn at hc
  by_cases hz0 : 0 < i
  case neg =>
   rw [if_neg hz0] at hc
   have hd0 : decide (0 < i) = false := decide_eq_false hz0
   obtain rfl := Option.some.inj hc
   clear hc
   go_wp2_with (first | ((refine gate_dst (N := 11) rfl ?_);refine box_event rfl (N := 11) rfl (cs := #[.slice none 0 0,.int .i64 0,.slice none 0 0,.int .i64 0,.int .i64 0,.slice none 0 0]) (t := 110) ?hr ?_;(case hr => go_simp;try rfl);intro ga hg w2 hbox hb;have GA := am (show w.heap.size ≤ ga by have := HB.out.size;omega);have GA2 := am (Nat.le_of_eq hg.symm);have NB := am hb;have n3 := (bmv HB hb);have BKga := am hbox;clear hg hb hbox HB;have HB := n3;clear n3;have hczga_0 := cO1 BKga.out;have hfzga_0 := blk_frozen BKga.out 0;have hczga_1 : w2.cell? ⟨ga,1,none⟩ = some (.int .i64 0) := (blk_cell BKga.out 1).trans rfl;have hfzga_1 := blk_frozen BKga.out 1;have hczga_2 : w2.cell? ⟨ga,2,none⟩ = some (.slice none 0 0) := (blk_cell BKga.out 2).trans rfl;have hfzga_2 := blk_frozen BKga.out 2;have hczga_3 : w2.cell? ⟨ga,3,none⟩ = some (.int .i64 0) := (blk_cell BKga.out 3).trans rfl;have hfzga_3 := blk_frozen BKga.out 3;have hczga_4 : w2.cell? ⟨ga,4,none⟩ = some (.int .i64 0) := (blk_cell BKga.out 4).trans rfl;have hfzga_4 := blk_frozen BKga.out 4;have hczga_5 : w2.cell? ⟨ga,5,none⟩ = some (.slice none 0 0) := (blk_cell BKga.out 5).trans rfl;have hfzga_5 := blk_frozen BKga.out 5) | ((with_reducible refine gate_store (t := 110) (p := 11) rfl ?_);refine skip_abs (fun W' => W'.heap[ga]? = some (.cells #[.slice A0_ x.f0.f0.f0.length c0_,.int .i64 x.f0.f0.f1,.slice A2 x.f0.f1.length c2,.int .i64 x.f0.f2,.int .i64 x.f0.f3,.slice A5 x.f1.length c5] 110 (0,0)) ∧ Below wr.heap.size wr W' ∧ Below w.heap.size w W') ?hg ?hd ?hr ⟨(blk_set (blk_set (blk_set (blk_set (blk_set (blk_set BKga.out 0 _) 1 _) 2 _) 3 _) 4 _) 5 _).trans rfl,(below_set (below_set (below_set (below_set (below_set (below_set NB.out GA2.out) GA2.out) GA2.out) GA2.out) GA2.out) GA2.out),(below_set (below_set (below_set (below_set (below_set (below_set HB.out GA.out) GA.out) GA.out) GA.out) GA.out) GA.out)⟩ ?_;(case hg => rfl);(case hd => rfl);(case hr => go_simp;try rfl);rintro w4 ⟨k1,k2,k3⟩;(try clear hczga_0 hczga_1 hczga_2 hczga_3 hczga_4 hczga_5);(try clear hfzga_0 hfzga_1 hfzga_2 hfzga_3 hfzga_4 hfzga_5);clear BKga NB HB;have BKga := am k1;have NB := am k2;have HB := am k3;clear k1 k2 k3;obtain ⟨hczga_0,hczga_1,hczga_2,hczga_3,hczga_4,hczga_5⟩ := cO6 BKga.out) | (go_at_call 71;(refine (gf_shares.calls k A0_ c0_ x.f0.f0.f0 x.f0.f0.f1 A2 c2 x.f0.f1 x.f0.f2 x.f0.f3 A5 c5 x.f1 cups t1 t2 _ (kC HI0.out HB.out) HL0_.out (kC HI2.out HB.out) HL2_.out (kC HI5.out HB.out) HL5_.out HT.out).mono ?_);rintro e wc ⟨v0_,rfl,hr,hb⟩;have n1 := (bmv HB hb);have n2 := am (below_then NB.out NB.out.size hb);have HV := am (Kd.R_lower hr NB.out.size);(try clear hczga_0 hczga_1 hczga_2 hczga_3 hczga_4 hczga_5);(try clear hfzga_0 hfzga_1 hfzga_2 hfzga_3 hfzga_4 hfzga_5);(try clear hczgb_0 hczgb_1);(try clear hfzgb_0 hfzgb_1);(try clear hy);(try clear hz);(try clear hz2);(try clear BKgb);clear HB NB hb hr BKga;have HB := n1;have NB := n2;clear n1 n2;obtain ⟨A6,c6,e6⟩ := Kd.R_slice HV.out;subst e6;have HS2 := am (Kd.N_below HS.out NB.out);have HO2 := am (Kd.R_below HO.out NB.out);have HLT := am (show ∀ k,(.slice A8 xs.length c8 : Value).ownBlock = some k ∨ (.slice A9 ys.length c9 : Value).ownBlock = some k → k < wr.heap.size from fun k hk => hk.elim (Kd.N_lt HS.out k) (Kd.R_lt HO.out k))) | ((with_reducible refine gate_builtin (b := .append) (xs := #[.tmp 52,.tmp 54]) rfl ?_);at_builtin;refine Kd.N_append (Kd.slice 3 (Kd.int .i64)) (w0 := w) w.heap.size rfl (.tmp 52) (.tmp 54) 61 28 (.slice none 0 0) 24 rfl Tryz.underlying61 infoInts rfl (by decide) (by omega) (.slice A8 xs.length c8) xs t1 [.slice A6 t1.length c6] (fun k_ => w.heap.size ≤ k_ ∧ some k_ ≠ (.slice A9 ys.length c9 : Value).ownBlock) (fun k => wr.heap.size ≤ k) rfl rfl ?aP ?aK ?aF HS2.out HB.out HB.out.size ?aL ?_;(case aP => exact rowFK HV.out);(case aK => exact fun k hk => ⟨⟨Nat.le_trans HW9.out hk,fun he => by have := HLT.out k (.inr he.symm);omega⟩,fun he => by have := HLT.out k (.inl he.symm);omega⟩);(case aF => exact fun k hk => ⟨Nat.le_trans HB.out.size hk,fun he => by have := Kd.R_lt HO2.out k he.symm;omega⟩);(case aL => have := HL1.out;omega);intro v1 w7 ho hb hg hat;have n1 := am ho;have n2 := am hb;have n3 := am (Kd.R_grown2 HO2.out rfl hg (fun k hk => (HS2.out.1 k hk).2));clear ho hb hg hat HB HS2 HO2 HLT HV NB;have HS2 := n1;have HB := n2;have HO2 := n3;clear n1 n2 n3) | ((with_reducible refine gate_builtin (b := .append) (xs := #[.tmp 56,.tmp 58]) rfl ?_);at_builtin;refine Kd.R_append (Kd.int .i64) (w0 := w) w.heap.size rfl (.tmp 56) (.tmp 58) 28 3 (.int .i64 0) 8 rfl Tryz.underlying28 infoInt rfl (by decide) (by omega) (.slice A9 ys.length c9) ys t2 [.int .i64 t2] (fun _ => True) (fun _ => False) rfl rfl ?aP (fun _ hk => hk.elim) (fun _ _ => trivial) HO2.out HB.out HB.out.size ?aL ?_;(case aP => exact rfl);(case aL => have := HL2.out;omega);intro v2 w8 ho hb hg hat;have n1 := am ho;have n2 := am hb;have n3 := am (N_after9 HS2.out hg hat);clear ho hb hg hat HB HS2 HO2;have HO2 := n1;have HB := n2;have HS2 := n3;clear n1 n2 n3))
   go_roundw
   case rel => exact ⟨cups,i + 1,xs ++ [t1],ys ++ [t2],by omega,by omega,rfl,by go_num,HQ,HS2,HO2,HB⟩
   case measure => simp [intOf];omega
  rw [if_pos hz0] at hc
  have hd0 : decide (0 < i) = true := decide_eq_true hz0
  have hw1 : IntKind.i64.wrap (i - 1) = i - 1 := (i64_w _).trans (by unfold wrap64;omega)
  obtain ⟨j,hj⟩ : ∃ j : Int,i - 1 = j := ⟨_,rfl⟩
  rw [hj] at hw1 hc
  have hj0 : 0 ≤ j := by omega
  by_cases hj1 : j < (l1.length : Int)
  case neg => rw [if_neg hj1] at hc;cases hc
  rw [if_pos hj1] at hc
  obtain ⟨adf,ef,hf0,hf1⟩ := at_T66 HR1.out j hj0 hj1
  cases ef
  have HF0 := am hf0
  have HF1 := am hf1
  clear hf0 hf1
  generalize hfb : (rd_T66 l1 j).f0 = fb at *
  generalize hfn : (rd_T66 l1 j).f1 = fn at *
  clear hfb hfn
  by_cases h20 : 0 ≤ fb
  case neg => rw [if_neg h20] at hc;cases hc
  rw [if_pos h20] at hc
  by_cases h21 : fb < (ys.length : Int)
  case neg => rw [if_neg h21] at hc;cases hc
  rw [if_pos h21] at hc
  obtain ⟨ad9,e9,hy⟩ := Kd.at_int (Kd.R_reads' HO.out).2.2 fb h20 h21
  cases e9
  have HY := am hy
  clear hy
  by_cases h22 : 0 ≤ fn
  case neg =>
   rw [if_neg h22] at hc
   have hd1 : decide (0 ≤ fn) = false := decide_eq_false h22
   obtain rfl := Option.some.inj hc
   clear hc
   go_wp2_with (first | ((refine gate_dst (N := 11) rfl ?_);refine box_event rfl (N := 11) rfl (cs := #[.slice none 0 0,.int .i64 0,.slice none 0 0,.int .i64 0,.int .i64 0,.slice none 0 0]) (t := 110) ?hr ?_;(case hr => go_simp;try rfl);intro ga hg w2 hbox hb;have GA := am (show w.heap.size ≤ ga by have := HB.out.size;omega);have GA2 := am (Nat.le_of_eq hg.symm);have NB := am hb;have n3 := (bmv HB hb);have BKga := am hbox;clear hg hb hbox HB;have HB := n3;clear n3;have hczga_0 := cO1 BKga.out;have hfzga_0 := blk_frozen BKga.out 0;have hczga_1 : w2.cell? ⟨ga,1,none⟩ = some (.int .i64 0) := (blk_cell BKga.out 1).trans rfl;have hfzga_1 := blk_frozen BKga.out 1;have hczga_2 : w2.cell? ⟨ga,2,none⟩ = some (.slice none 0 0) := (blk_cell BKga.out 2).trans rfl;have hfzga_2 := blk_frozen BKga.out 2;have hczga_3 : w2.cell? ⟨ga,3,none⟩ = some (.int .i64 0) := (blk_cell BKga.out 3).trans rfl;have hfzga_3 := blk_frozen BKga.out 3;have hczga_4 : w2.cell? ⟨ga,4,none⟩ = some (.int .i64 0) := (blk_cell BKga.out 4).trans rfl;have hfzga_4 := blk_frozen BKga.out 4;have hczga_5 : w2.cell? ⟨ga,5,none⟩ = some (.slice none 0 0) := (blk_cell BKga.out 5).trans rfl;have hfzga_5 := blk_frozen BKga.out 5) | ((with_reducible refine gate_store (t := 110) (p := 11) rfl ?_);refine skip_abs (fun W' => W'.heap[ga]? = some (.cells #[.slice A0_ x.f0.f0.f0.length c0_,.int .i64 x.f0.f0.f1,.slice A2 x.f0.f1.length c2,.int .i64 x.f0.f2,.int .i64 x.f0.f3,.slice A5 x.f1.length c5] 110 (0,0)) ∧ Below wr.heap.size wr W' ∧ Below w.heap.size w W') ?hg ?hd ?hr ⟨(blk_set (blk_set (blk_set (blk_set (blk_set (blk_set BKga.out 0 _) 1 _) 2 _) 3 _) 4 _) 5 _).trans rfl,(below_set (below_set (below_set (below_set (below_set (below_set NB.out GA2.out) GA2.out) GA2.out) GA2.out) GA2.out) GA2.out),(below_set (below_set (below_set (below_set (below_set (below_set HB.out GA.out) GA.out) GA.out) GA.out) GA.out) GA.out)⟩ ?_;(case hg => rfl);(case hd => rfl);(case hr => go_simp;try rfl);rintro w4 ⟨k1,k2,k3⟩;(try clear hczga_0 hczga_1 hczga_2 hczga_3 hczga_4 hczga_5);(try clear hfzga_0 hfzga_1 hfzga_2 hfzga_3 hfzga_4 hfzga_5);clear BKga NB HB;have BKga := am k1;have NB := am k2;have HB := am k3;clear k1 k2 k3;obtain ⟨hczga_0,hczga_1,hczga_2,hczga_3,hczga_4,hczga_5⟩ := cO6 BKga.out;have hf0 : w4.cell? _ = _ := (HB.out.cell (wbl HF0.out)).trans HF0.out;have hf1 : w4.cell? _ = _ := (HB.out.cell (wbl HF1.out)).trans HF1.out) | ((refine gate_dst (N := 12) rfl ?_);refine box_event rfl (N := 12) rfl (cs := #[.int .i64 0,.int .i64 0]) (t := 66) ?hr ?_;(case hr => go_simp;try rfl);intro gb hg w5 hbox hb;have HNab := am (show ga ≠ gb by have := blk_lt BKga.out;omega);have GB := am (show w.heap.size ≤ gb by have := HB.out.size;omega);have GB2 := am (show wr.heap.size ≤ gb by have := NB.out.size;omega);have n1 := (kmv hb BKga);have n2 := am (below_then NB.out NB.out.size hb);have n3 := (bmv HB hb);have BKgb := am hbox;(try clear hczga_0 hczga_1 hczga_2 hczga_3 hczga_4 hczga_5);(try clear hfzga_0 hfzga_1 hfzga_2 hfzga_3 hfzga_4 hfzga_5);(try clear hf0 hf1);clear hg hb hbox HB NB BKga;have BKga := n1;have NB := n2;have HB := n3;clear n1 n2 n3;have hczgb_0 := cO1 BKgb.out;have hfzgb_0 := blk_frozen BKgb.out 0;have hczgb_1 : w5.cell? ⟨gb,1,none⟩ = some (.int .i64 0) := (blk_cell BKgb.out 1).trans rfl;have hfzgb_1 := blk_frozen BKgb.out 1;have hf0 : w5.cell? _ = _ := (HB.out.cell (wbl HF0.out)).trans HF0.out;have hf1 : w5.cell? _ = _ := (HB.out.cell (wbl HF1.out)).trans HF1.out) | ((with_reducible refine gate_store (t := 66) (p := 12) rfl ?_);refine skip_abs (fun W' => W'.heap[ga]? = some (.cells #[.slice A0_ x.f0.f0.f0.length c0_,.int .i64 x.f0.f0.f1,.slice A2 x.f0.f1.length c2,.int .i64 x.f0.f2,.int .i64 x.f0.f3,.slice A5 x.f1.length c5] 110 (0,0)) ∧ W'.heap[gb]? = some (.cells #[.int .i64 fb,.int .i64 fn] 66 (0,0)) ∧ Below wr.heap.size wr W' ∧ Below w.heap.size w W') ?hg ?hd ?hr ⟨(obj_far (p := ⟨gb,1,none⟩) (obj_far (p := ⟨gb,0,none⟩) BKga.out HNab.out (.int .i64 fb)) HNab.out (.int .i64 fn)),(blk_set (blk_set BKgb.out 0 _) 1 _).trans rfl,(below_set (below_set NB.out GB2.out) GB2.out),(below_set (below_set HB.out GB.out) GB.out)⟩ ?_;(case hg => rfl);(case hd => rfl);(case hr => go_simp;try rfl);rintro w6 ⟨k1,k4,k2,k3⟩;(try clear hczga_0 hczga_1 hczga_2 hczga_3 hczga_4 hczga_5);(try clear hfzga_0 hfzga_1 hfzga_2 hfzga_3 hfzga_4 hfzga_5);(try clear hczgb_0 hczgb_1);(try clear hfzgb_0 hfzgb_1);(try clear hf0 hf1);clear BKga BKgb NB HB;have BKga := am k1;have BKgb := am k4;have NB := am k2;have HB := am k3;clear k1 k2 k3 k4;obtain ⟨hczga_0,hczga_1,hczga_2,hczga_3,hczga_4,hczga_5⟩ := cO6 BKga.out;obtain ⟨hczgb_0,hczgb_1⟩ := cO2 BKgb.out;have hy := (NB.out.cell (World.block_lt_of_cell? wr _ HY.out)).trans HY.out) | (go_at_call 71;(refine (gf_shares.calls k A0_ c0_ x.f0.f0.f0 x.f0.f0.f1 A2 c2 x.f0.f1 x.f0.f2 x.f0.f3 A5 c5 x.f1 (rd ys fb) t1 t2 _ (kC HI0.out HB.out) HL0_.out (kC HI2.out HB.out) HL2_.out (kC HI5.out HB.out) HL5_.out HT.out).mono ?_);rintro e wc ⟨v0_,rfl,hr,hb⟩;have n1 := (bmv HB hb);have n2 := am (below_then NB.out NB.out.size hb);have HV := am (Kd.R_lower hr NB.out.size);(try clear hczga_0 hczga_1 hczga_2 hczga_3 hczga_4 hczga_5);(try clear hfzga_0 hfzga_1 hfzga_2 hfzga_3 hfzga_4 hfzga_5);(try clear hczgb_0 hczgb_1);(try clear hfzgb_0 hfzgb_1);(try clear hy);(try clear hz);(try clear hz2);(try clear BKgb);clear HB NB hb hr BKga;have HB := n1;have NB := n2;clear n1 n2;obtain ⟨A6,c6,e6⟩ := Kd.R_slice HV.out;subst e6;have HS2 := am (Kd.N_below HS.out NB.out);have HO2 := am (Kd.R_below HO.out NB.out);have HLT := am (show ∀ k,(.slice A8 xs.length c8 : Value).ownBlock = some k ∨ (.slice (some ad9) ys.length c9 : Value).ownBlock = some k → k < wr.heap.size from fun k hk => hk.elim (Kd.N_lt HS.out k) (Kd.R_lt HO.out k))) | ((with_reducible refine gate_builtin (b := .append) (xs := #[.tmp 52,.tmp 54]) rfl ?_);at_builtin;refine Kd.N_append (Kd.slice 3 (Kd.int .i64)) (w0 := w) w.heap.size rfl (.tmp 52) (.tmp 54) 61 28 (.slice none 0 0) 24 rfl Tryz.underlying61 infoInts rfl (by decide) (by omega) (.slice A8 xs.length c8) xs t1 [.slice A6 t1.length c6] (fun k_ => w.heap.size ≤ k_ ∧ some k_ ≠ (.slice (some ad9) ys.length c9 : Value).ownBlock) (fun k => wr.heap.size ≤ k) rfl rfl ?aP ?aK ?aF HS2.out HB.out HB.out.size ?aL ?_;(case aP => exact rowFK HV.out);(case aK => exact fun k hk => ⟨⟨Nat.le_trans HW9.out hk,fun he => by have := HLT.out k (.inr he.symm);omega⟩,fun he => by have := HLT.out k (.inl he.symm);omega⟩);(case aF => exact fun k hk => ⟨Nat.le_trans HB.out.size hk,fun he => by have := Kd.R_lt HO2.out k he.symm;omega⟩);(case aL => have := HL1.out;omega);intro v1 w7 ho hb hg hat;have n1 := am ho;have n2 := am hb;have n3 := am (Kd.R_grown2 HO2.out rfl hg (fun k hk => (HS2.out.1 k hk).2));clear ho hb hg hat HB HS2 HO2 HLT HV NB;have HS2 := n1;have HB := n2;have HO2 := n3;clear n1 n2 n3) | ((with_reducible refine gate_builtin (b := .append) (xs := #[.tmp 56,.tmp 58]) rfl ?_);at_builtin;refine Kd.R_append (Kd.int .i64) (w0 := w) w.heap.size rfl (.tmp 56) (.tmp 58) 28 3 (.int .i64 0) 8 rfl Tryz.underlying28 infoInt rfl (by decide) (by omega) (.slice (some ad9) ys.length c9) ys t2 [.int .i64 t2] (fun _ => True) (fun _ => False) rfl rfl ?aP (fun _ hk => hk.elim) (fun _ _ => trivial) HO2.out HB.out HB.out.size ?aL ?_;(case aP => exact rfl);(case aL => have := HL2.out;omega);intro v2 w8 ho hb hg hat;have n1 := am ho;have n2 := am hb;have n3 := am (N_after9 HS2.out hg hat);clear ho hb hg hat HB HS2 HO2;have HO2 := n1;have HB := n2;have HS2 := n3;clear n1 n2 n3))
   go_roundw
   case rel => exact ⟨rd ys fb,i + 1,xs ++ [t1],ys ++ [t2],by omega,by omega,rfl,by go_num,HQ,HS2,HO2,HB⟩
   case measure => simp [intOf];omega
  rw [if_pos h22] at hc
  have hd1 : decide (0 ≤ fn) = true := decide_eq_true h22
  by_cases h23 : fb < (xs.length : Int)
  case neg => rw [if_neg h23] at hc;cases hc
  rw [if_pos h23] at hc
  obtain ⟨ad8,A7,c7,e8,hz,hz_,hzc⟩ := at_L3 (Kd.N_reads' HS.out).2.2 fb h20 h23
  cases e8
  have HZ := am hz
  clear hz
  generalize hrow : rd_L3 xs fb = row at *
  clear hrow
  by_cases h24 : fn < (row.length : Int)
  case neg => rw [if_neg h24] at hc;cases hc
  rw [if_pos h24] at hc
  obtain ⟨adz,ez,hz2⟩ := Kd.at_int hzc fn h22 h24
  cases ez
  have HZ2 := am hz2
  clear hz2 hzc hz_
  obtain rfl := Option.some.inj hc
  clear hc
  go_wp2_with (first | ((refine gate_dst (N := 11) rfl ?_);refine box_event rfl (N := 11) rfl (cs := #[.slice none 0 0,.int .i64 0,.slice none 0 0,.int .i64 0,.int .i64 0,.slice none 0 0]) (t := 110) ?hr ?_;(case hr => go_simp;try rfl);intro ga hg w2 hbox hb;have GA := am (show w.heap.size ≤ ga by have := HB.out.size;omega);have GA2 := am (Nat.le_of_eq hg.symm);have NB := am hb;have n3 := (bmv HB hb);have BKga := am hbox;clear hg hb hbox HB;have HB := n3;clear n3;have hczga_0 := cO1 BKga.out;have hfzga_0 := blk_frozen BKga.out 0;have hczga_1 : w2.cell? ⟨ga,1,none⟩ = some (.int .i64 0) := (blk_cell BKga.out 1).trans rfl;have hfzga_1 := blk_frozen BKga.out 1;have hczga_2 : w2.cell? ⟨ga,2,none⟩ = some (.slice none 0 0) := (blk_cell BKga.out 2).trans rfl;have hfzga_2 := blk_frozen BKga.out 2;have hczga_3 : w2.cell? ⟨ga,3,none⟩ = some (.int .i64 0) := (blk_cell BKga.out 3).trans rfl;have hfzga_3 := blk_frozen BKga.out 3;have hczga_4 : w2.cell? ⟨ga,4,none⟩ = some (.int .i64 0) := (blk_cell BKga.out 4).trans rfl;have hfzga_4 := blk_frozen BKga.out 4;have hczga_5 : w2.cell? ⟨ga,5,none⟩ = some (.slice none 0 0) := (blk_cell BKga.out 5).trans rfl;have hfzga_5 := blk_frozen BKga.out 5) | ((with_reducible refine gate_store (t := 110) (p := 11) rfl ?_);refine skip_abs (fun W' => W'.heap[ga]? = some (.cells #[.slice A0_ x.f0.f0.f0.length c0_,.int .i64 x.f0.f0.f1,.slice A2 x.f0.f1.length c2,.int .i64 x.f0.f2,.int .i64 x.f0.f3,.slice A5 x.f1.length c5] 110 (0,0)) ∧ Below wr.heap.size wr W' ∧ Below w.heap.size w W') ?hg ?hd ?hr ⟨(blk_set (blk_set (blk_set (blk_set (blk_set (blk_set BKga.out 0 _) 1 _) 2 _) 3 _) 4 _) 5 _).trans rfl,(below_set (below_set (below_set (below_set (below_set (below_set NB.out GA2.out) GA2.out) GA2.out) GA2.out) GA2.out) GA2.out),(below_set (below_set (below_set (below_set (below_set (below_set HB.out GA.out) GA.out) GA.out) GA.out) GA.out) GA.out)⟩ ?_;(case hg => rfl);(case hd => rfl);(case hr => go_simp;try rfl);rintro w4 ⟨k1,k2,k3⟩;(try clear hczga_0 hczga_1 hczga_2 hczga_3 hczga_4 hczga_5);(try clear hfzga_0 hfzga_1 hfzga_2 hfzga_3 hfzga_4 hfzga_5);clear BKga NB HB;have BKga := am k1;have NB := am k2;have HB := am k3;clear k1 k2 k3;obtain ⟨hczga_0,hczga_1,hczga_2,hczga_3,hczga_4,hczga_5⟩ := cO6 BKga.out;have hf0 : w4.cell? _ = _ := (HB.out.cell (wbl HF0.out)).trans HF0.out;have hf1 : w4.cell? _ = _ := (HB.out.cell (wbl HF1.out)).trans HF1.out) | ((refine gate_dst (N := 12) rfl ?_);refine box_event rfl (N := 12) rfl (cs := #[.int .i64 0,.int .i64 0]) (t := 66) ?hr ?_;(case hr => go_simp;try rfl);intro gb hg w5 hbox hb;have HNab := am (show ga ≠ gb by have := blk_lt BKga.out;omega);have GB := am (show w.heap.size ≤ gb by have := HB.out.size;omega);have GB2 := am (show wr.heap.size ≤ gb by have := NB.out.size;omega);have n1 := (kmv hb BKga);have n2 := am (below_then NB.out NB.out.size hb);have n3 := (bmv HB hb);have BKgb := am hbox;(try clear hczga_0 hczga_1 hczga_2 hczga_3 hczga_4 hczga_5);(try clear hfzga_0 hfzga_1 hfzga_2 hfzga_3 hfzga_4 hfzga_5);(try clear hf0 hf1);clear hg hb hbox HB NB BKga;have BKga := n1;have NB := n2;have HB := n3;clear n1 n2 n3;have hczgb_0 := cO1 BKgb.out;have hfzgb_0 := blk_frozen BKgb.out 0;have hczgb_1 : w5.cell? ⟨gb,1,none⟩ = some (.int .i64 0) := (blk_cell BKgb.out 1).trans rfl;have hfzgb_1 := blk_frozen BKgb.out 1;have hf0 : w5.cell? _ = _ := (HB.out.cell (wbl HF0.out)).trans HF0.out;have hf1 : w5.cell? _ = _ := (HB.out.cell (wbl HF1.out)).trans HF1.out) | ((with_reducible refine gate_store (t := 66) (p := 12) rfl ?_);refine skip_abs (fun W' => W'.heap[ga]? = some (.cells #[.slice A0_ x.f0.f0.f0.length c0_,.int .i64 x.f0.f0.f1,.slice A2 x.f0.f1.length c2,.int .i64 x.f0.f2,.int .i64 x.f0.f3,.slice A5 x.f1.length c5] 110 (0,0)) ∧ W'.heap[gb]? = some (.cells #[.int .i64 fb,.int .i64 fn] 66 (0,0)) ∧ Below wr.heap.size wr W' ∧ Below w.heap.size w W') ?hg ?hd ?hr ⟨(obj_far (p := ⟨gb,1,none⟩) (obj_far (p := ⟨gb,0,none⟩) BKga.out HNab.out (.int .i64 fb)) HNab.out (.int .i64 fn)),(blk_set (blk_set BKgb.out 0 _) 1 _).trans rfl,(below_set (below_set NB.out GB2.out) GB2.out),(below_set (below_set HB.out GB.out) GB.out)⟩ ?_;(case hg => rfl);(case hd => rfl);(case hr => go_simp;try rfl);rintro w6 ⟨k1,k4,k2,k3⟩;(try clear hczga_0 hczga_1 hczga_2 hczga_3 hczga_4 hczga_5);(try clear hfzga_0 hfzga_1 hfzga_2 hfzga_3 hfzga_4 hfzga_5);(try clear hczgb_0 hczgb_1);(try clear hfzgb_0 hfzgb_1);(try clear hf0 hf1);clear BKga BKgb NB HB;have BKga := am k1;have BKgb := am k4;have NB := am k2;have HB := am k3;clear k1 k2 k3 k4;obtain ⟨hczga_0,hczga_1,hczga_2,hczga_3,hczga_4,hczga_5⟩ := cO6 BKga.out;obtain ⟨hczgb_0,hczgb_1⟩ := cO2 BKgb.out;have hy := (NB.out.cell (World.block_lt_of_cell? wr _ HY.out)).trans HY.out;have hz := (NB.out.cell (World.block_lt_of_cell? wr _ HZ.out)).trans HZ.out;have hz2 := (NB.out.cell (World.block_lt_of_cell? wr _ HZ2.out)).trans HZ2.out))
  go_quiet (fail)
  go_wp2_with (first | (go_at_call 71;(refine (gf_shares.calls k A0_ c0_ x.f0.f0.f0 x.f0.f0.f1 A2 c2 x.f0.f1 x.f0.f2 x.f0.f3 A5 c5 x.f1 (rd row fn) t1 t2 _ (kC HI0.out (pw_below_drewN HB.out _)) HL0_.out (kC HI2.out (pw_below_drewN HB.out _)) HL2_.out (kC HI5.out (pw_below_drewN HB.out _)) HL5_.out HT.out).mono ?_);rintro e wc ⟨v0_,rfl,hr,hb⟩;have n1 := am (below_then (pw_below_drewN HB.out _) (pw_below_drewN HB.out _).size hb);have n2 := am (below_then (pw_below_drewN NB.out _) (pw_below_drewN NB.out _).size hb);have HV := am (Kd.R_lower hr (pw_below_drewN NB.out _).size);(try clear hczga_0 hczga_1 hczga_2 hczga_3 hczga_4 hczga_5);(try clear hfzga_0 hfzga_1 hfzga_2 hfzga_3 hfzga_4 hfzga_5);(try clear hczgb_0 hczgb_1);(try clear hfzgb_0 hfzgb_1);(try clear hy);(try clear hz);(try clear hz2);(try clear BKgb);clear HB NB hb hr BKga;have HB := n1;have NB := n2;clear n1 n2;obtain ⟨A6,c6,e6⟩ := Kd.R_slice HV.out;subst e6;have HS2 := am (Kd.N_below HS.out NB.out);have HO2 := am (Kd.R_below HO.out NB.out);have HLT := am (show ∀ k,(.slice (some ad8) xs.length c8 : Value).ownBlock = some k ∨ (.slice (some ad9) ys.length c9 : Value).ownBlock = some k → k < wr.heap.size from fun k hk => hk.elim (Kd.N_lt HS.out k) (Kd.R_lt HO.out k))) | ((with_reducible refine gate_builtin (b := .append) (xs := #[.tmp 52,.tmp 54]) rfl ?_);at_builtin;refine Kd.N_append (Kd.slice 3 (Kd.int .i64)) (w0 := w) w.heap.size rfl (.tmp 52) (.tmp 54) 61 28 (.slice none 0 0) 24 rfl Tryz.underlying61 infoInts rfl (by decide) (by omega) (.slice (some ad8) xs.length c8) xs t1 [.slice A6 t1.length c6] (fun k_ => w.heap.size ≤ k_ ∧ some k_ ≠ (.slice (some ad9) ys.length c9 : Value).ownBlock) (fun k => wr.heap.size ≤ k) rfl rfl ?aP ?aK ?aF HS2.out HB.out HB.out.size ?aL ?_;(case aP => exact rowFK HV.out);(case aK => exact fun k hk => ⟨⟨Nat.le_trans HW9.out hk,fun he => by have := HLT.out k (.inr he.symm);omega⟩,fun he => by have := HLT.out k (.inl he.symm);omega⟩);(case aF => exact fun k hk => ⟨Nat.le_trans HB.out.size hk,fun he => by have := Kd.R_lt HO2.out k he.symm;omega⟩);(case aL => have := HL1.out;omega);intro v1 w7 ho hb hg hat;have n1 := am ho;have n2 := am hb;have n3 := am (Kd.R_grown2 HO2.out rfl hg (fun k hk => (HS2.out.1 k hk).2));clear ho hb hg hat HB HS2 HO2 HLT HV NB;have HS2 := n1;have HB := n2;have HO2 := n3;clear n1 n2 n3) | ((with_reducible refine gate_builtin (b := .append) (xs := #[.tmp 56,.tmp 58]) rfl ?_);at_builtin;refine Kd.R_append (Kd.int .i64) (w0 := w) w.heap.size rfl (.tmp 56) (.tmp 58) 28 3 (.int .i64 0) 8 rfl Tryz.underlying28 infoInt rfl (by decide) (by omega) (.slice (some ad9) ys.length c9) ys t2 [.int .i64 t2] (fun _ => True) (fun _ => False) rfl rfl ?aP (fun _ hk => hk.elim) (fun _ _ => trivial) HO2.out HB.out HB.out.size ?aL ?_;(case aP => exact rfl);(case aL => have := HL2.out;omega);intro v2 w8 ho hb hg hat;have n1 := am ho;have n2 := am hb;have n3 := am (N_after9 HS2.out hg hat);clear ho hb hg hat HB HS2 HO2;have HO2 := n1;have HB := n2;have HS2 := n3;clear n1 n2 n3))
  go_roundw
  case rel => exact ⟨rd row fn,i + 1,xs ++ [t1],ys ++ [t2],by omega,by omega,rfl,by go_num,HQ,HS2,HO2,HB⟩
  case measure => simp [intOf];omega
set_option linter.unusedSimpArgs false
set_option linter.unusedSimpArgs false
section
attribute [local go_sem] max2_int min2_int max_two min_two
set_option linter.unusedSimpArgs false
set_option linter.unusedSimpArgs false
end
end Go.Proofs.YtnnmnhpeblhiiaaGreatDoor.C

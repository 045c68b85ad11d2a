/- A part of the proof: the walks of the functions that it reaches. TIGHT. -/
import Derived.Test.YticlelgmmonloaaGreatDoorM12
import Derived.Laws.EntriesVeiled
import Derived.Outline
set_option linter.unusedVariables false
set_option linter.unusedSimpArgs false
namespace Go.Proofs.YticlelgmmonloaaGreatDoor.C
open Go.RowKit Go.Proofs.YticlelgmmonloaaGreatDoorW.PrintWords Go.Proofs.YticlelgmmonloaaGreatDoorW.PrintLast Go.Proofs.YticlelgmmonloaaGreatDoorW.PrintMore
set_option linter.unusedVariables false
set_option linter.unusedSimpArgs false
set_option maxHeartbeats 16000000
set_option maxRecDepth 100000
def gf_out.f (l0_0 : List S126) (a0_1 : Int) (l0_2 : List S64) (a0_3 a0_4 : Int) (l0_5 : List (List Int)) (a1 : Int) : Option Int :=
 (gf_nozzles.f ((rd_L3 l0_5 a1).length + 1) l0_0 a0_1 l0_2 a0_3 a0_4 l0_5 a1).bind fun x => (gf_weir.f l0_0 a0_1 l0_2 a0_3 a0_4 l0_5 a1).bind fun y => some (wrap64 (wrap64 x + y))
theorem gf_out.calls (A0_0 : Option Addr) (c0_0 : Nat) (l0_0 : List S126) (a0_1 : Int) (A0_2 : Option Addr) (c0_2 : Nat) (l0_2 : List S64) (a0_3 a0_4 : Int) (A0_5 : Option Addr) (c0_5 : Nat) (l0_5 : List (List Int)) (a1 : Int) (r : Int) (w : World) (hr0_0 : Kd.C k126 w A0_0 l0_0.length l0_0) (hc0_0 : l0_0.length ≤ c0_0) (hr0_2 : Kd.C k64 w A0_2 l0_2.length l0_2) (hc0_2 : l0_2.length ≤ c0_2) (hr0_5 : Kd.C (Kd.slice 3 (Kd.int .i64)) w A0_5 l0_5.length l0_5) (hc0_5 : l0_5.length ≤ c0_5) (h : gf_out.f l0_0 a0_1 l0_2 a0_3 a0_4 l0_5 a1 = some r) :
 Calls Tryz.prog 99 #[.agg #[.slice A0_0 l0_0.length c0_0,.int .i64 a0_1,.slice A0_2 l0_2.length c0_2,.int .i64 a0_3,.int .i64 a0_4,.slice A0_5 l0_5.length c0_5],.int .i64 a1] w fun e w' => e = .returned (.int .i64 r) ∧ Below w.heap.size w w' := by
 have hu := Tryz.underlying99
 have HB := am (Below.refl w.heap.size w)
 have HR0 := am hr0_0
 have HC0 := am hc0_0
 have HR2 := am hr0_2
 have HC2 := am hc0_2
 have HR5 := am hr0_5
 have HC5 := am hc0_5
 clear hr0_0 hc0_0 hr0_2 hc0_2 hr0_5 hc0_5
 unfold gf_out.f at h
 obtain ⟨x,hx,h⟩ := obm h
 obtain ⟨y,hy,h⟩ := obm h
 have H1 := am hx
 have H2 := am hy
 have H3 := am (Option.some.inj h)
 clear hx hy h
 go_enter Tryz.func99,Tryz.ntmps99
 go_wp2_with ((refine gate_dst (N := 2) rfl ?_);(try (refine gate_guard (by rfl) ?_;dsimp only));refine box_event rfl (N := 2) rfl (cs := #[.slice A0_0 l0_0.length c0_0,.int .i64 a0_1,.slice A0_2 l0_2.length c0_2,.int .i64 a0_3,.int .i64 a0_4,.slice A0_5 l0_5.length c0_5]) (t := 99) ?hr ?_;(case hr => go_simp;try rfl);intro g hg w2 hbox hb;replace HB := (bmv HB hb);clear hg;have BKg := am hbox;clear hbox;(try clear hczg_0 hczg_1 hczg_2 hczg_3 hczg_4 hczg_5);obtain ⟨hczg_0,hczg_1,hczg_2,hczg_3,hczg_4,hczg_5⟩ := cO6 BKg.out;clear hb)
 have hi0 : ∀ W,(Instr.index 156 (.agg #[.func (.func 119) #[.agg #[.slice A0_0 l0_0.length c0_0,.int .i64 a0_1,.slice A0_2 l0_2.length c0_2,.int .i64 a0_3,.int .i64 a0_4,.slice A0_5 l0_5.length c0_5]] #[],.func (.func 69) #[.agg #[.slice A0_0 l0_0.length c0_0,.int .i64 a0_1,.slice A0_2 l0_2.length c0_2,.int .i64 a0_3,.int .i64 a0_4,.slice A0_5 l0_5.length c0_5]] #[]]) (.int .i64 0)).run Tryz.prog W = .ok (.func (.func 119) #[.agg #[.slice A0_0 l0_0.length c0_0,.int .i64 a0_1,.slice A0_2 l0_2.length c0_2,.int .i64 a0_3,.int .i64 a0_4,.slice A0_5 l0_5.length c0_5]] #[]) W := fun W => by rfl
 have hi1 : ∀ W,(Instr.index 156 (.agg #[.func (.func 119) #[.agg #[.slice A0_0 l0_0.length c0_0,.int .i64 a0_1,.slice A0_2 l0_2.length c0_2,.int .i64 a0_3,.int .i64 a0_4,.slice A0_5 l0_5.length c0_5]] #[],.func (.func 69) #[.agg #[.slice A0_0 l0_0.length c0_0,.int .i64 a0_1,.slice A0_2 l0_2.length c0_2,.int .i64 a0_3,.int .i64 a0_4,.slice A0_5 l0_5.length c0_5]] #[]]) (.int .i64 1)).run Tryz.prog W = .ok (.func (.func 69) #[.agg #[.slice A0_0 l0_0.length c0_0,.int .i64 a0_1,.slice A0_2 l0_2.length c0_2,.int .i64 a0_3,.int .i64 a0_4,.slice A0_5 l0_5.length c0_5]] #[]) W := fun W => by rfl
 go_loopw [6,8,15] (fun v6 v8 v15 w' => ((v6 = .int .i64 0 ∧ v15 = .int .i64 0) ∨ (v6 = .int .i64 (wrap64 x) ∧ v15 = .int .i64 1) ∨ (v6 = .int .i64 (wrap64 (wrap64 x + y)) ∧ v15 = .int .i64 2)) ∧ Aside0 (Below w.heap.size w w')) (fun _ _ v15 _ => 2 - (intOf v15).toNat)
 case atStart => exact ⟨.inl ⟨rfl,rfl⟩,⟨below_alloc HB.out _⟩⟩
 case round =>
  obtain ⟨hc,HBr⟩ := hrel
  rcases hc with ⟨rfl,rfl⟩ | ⟨rfl,rfl⟩ | ⟨rfl,rfl⟩
  · go_wp2_with (go_at_call 119;refine (gf_nozzles.calls _ A0_0 c0_0 l0_0 a0_1 A0_2 c0_2 l0_2 a0_3 a0_4 A0_5 c0_5 l0_5 a1 x _ (kC HR0.out HBr.out) HC0.out (kC HR2.out HBr.out) HC2.out (kC HR5.out HBr.out) HC5.out H1.out).mono ?_;rintro e w3 ⟨rfl,hb⟩)
    go_roundw
    case rel => exact ⟨.inr (.inl ⟨by simp,by simp⟩),⟨below_then HBr.out HBr.out.size hb⟩⟩
    case measure => simp [intOf]
  · go_wp2_with (go_at_call 69;refine (gf_weir.calls A0_0 c0_0 l0_0 a0_1 A0_2 c0_2 l0_2 a0_3 a0_4 A0_5 c0_5 l0_5 a1 y _ (kC HR0.out HBr.out) HC0.out (kC HR2.out HBr.out) HC2.out (kC HR5.out HBr.out) HC5.out H2.out).mono ?_;rintro e w3 ⟨rfl,hb⟩)
    go_roundw
    case rel => exact ⟨.inr (.inr ⟨by simp,by simp⟩),⟨below_then HBr.out HBr.out.size hb⟩⟩
    case measure => simp [intOf]
  · go_wp2
    go_ret
    exact ⟨ret_int_eq H3.out,HBr.out⟩
def levelGo (l0_0 : List S126) (a0_1 : Int) (l0_2 : List S64) (a0_3 a0_4 : Int) (l0_5 : List (List Int)) (a1 : Int) : Nat → Int → Int → Option Int
 | 0,_,out => some out
 | n + 1,h,out => (gf_out.f l0_0 a0_1 l0_2 a0_3 a0_4 l0_5 h).bind fun t => if t > a1 then some out else levelGo l0_0 a0_1 l0_2 a0_3 a0_4 l0_5 a1 n (h + 1) h
def gf_level.f (l0_0 : List S126) (a0_1 : Int) (l0_2 : List S64) (a0_3 a0_4 : Int) (l0_5 : List (List Int)) (a1 : Int) : Option Int := levelGo l0_0 a0_1 l0_2 a0_3 a0_4 l0_5 a1 l0_5.length 0 0
theorem gf_level.calls (A0_0 : Option Addr) (c0_0 : Nat) (l0_0 : List S126) (a0_1 : Int) (A0_2 : Option Addr) (c0_2 : Nat) (l0_2 : List S64) (a0_3 a0_4 : Int) (A0_5 : Option Addr) (c0_5 : Nat) (l0_5 : List (List Int)) (a1 : Int) (r : Int) (w : World) (hr0_0 : Kd.C k126 w A0_0 l0_0.length l0_0) (hc0_0 : l0_0.length ≤ c0_0) (hr0_2 : Kd.C k64 w A0_2 l0_2.length l0_2) (hc0_2 : l0_2.length ≤ c0_2) (hr0_5 : Kd.C (Kd.slice 3 (Kd.int .i64)) w A0_5 l0_5.length l0_5) (hc0_5 : l0_5.length ≤ c0_5) (h : gf_level.f l0_0 a0_1 l0_2 a0_3 a0_4 l0_5 a1 = some r) :
 Calls Tryz.prog 67 #[.agg #[.slice A0_0 l0_0.length c0_0,.int .i64 a0_1,.slice A0_2 l0_2.length c0_2,.int .i64 a0_3,.int .i64 a0_4,.slice A0_5 l0_5.length c0_5],.int .i64 a1] w fun e w' => e = .returned (.int .i64 r) ∧ Below w.heap.size w w' := by
 have hu := Tryz.underlying99
 have HB := am (Below.refl w.heap.size w)
 have hm : l0_5.length ≤ 9223372036854775807 := Kd.C_max hr0_5
 have HR0 := am hr0_0
 have HC0 := am hc0_0
 have HR2 := am hr0_2
 have HC2 := am hc0_2
 have HR5 := am hr0_5
 have HC5 := am hc0_5
 clear hr0_0 hc0_0 hr0_2 hc0_2 hr0_5 hc0_5
 have HQ := am (show levelGo l0_0 a0_1 l0_2 a0_3 a0_4 l0_5 a1 ((l0_5.length : Int) - 0).toNat 0 0 = some r from h)
 clear h
 go_enter Tryz.func67,Tryz.ntmps67
 go_wp2_with ((refine gate_dst (N := 2) rfl ?_);(try (refine gate_guard (by rfl) ?_;dsimp only));refine box_event rfl (N := 2) rfl (cs := #[.slice A0_0 l0_0.length c0_0,.int .i64 a0_1,.slice A0_2 l0_2.length c0_2,.int .i64 a0_3,.int .i64 a0_4,.slice A0_5 l0_5.length c0_5]) (t := 99) ?hr ?_;(case hr => go_simp;try rfl);intro g hg w2 hbox hb;replace HB := (bmv HB hb);clear hg;have BKg := am hbox;clear hbox;(try clear hczg_0 hczg_1 hczg_2 hczg_3 hczg_4 hczg_5);obtain ⟨hczg_0,hczg_1,hczg_2,hczg_3,hczg_4,hczg_5⟩ := cO6 BKg.out;clear hb)
 go_step3
 go_wp2
 go_step3
 go_wp2
 go_loopw [5,6,10] (fun v5 v6 v10 w' => ∃ i out : Int,0 ≤ i ∧ i ≤ l0_5.length ∧ v5 = .int .i64 out ∧ v10 = .int .i64 i ∧ Aside0 (levelGo l0_0 a0_1 l0_2 a0_3 a0_4 l0_5 a1 ((l0_5.length : Int) - i).toNat i out = some r) ∧ Aside0 (Below w.heap.size w w') ∧ Aside0 (w'.heap[g]? = some (.cells #[.slice A0_0 l0_0.length c0_0,.int .i64 a0_1,.slice A0_2 l0_2.length c0_2,.int .i64 a0_3,.int .i64 a0_4,.slice A0_5 l0_5.length c0_5] 99 (0,0)))) (fun _ _ v10 _ => l0_5.length - (intOf v10).toNat)
 case atStart => exact ⟨0,0,by omega,by omega,rfl,rfl,HQ,HB,BKg⟩
 case round =>
  clear HQ HB BKg
  obtain ⟨i,out,p1,hi,rfl,rfl,HQ,HB,BKg⟩ := hrel
  by_cases hlt : i < (l0_5.length : Int)
  case neg =>
   go_wp2
   (try rw [Exit.noGoto_ret])
   go_ret
   have hq := HQ.out
   rw [show ((l0_5.length : Int) - i).toNat = 0 by omega] at hq
   exact ⟨ret_int_eq (Option.some.inj hq),HB.out⟩
  have hq := HQ.out
  rw [show ((l0_5.length : Int) - i).toNat = ((l0_5.length : Int) - (i + 1)).toNat + 1 by omega] at hq
  simp only [levelGo] at hq
  obtain ⟨t,ht,hq⟩ := obm hq
  have H1 := am ht
  clear ht HQ
  (try clear hczg_0 hfzg_0);have hczg_0 : wr.cell? ⟨g,0,none⟩ = some (.slice A0_0 l0_0.length c0_0) := (blk_cell BKg.out 0).trans rfl;have hfzg_0 := blk_frozen BKg.out 0
  (try clear hczg_1 hfzg_1);have hczg_1 : wr.cell? ⟨g,1,none⟩ = some (.int .i64 a0_1) := (blk_cell BKg.out 1).trans rfl;have hfzg_1 := blk_frozen BKg.out 1
  (try clear hczg_2 hfzg_2);have hczg_2 : wr.cell? ⟨g,2,none⟩ = some (.slice A0_2 l0_2.length c0_2) := (blk_cell BKg.out 2).trans rfl;have hfzg_2 := blk_frozen BKg.out 2
  (try clear hczg_3 hfzg_3);have hczg_3 : wr.cell? ⟨g,3,none⟩ = some (.int .i64 a0_3) := (blk_cell BKg.out 3).trans rfl;have hfzg_3 := blk_frozen BKg.out 3
  (try clear hczg_4 hfzg_4);have hczg_4 : wr.cell? ⟨g,4,none⟩ = some (.int .i64 a0_4) := (blk_cell BKg.out 4).trans rfl;have hfzg_4 := blk_frozen BKg.out 4
  (try clear hczg_5 hfzg_5);have hczg_5 : wr.cell? ⟨g,5,none⟩ = some (.slice A0_5 l0_5.length c0_5) := (blk_cell BKg.out 5).trans rfl;have hfzg_5 := blk_frozen BKg.out 5
  by_cases hgt : t > a1
  · rw [if_pos hgt] at hq
    have H2 := am (Option.some.inj hq)
    have b1 : decide (a1 < t) = true := decide_eq_true hgt
    clear hq hgt
    go_wp2_with (go_at_call 99;refine (gf_out.calls A0_0 c0_0 l0_0 a0_1 A0_2 c0_2 l0_2 a0_3 a0_4 A0_5 c0_5 l0_5 i t _ (kC HR0.out HB.out) HC0.out (kC HR2.out HB.out) HC2.out (kC HR5.out HB.out) HC5.out H1.out).mono ?_;rintro e w3 ⟨rfl,hb⟩;have n_ := (kmv hb BKg);have m_ := (bmv HB hb);clear BKg HB hb hczg_0 hczg_1 hczg_2 hczg_3 hczg_4 hczg_5 hfzg_0 hfzg_1 hfzg_2 hfzg_3 hfzg_4 hfzg_5;have BKg := n_;have HB := m_;clear n_ m_)
    (try rw [Exit.noGoto_ret])
    go_ret
    exact ⟨ret_int_eq H2.out,HB.out⟩
  · rw [if_neg hgt] at hq
    have H2 := am hq
    have b1 : decide (a1 < t) = false := decide_eq_false hgt
    clear hq hgt
    go_wp2_with (go_at_call 99;refine (gf_out.calls A0_0 c0_0 l0_0 a0_1 A0_2 c0_2 l0_2 a0_3 a0_4 A0_5 c0_5 l0_5 i t _ (kC HR0.out HB.out) HC0.out (kC HR2.out HB.out) HC2.out (kC HR5.out HB.out) HC5.out H1.out).mono ?_;rintro e w3 ⟨rfl,hb⟩;have n_ := (kmv hb BKg);have m_ := (bmv HB hb);clear BKg HB hb hczg_0 hczg_1 hczg_2 hczg_3 hczg_4 hczg_5 hfzg_0 hfzg_1 hfzg_2 hfzg_3 hfzg_4 hfzg_5;have BKg := n_;have HB := m_;clear n_ m_)
    go_roundw
    case rel => exact ⟨i + 1,i,by omega,by omega,rfl,by go_num,H2,HB,BKg⟩
    case measure => simp [intOf];omega
section
attribute [local go_sem] max2_int min2_int max_two min_two
def gf_shares.l0 : Nat → Int → List Int → Int → List Int → Int → Int → Option (List Int × Int)
 | 0,_,_,_,_,_,_ => none
 | k + 1,x1,x7,x8,x33,x34,x35 => if x35 < x34 then (if 0 ≤ x35 then (if x35 < (x33.length : Int) then (if x35 < (x7.length : Int) then (gf_shares.l0 k x1 (x7.set (x35 : Int).toNat (wrap64 ((rd x7 x35) + (mn x8 (wrap64 ((rd x33 x35) - (rd x7 x35))))))) (wrap64 (x8 - (mn x8 (wrap64 ((rd x33 x35) - (rd x7 x35)))))) x33 x34 (wrap64 (x35 + 1))) else (none)) else (none)) else (none)) else ((ca_sum.f k x7).bind fun t162 => (some (x7,wrap64 (x1 - t162))))
def gf_shares.f (k : Nat) (l0_0 : List (S126)) (a0_1 : Int) (l0_2 : List (S64)) (a0_3 : Int) (a0_4 : Int) (l0_5 : List (List Int)) (a1 : Int) : Option (List Int × Int) := (gf_level.f l0_0 a0_1 l0_2 a0_3 a0_4 l0_5 a1).bind fun t151 => (if 0 ≤ t151 then (if t151 < (l0_5.length : Int) then ((sl_Clone_int.f (rd_L3 l0_5 t151)).bind fun t153 => (if t151 < 40 then ((gf_out.f l0_0 a0_1 l0_2 a0_3 a0_4 l0_5 t151).bind fun t156 => (if 0 ≤ (wrap64 (t151 + 1)) then (if (wrap64 (t151 + 1)) < (l0_5.length : Int) then (gf_shares.l0 k a1 t153 (wrap64 (a1 - t156)) (rd_L3 l0_5 (wrap64 (t151 + 1))) ((rd_L3 l0_5 (wrap64 (t151 + 1))).length : Int) 0) else (none)) else (none))) else ((ca_sum.f k t153).bind fun t163 => (some (t153,wrap64 (a1 - t163)))))) else (none)) else (none))
theorem gf_shares.calls (k : Nat) (A0_0 : Option Addr) (c0_0 : Nat) (l0_0 : List (S126)) (a0_1 : Int) (A0_2 : Option Addr) (c0_2 : Nat) (l0_2 : List (S64)) (a0_3 : Int) (a0_4 : Int) (A0_5 : Option Addr) (c0_5 : Nat) (l0_5 : List (List Int)) (a1 : Int) (r1 : List Int) (r2 : Int) (w : World) (hr0_0 : Kd.C k126 w A0_0 l0_0.length l0_0) (hc0_0 : l0_0.length ≤ c0_0) (hr0_2 : Kd.C k64 w A0_2 l0_2.length l0_2) (hc0_2 : l0_2.length ≤ c0_2) (hr0_5 : Kd.C (Kd.slice 3 (Kd.int .i64)) w A0_5 l0_5.length l0_5) (hc0_5 : l0_5.length ≤ c0_5) (h : gf_shares.f k l0_0 a0_1 l0_2 a0_3 a0_4 l0_5 a1 = some (r1,r2)) :
 Calls Tryz.prog 60 #[.agg #[.slice A0_0 l0_0.length c0_0,.int .i64 a0_1,.slice A0_2 l0_2.length c0_2,.int .i64 a0_3,.int .i64 a0_4,.slice A0_5 l0_5.length c0_5],.int .i64 a1] w fun e w' => ∃ v0_ : Value,e = .returned (.tuple #[v0_,.int .i64 r2]) ∧ Kd.R (Kd.int .i64) 3 w' w.heap.size (fun _ => True) v0_ r1 ∧ Below w.heap.size w w' := by
 have hu99 := Tryz.underlying99
 have HR0_0 := am hr0_0
 have HC0_0 := am hc0_0
 clear hr0_0 hc0_0
 have HR0_2 := am hr0_2
 have HC0_2 := am hc0_2
 clear hr0_2 hc0_2
 have HR0_5 := am hr0_5
 have HC0_5 := am hc0_5
 clear hr0_5 hc0_5
 have HB := am (Below.refl w.heap.size w)
 have H : ((gf_level.f l0_0 a0_1 l0_2 a0_3 a0_4 l0_5 a1).bind fun t151 => (if 0 ≤ t151 then (if t151 < (l0_5.length : Int) then ((sl_Clone_int.f (rd_L3 l0_5 t151)).bind fun t153 => (if t151 < 40 then ((gf_out.f l0_0 a0_1 l0_2 a0_3 a0_4 l0_5 t151).bind fun t156 => (if 0 ≤ (wrap64 (t151 + 1)) then (if (wrap64 (t151 + 1)) < (l0_5.length : Int) then (gf_shares.l0 k a1 t153 (wrap64 (a1 - t156)) (rd_L3 l0_5 (wrap64 (t151 + 1))) ((rd_L3 l0_5 (wrap64 (t151 + 1))).length : Int) 0) else (none)) else (none))) else ((ca_sum.f k t153).bind fun t163 => (some (t153,wrap64 (a1 - t163)))))) else (none)) else (none))) = some (r1,r2) := h
 clear h
 replace H := obm H
 obtain ⟨t151,A30,H⟩ := H
 replace H : (if 0 ≤ t151 then (if t151 < (l0_5.length : Int) then ((sl_Clone_int.f (rd_L3 l0_5 t151)).bind fun t153 => (if t151 < 40 then ((gf_out.f l0_0 a0_1 l0_2 a0_3 a0_4 l0_5 t151).bind fun t156 => (if 0 ≤ (wrap64 (t151 + 1)) then (if (wrap64 (t151 + 1)) < (l0_5.length : Int) then (gf_shares.l0 k a1 t153 (wrap64 (a1 - t156)) (rd_L3 l0_5 (wrap64 (t151 + 1))) ((rd_L3 l0_5 (wrap64 (t151 + 1))).length : Int) 0) else (none)) else (none))) else ((ca_sum.f k t153).bind fun t163 => (some (t153,wrap64 (a1 - t163)))))) else (none)) else (none)) = some (r1,r2) := H
 have A3 := am A30
 clear A30
 by_cases c4 : 0 ≤ t151
 case neg =>
  rw [if_neg c4] at H
  exact absurd H (by simp)
 rw [if_pos c4] at H
 have c4b0 : decide (0 ≤ t151) = true := decide_eq_true c4
 clear c4
 by_cases c5 : t151 < (l0_5.length : Int)
 case neg =>
  rw [if_neg c5] at H
  exact absurd H (by simp)
 rw [if_pos c5] at H
 have c5b0 : decide (t151 < (l0_5.length : Int)) = true := decide_eq_true c5
 clear c5
 replace H := obm H
 obtain ⟨t153,A60,H⟩ := H
 replace H : (if t151 < 40 then ((gf_out.f l0_0 a0_1 l0_2 a0_3 a0_4 l0_5 t151).bind fun t156 => (if 0 ≤ (wrap64 (t151 + 1)) then (if (wrap64 (t151 + 1)) < (l0_5.length : Int) then (gf_shares.l0 k a1 t153 (wrap64 (a1 - t156)) (rd_L3 l0_5 (wrap64 (t151 + 1))) ((rd_L3 l0_5 (wrap64 (t151 + 1))).length : Int) 0) else (none)) else (none))) else ((ca_sum.f k t153).bind fun t163 => (some (t153,wrap64 (a1 - t163))))) = some (r1,r2) := H
 have A6 := am A60
 clear A60
 by_cases c7 : t151 < 40
 case neg =>
  rw [if_neg c7] at H
  have c7b0 : decide (t151 < 40) = false := decide_eq_false c7
  clear c7
  replace H := obm H
  obtain ⟨t163,A310,H⟩ := H
  replace H : (some (t153,wrap64 (a1 - t163))) = some (r1,r2) := H
  have A31 := am A310
  clear A310
  simp only [Option.some.injEq,Prod.mk.injEq] at H
  obtain ⟨rfl,rfl⟩ := H
  go_enter Tryz.func60,Tryz.ntmps60
  go_wp2_with (first | ((refine gate_dst (N := 2) rfl ?_);refine box_event rfl (N := 2) rfl (cs := #[.slice A0_0 l0_0.length c0_0,.int .i64 a0_1,.slice A0_2 l0_2.length c0_2,.int .i64 a0_3,.int .i64 a0_4,.slice A0_5 l0_5.length c0_5]) (t := 99) ?hr ?_;(case hr => go_simp;try rfl);intro gb150 hg w32 hbox hb;have BK150 := am (hbox);have GW150 := am (ge_new (HB.out) hg);have GE150 := am (ge_new (HB.out) hg);replace HB := am (below_step (HB.out) hb);clear hb hbox hg;obtain ⟨hcz33_0,hcz33_1,hcz33_2,hcz33_3,hcz33_4,hcz33_5⟩ := cO6 BK150.out) | ((with_reducible refine gate_callee (f := 67) rfl ?_);refine goesL_ (some 14) rfl rfl Tryz.func67 (by kernel_rfl) rfl #[.agg #[.slice A0_0 l0_0.length c0_0,.int .i64 a0_1,.slice A0_2 l0_2.length c0_2,.int .i64 a0_3,.int .i64 a0_4,.slice A0_5 l0_5.length c0_5],.int .i64 a1] rfl (by (try simp only [List.map_toArray,List.map_cons,List.map_nil]);first | done | rfl | (simp only [List.length_drop,List.length_take];rfl)) ?_;(refine (gf_level.calls _ _ l0_0 a0_1 _ _ l0_2 a0_3 a0_4 _ _ l0_5 a1 t151 _ ?side1 ?side2 ?side3 ?side4 ?side5 ?side6 A3.out).mono ?_);(case side1 => exact kC HR0_0.out HB.out);(case side2 => exact HC0_0.out);(case side3 => exact kC HR0_2.out HB.out);(case side4 => exact HC0_2.out);(case side5 => exact kC HR0_5.out HB.out);(case side6 => exact HC0_5.out);rintro e w34 ⟨rfl,hb⟩;refine ⟨_,rfl,?_⟩;replace BK150 := (kmv hb BK150);replace HB := am (below_step (HB.out) hb);(try clear hb);(try clear hb2);(try clear hk);(try clear hi);obtain ⟨hcz35_0,hcz35_1,hcz35_2,hcz35_3,hcz35_4,hcz35_5⟩ := cO6 BK150.out;have p152 : 0 ≤ (t151 : Int) := of_decide_eq_true (by assumption);have q152 : t151 < (l0_5.length : Int) := of_decide_eq_true (by assumption);obtain ⟨ad152,A152_0,c152_0,e152,hx152_0,hl152_0,hi152_0⟩ := at_L3 HR0_5.out t151 p152 q152;cases e152;replace hx152_0 := (HB.out.cell (wbl hx152_0)).trans hx152_0;have HR152_0 := am hi152_0;have HC152_0 := am hl152_0;clear hi152_0 hl152_0;replace p152 := eq_true p152;replace q152 := eq_true q152) | ((with_reducible refine gate_callee (f := 98) rfl ?_);refine goesL_ (some 20) rfl rfl Tryz.func98 (by kernel_rfl) rfl #[.slice A152_0 (rd_L3 l0_5 t151).length c152_0] rfl (by (try simp only [List.map_toArray,List.map_cons,List.map_nil]);first | done | rfl | (simp only [List.length_drop,List.length_take];rfl)) ?_;(refine (sl_Clone_int.calls _ _ (rd_L3 l0_5 t151) t153 _ ?side1 ?side2 A6.out).mono ?_);(case side1 => exact kC HR152_0.out HB.out);(case side2 => exact HC152_0.out);rintro e w36 ⟨v154,rfl,ho0,hb⟩;refine ⟨_,rfl,?_⟩;have HO155 := am (Kd.R_lower ho0 (below_size (HB.out)));replace BK150 := (kmv hb BK150);replace HB := am (below_step (HB.out) hb);(try clear hb);(try clear hb2);(try clear hk);(try clear hi);(try clear ho0);obtain ⟨Ao37,co37,eo37⟩ := Kd.R_slice HO155.out;subst eo37) | ((with_reducible refine gate_callee (f := 100) rfl ?_);refine goesL_ (some 62) rfl rfl Tryz.func100 (by kernel_rfl) rfl #[.slice Ao37 t153.length co37] rfl (by (try simp only [List.map_toArray,List.map_cons,List.map_nil]);first | done | rfl | (simp only [List.length_drop,List.length_take];rfl)) ?_;(refine (ca_sum.calls k _ _ t153 t163 _ ?side1 ?side2 A31.out).mono ?_);(case side1 => repeat (first | exact (Kd.R_reads' HO155.out).2.2 | (with_reducible refine Kd.C_alloc ?_ _) | (with_reducible refine Kd.C_drewN ?_ _) | (with_reducible refine Kd.C_drew ?_)));(case side2 => exact (Kd.R_reads' HO155.out).2.1);rintro e w' ⟨rfl,⟨nd,rfl⟩⟩;refine ⟨_,rfl,?_⟩))
  go_ret2
  exact ⟨_,by first | rfl | (simp [*] <;> rfl),by (with_reducible repeat (first | apply Kd.R_alloc | apply Kd.R_drewN | apply Kd.R_drew));exact HO155.out,pw_below_drewN HB.out _⟩
 rw [if_pos c7] at H
 have c7b0 : decide (t151 < 40) = true := decide_eq_true c7
 clear c7
 replace H := obm H
 obtain ⟨t156,A80,H⟩ := H
 replace H : (if 0 ≤ (wrap64 (t151 + 1)) then (if (wrap64 (t151 + 1)) < (l0_5.length : Int) then (gf_shares.l0 k a1 t153 (wrap64 (a1 - t156)) (rd_L3 l0_5 (wrap64 (t151 + 1))) ((rd_L3 l0_5 (wrap64 (t151 + 1))).length : Int) 0) else (none)) else (none)) = some (r1,r2) := H
 have A8 := am A80
 clear A80
 obtain ⟨ji9,hji9⟩ : ∃ j_ : Int,(wrap64 (t151 + 1)) = j_ := ⟨_,rfl⟩
 replace H : (if 0 ≤ (ji9) then (if (ji9) < (l0_5.length : Int) then (gf_shares.l0 k a1 t153 (wrap64 (a1 - t156)) (rd_L3 l0_5 (ji9)) ((rd_L3 l0_5 (ji9)).length : Int) 0) else (none)) else (none)) = some (r1,r2) := by first | (rw [hji9] at H;exact H) | (simp only [hji9] at H ⊢;exact H)
 (try rw [hji9] at A3)
 (try rw [hji9] at A6)
 (try rw [hji9] at A8)
 have hji9w : (IntKind.i64.wrap (t151 + 1)) = ji9 := (i64_w _).trans hji9
 by_cases c10 : 0 ≤ (ji9)
 case neg =>
  rw [if_neg c10] at H
  exact absurd H (by simp)
 rw [if_pos c10] at H
 have c10b0 : decide (0 ≤ (ji9)) = true := decide_eq_true c10
 clear c10
 by_cases c11 : (ji9) < (l0_5.length : Int)
 case neg =>
  rw [if_neg c11] at H
  exact absurd H (by simp)
 rw [if_pos c11] at H
 have c11b0 : decide ((ji9) < (l0_5.length : Int)) = true := decide_eq_true c11
 clear c11
 replace H' := am H
 go_enter Tryz.func60,Tryz.ntmps60
 go_wp2_with (first | ((refine gate_dst (N := 2) rfl ?_);refine box_event rfl (N := 2) rfl (cs := #[.slice A0_0 l0_0.length c0_0,.int .i64 a0_1,.slice A0_2 l0_2.length c0_2,.int .i64 a0_3,.int .i64 a0_4,.slice A0_5 l0_5.length c0_5]) (t := 99) ?hr ?_;(case hr => go_simp;try rfl);intro gb150 hg w12 hbox hb;have BK150 := am (hbox);have GW150 := am (ge_new (HB.out) hg);have GE150 := am (ge_new (HB.out) hg);replace HB := am (below_step (HB.out) hb);clear hb hbox hg;obtain ⟨hcz13_0,hcz13_1,hcz13_2,hcz13_3,hcz13_4,hcz13_5⟩ := cO6 BK150.out) | ((with_reducible refine gate_callee (f := 67) rfl ?_);refine goesL_ (some 14) rfl rfl Tryz.func67 (by kernel_rfl) rfl #[.agg #[.slice A0_0 l0_0.length c0_0,.int .i64 a0_1,.slice A0_2 l0_2.length c0_2,.int .i64 a0_3,.int .i64 a0_4,.slice A0_5 l0_5.length c0_5],.int .i64 a1] rfl (by (try simp only [List.map_toArray,List.map_cons,List.map_nil]);first | done | rfl | (simp only [List.length_drop,List.length_take];rfl)) ?_;(refine (gf_level.calls _ _ l0_0 a0_1 _ _ l0_2 a0_3 a0_4 _ _ l0_5 a1 t151 _ ?side1 ?side2 ?side3 ?side4 ?side5 ?side6 A3.out).mono ?_);(case side1 => exact kC HR0_0.out HB.out);(case side2 => exact HC0_0.out);(case side3 => exact kC HR0_2.out HB.out);(case side4 => exact HC0_2.out);(case side5 => exact kC HR0_5.out HB.out);(case side6 => exact HC0_5.out);rintro e w14 ⟨rfl,hb⟩;refine ⟨_,rfl,?_⟩;replace BK150 := (kmv hb BK150);replace HB := am (below_step (HB.out) hb);(try clear hb);(try clear hb2);(try clear hk);(try clear hi);obtain ⟨hcz15_0,hcz15_1,hcz15_2,hcz15_3,hcz15_4,hcz15_5⟩ := cO6 BK150.out;have p152 : 0 ≤ (t151 : Int) := of_decide_eq_true (by assumption);have q152 : t151 < (l0_5.length : Int) := of_decide_eq_true (by assumption);obtain ⟨ad152,A152_0,c152_0,e152,hx152_0,hl152_0,hi152_0⟩ := at_L3 HR0_5.out t151 p152 q152;cases e152;replace hx152_0 := (HB.out.cell (wbl hx152_0)).trans hx152_0;have HR152_0 := am hi152_0;have HC152_0 := am hl152_0;clear hi152_0 hl152_0;replace p152 := eq_true p152;replace q152 := eq_true q152) | ((with_reducible refine gate_callee (f := 98) rfl ?_);refine goesL_ (some 20) rfl rfl Tryz.func98 (by kernel_rfl) rfl #[.slice A152_0 (rd_L3 l0_5 t151).length c152_0] rfl (by (try simp only [List.map_toArray,List.map_cons,List.map_nil]);first | done | rfl | (simp only [List.length_drop,List.length_take];rfl)) ?_;(refine (sl_Clone_int.calls _ _ (rd_L3 l0_5 t151) t153 _ ?side1 ?side2 A6.out).mono ?_);(case side1 => exact kC HR152_0.out HB.out);(case side2 => exact HC152_0.out);rintro e w16 ⟨v154,rfl,ho0,hb⟩;refine ⟨_,rfl,?_⟩;have HO155 := am (Kd.R_lower ho0 (below_size (HB.out)));replace BK150 := (kmv hb BK150);replace HB := am (below_step (HB.out) hb);(try clear hb);(try clear hb2);(try clear hk);(try clear hi);(try clear ho0);obtain ⟨hcz17_0,hcz17_1,hcz17_2,hcz17_3,hcz17_4,hcz17_5⟩ := cO6 BK150.out) | ((with_reducible refine gate_callee (f := 99) rfl ?_);refine goesL_ (some 26) rfl rfl Tryz.func99 (by kernel_rfl) rfl #[.agg #[.slice A0_0 l0_0.length c0_0,.int .i64 a0_1,.slice A0_2 l0_2.length c0_2,.int .i64 a0_3,.int .i64 a0_4,.slice (some ad152) l0_5.length c0_5],.int .i64 t151] rfl (by (try simp only [List.map_toArray,List.map_cons,List.map_nil]);first | done | rfl | (simp only [List.length_drop,List.length_take];rfl)) ?_;(refine (gf_out.calls _ _ l0_0 a0_1 _ _ l0_2 a0_3 a0_4 _ _ l0_5 t151 t156 _ ?side1 ?side2 ?side3 ?side4 ?side5 ?side6 A8.out).mono ?_);(case side1 => exact kC HR0_0.out HB.out);(case side2 => exact HC0_0.out);(case side3 => exact kC HR0_2.out HB.out);(case side4 => exact HC0_2.out);(case side5 => exact kC HR0_5.out HB.out);(case side6 => exact HC0_5.out);rintro e w18 ⟨rfl,hb⟩;refine ⟨_,rfl,?_⟩;replace HO155 := am (Kd.R_below HO155.out hb);replace BK150 := (kmv hb BK150);replace HB := am (below_step (HB.out) hb);(try clear hb);(try clear hb2);(try clear hk);(try clear hi);obtain ⟨hcz19_0,hcz19_1,hcz19_2,hcz19_3,hcz19_4,hcz19_5⟩ := cO6 BK150.out;have p157 : 0 ≤ ((ji9) : Int) := of_decide_eq_true (by assumption);have q157 : (ji9) < (l0_5.length : Int) := of_decide_eq_true (by assumption);obtain ⟨ad157,A157_0,c157_0,e157,hx157_0,hl157_0,hi157_0⟩ := at_L3 HR0_5.out (ji9) p157 q157;obtain rfl : ad152 = ad157 := (by injection e157);replace hx157_0 := (HB.out.cell (wbl hx157_0)).trans hx157_0;have HR157_0 := am hi157_0;have HC157_0 := am hl157_0;clear hi157_0 hl157_0;replace p157 := eq_true p157;replace q157 := eq_true q157))
 go_loopg [8,35] k (fun kq v8 v35 w' => ∃ (x7_1 : List Int) (x8_1 : Int) (x35_1 : Int),v8 = .int .i64 x8_1 ∧ v35 = .int .i64 x35_1 ∧ Aside0 (gf_shares.l0 kq a1 x7_1 x8_1 (rd_L3 l0_5 (ji9)) ((rd_L3 l0_5 (ji9)).length : Int) x35_1 = some (r1,r2)) ∧ Aside0 (kq ≤ k) ∧ Aside0 (Kd.R (Kd.int .i64) 3 w' w.heap.size (fun _ => True) v154 x7_1) ∧ Aside0 (w'.heap[gb150]? = some (.cells #[(.slice A0_0 l0_0.length c0_0),.int .i64 a0_1,(.slice A0_2 l0_2.length c0_2),.int .i64 a0_3,.int .i64 a0_4,(.slice (some ad152) l0_5.length c0_5)] 99 (0,0))) ∧ Aside0 (Below w.heap.size w w'))
 case atStart => exact ⟨(t153),(wrap64 (a1 - t156)),(0),(by first | rfl | (simp;done) | (simp [*];done)),(by first | rfl | (simp;done) | (simp [*];done)),H',⟨Nat.le_refl _⟩,⟨by (with_reducible repeat (first | apply Kd.R_alloc | apply Kd.R_drewN | apply Kd.R_drew));exact HO155.out⟩,⟨BK150.out⟩,⟨HB.out⟩⟩
 case round =>
  clear H'
  obtain ⟨x7_1,x8_1,x35_1,rfl,rfl,HA,HK1,HO_7,BK150,HB⟩ := hrel
  cases gk with
  | zero => exact absurd HA.out (by simp [gf_shares.l0])
  | succ k1 =>
   have H := HA.out
   clear HA
   simp only [gf_shares.l0] at H
   by_cases c20 : x35_1 < ((rd_L3 l0_5 (ji9)).length : Int)
   case neg =>
    rw [if_neg c20] at H
    have c20b0 : decide (x35_1 < ((rd_L3 l0_5 (ji9)).length : Int)) = false := decide_eq_false c20
    clear c20
    replace H := obm H
    obtain ⟨t162,A290,H⟩ := H
    replace H : (some (x7_1,wrap64 (a1 - t162))) = some (r1,r2) := H
    have A29 := am A290
    clear A290
    simp only [Option.some.injEq,Prod.mk.injEq] at H
    obtain ⟨rfl,rfl⟩ := H
    obtain ⟨Ao30,co30,eo30⟩ := Kd.R_slice HO_7.out
    subst eo30
    go_wp2_with (first | ((with_reducible refine gate_callee (f := 100) rfl ?_);refine goesL_ (some 62) rfl rfl Tryz.func100 (by kernel_rfl) rfl #[.slice Ao30 x7_1.length co30] rfl (by (try simp only [List.map_toArray,List.map_cons,List.map_nil]);first | done | rfl | (simp only [List.length_drop,List.length_take];rfl)) ?_;(refine (ca_sum.calls k1 _ _ x7_1 t162 _ ?side1 ?side2 A29.out).mono ?_);(case side1 => repeat (first | exact (Kd.R_reads' HO_7.out).2.2 | (with_reducible refine Kd.C_alloc ?_ _) | (with_reducible refine Kd.C_drewN ?_ _) | (with_reducible refine Kd.C_drew ?_)));(case side2 => exact (Kd.R_reads' HO_7.out).2.1);rintro e w' ⟨rfl,⟨nd,rfl⟩⟩;refine ⟨_,rfl,?_⟩))
    go_ret2
    exact ⟨_,by first | rfl | (simp [errW_none,errW_some] <;> rfl) | (simp only [← hji9];first | rfl | (simp [errW_none,errW_some] <;> rfl)) | (simp [*,errW_none,errW_some] <;> rfl),by (with_reducible repeat (first | apply Kd.R_alloc | apply Kd.R_drewN | apply Kd.R_drew));exact HO_7.out,pw_below_drewN HB.out _⟩
   rw [if_pos c20] at H
   have c20b0 : decide (x35_1 < ((rd_L3 l0_5 (ji9)).length : Int)) = true := decide_eq_true c20
   clear c20
   by_cases c21 : 0 ≤ x35_1
   case neg =>
    rw [if_neg c21] at H
    exact absurd H (by simp)
   rw [if_pos c21] at H
   have c21b0 : decide (0 ≤ x35_1) = true := decide_eq_true c21
   clear c21
   by_cases c22 : x35_1 < ((rd_L3 l0_5 (ji9)).length : Int)
   case neg =>
    rw [if_neg c22] at H
    exact absurd H (by simp)
   rw [if_pos c22] at H
   have c22b0 : decide (x35_1 < ((rd_L3 l0_5 (ji9)).length : Int)) = true := decide_eq_true c22
   clear c22
   by_cases c23 : x35_1 < (x7_1.length : Int)
   case neg =>
    rw [if_neg c23] at H
    exact absurd H (by simp)
   rw [if_pos c23] at H
   have c23b0 : decide (x35_1 < (x7_1.length : Int)) = true := decide_eq_true c23
   clear c23
   obtain ⟨ji24,hji24⟩ : ∃ j_ : Int,(mn x8_1 (wrap64 ((rd (rd_L3 l0_5 (ji9)) x35_1) - (rd x7_1 x35_1)))) = j_ := ⟨_,rfl⟩
   replace H : (gf_shares.l0 k1 a1 (x7_1.set (x35_1 : Int).toNat (wrap64 ((rd x7_1 x35_1) + (ji24)))) (wrap64 (x8_1 - (ji24))) (rd_L3 l0_5 (ji9)) ((rd_L3 l0_5 (ji9)).length : Int) (wrap64 (x35_1 + 1))) = some (r1,r2) := by first | (rw [hji24] at H;exact H) | (simp only [hji24] at H ⊢;exact H)
   have hji24_ : (if (wrap64 ((rd (rd_L3 l0_5 (ji9)) x35_1) - (rd x7_1 x35_1))) < x8_1 then (wrap64 ((rd (rd_L3 l0_5 (ji9)) x35_1) - (rd x7_1 x35_1))) else x8_1) = ji24 := hji24
   obtain ⟨y161,hy161⟩ : ∃ y_ : List Int,y_ = (x7_1.set (x35_1 : Int).toNat (wrap64 ((rd x7_1 x35_1) + (ji24)))) := ⟨_,rfl⟩
   replace H : (gf_shares.l0 k1 a1 y161 (wrap64 (x8_1 - (ji24))) (rd_L3 l0_5 (ji9)) ((rd_L3 l0_5 (ji9)).length : Int) (wrap64 (x35_1 + 1))) = some (r1,r2) := by first | (rw [hy161];with_reducible exact H) | (have H2_ := (Option.bind_some _ _).symm.trans H;rw [hy161];with_reducible exact H2_) | (have H2_ := (Option.bind_some _ _).symm.trans H;with_reducible exact H2_) | with_reducible exact H | (rw [hy161];exact H) | exact H
   have Ny161 := am hy161
   clear hy161
   replace H' := am H
   have p158 : 0 ≤ (x35_1 : Int) := of_decide_eq_true (by assumption)
   have q158 : x35_1 < ((rd_L3 l0_5 (ji9)).length : Int) := of_decide_eq_true (by assumption)
   obtain ⟨ad158,e158,hx158_0⟩ := Kd.at_int HR157_0.out x35_1 p158 q158
   cases e158
   replace hx158_0 := (HB.out.cell (wbl hx158_0)).trans hx158_0
   replace p158 := eq_true p158
   replace q158 := eq_true q158
   obtain ⟨Ao26,co26,eo26⟩ := Kd.R_slice HO_7.out
   subst eo26
   have p159 : 0 ≤ (x35_1 : Int) := of_decide_eq_true (by assumption)
   have q159 : x35_1 < (x7_1.length : Int) := of_decide_eq_true (by assumption)
   obtain ⟨ad159,e159,hx159_0⟩ := Kd.at_int (Kd.R_reads' HO_7.out).2.2 x35_1 p159 q159
   cases e159
   replace p159 := eq_true p159
   replace q159 := eq_true q159
   have p160 : 0 ≤ (x35_1 : Int) := of_decide_eq_true (by assumption)
   have q160 : x35_1 < (x7_1.length : Int) := of_decide_eq_true (by assumption)
   obtain ⟨ad160,e160,hx160_0⟩ := Kd.at_int (Kd.R_reads' HO_7.out).2.2 x35_1 p160 q160
   obtain rfl : ad159 = ad160 := (by injection e160)
   replace p160 := eq_true p160
   replace q160 := eq_true q160
   have p25 : 0 ≤ (x35_1 : Int) := of_decide_eq_true (by assumption)
   have q25 : (x35_1 : Int) < ((x7_1.length : Int) : Int) := of_decide_eq_true (by assumption)
   obtain ⟨go25,co25,eo25,gb25,gl25,cl25,HG25⟩ := Kd.R_form HO_7.out (by omega)
   (first | cases eo25 | (injection eo25 with ea_ en_ ec_;(first | subst ea_ | (injection ea_ with ea_;subst ea_));subst ec_;clear en_))
   have GB25 := am gb25
   have GG25 := am HG25
   clear gb25 gl25 HG25
   (first | simp only [add_plain] at hx159_0 | skip)
   (first | simp only [add_plain] at hx160_0 | skip)
   obtain ⟨hx25_0,hf25_0⟩ := Kd.R_celln 0 HO_7.out (x35_1 : Int) p25 q25
   replace p25 := eq_true p25
   replace q25 := eq_true q25
   have HP27 := Kd.R_putg HO_7.out (x35_1 : Int) (wrap64 ((rd x7_1 x35_1) + (ji24)))
   go_wp2_with (first | ((with_reducible refine gate_store (t := 3) (p := 54) rfl ?_);refine store_event (t := 3) (p := 54) (v := ?vo_w28) (w1 := (wr.setCell ⟨go25,(x35_1 : Int).toNat,none⟩ (.int .i64 (wrap64 ((rd x7_1 x35_1) + (ji24)))))) ?hg ?ho ?hn ?hr ?_;(case ho => rfl);(case hg => rfl);(case hn => rfl);(case hr => go_simp;try rfl);intro w28 hw;have hg : wr.grownBy w28 (some go25) := (by rw [hw];exact HP27.2);have hp_ : Kd.R (Kd.int .i64) 3 w28 w.heap.size (fun _ => True) (.slice (some ⟨go25,0,none⟩) x7_1.length co26) y161 := (by rw [hw,Ny161.out];exact HP27.1);clear HP27;have n0_ := am (hp_);have n1_ := am (blk_grown (g := gb150) (o := .cells #[.slice A0_0 l0_0.length c0_0,.int .i64 a0_1,.slice A0_2 l0_2.length c0_2,.int .i64 a0_3,.int .i64 a0_4,.slice (some ad152) l0_5.length c0_5] 99 (0,0)) BK150.out hg (Kd.R_ne HO_7.out BK150.out (by decide)));have n2_ := am ((by rw [hw];exact below_set (HB.out) GB25.out : Below w.heap.size w w28));clear HO_7;clear BK150;clear HB;have HO_7 := n0_;have BK150 := n1_;have HB := n2_;clear n0_ n1_ n2_;clear hg hw hp_))
   go_roundg k1
   case measure => have := HK1.out;omega
   case rel => exact ⟨(y161),(wrap64 (x8_1 - (ji24))),(wrap64 (x35_1 + 1)),(by first | rfl | (simp;done) | (simp only [← hji24] <;> (first | rfl | simp)) | (simp [*];done)),(by first | rfl | (simp;done) | (simp [*];done)),H',⟨by have := HK1.out;omega⟩,⟨by (with_reducible repeat (first | apply Kd.R_alloc | apply Kd.R_drewN | apply Kd.R_drew));exact HO_7.out⟩,⟨BK150.out⟩,⟨HB.out⟩⟩
def ca_changed.f (l0_0 : List (S126)) (a0_1 : Int) (l0_2 : List (S64)) (a0_3 : Int) (a0_4 : Int) (a1_0 : Int) (a1_1 : Int) : Option ((List (S64))) := (sl_Clone_Z.f l0_2).bind fun t285 => (if 0 ≤ a1_0 then (if a1_0 < (t285.length : Int) then (some (t285.set (a1_0 : Int).toNat (⟨(rd_T64 t285 a1_0).f0,a1_1⟩ : S64))) else (none)) else (none))
theorem ca_changed.calls (A0_0 : Option Addr) (c0_0 : Nat) (l0_0 : List (S126)) (a0_1 : Int) (A0_2 : Option Addr) (c0_2 : Nat) (l0_2 : List (S64)) (a0_3 : Int) (a0_4 : Int) (a1_0 : Int) (a1_1 : Int) (r : List (S64)) (w : World) (hr0_0 : Kd.C k126 w A0_0 l0_0.length l0_0) (hc0_0 : l0_0.length ≤ c0_0) (hr0_2 : Kd.C k64 w A0_2 l0_2.length l0_2) (hc0_2 : l0_2.length ≤ c0_2) (h : ca_changed.f l0_0 a0_1 l0_2 a0_3 a0_4 a1_0 a1_1 = some r) :
 Calls Tryz.prog 74 #[.agg #[.slice A0_0 l0_0.length c0_0,.int .i64 a0_1,.slice A0_2 l0_2.length c0_2,.int .i64 a0_3,.int .i64 a0_4],.agg #[.int .i64 a1_0,.int .i64 a1_1]] w fun e w' => ∃ v0_ : Value,e = .returned (.agg #[.slice A0_0 l0_0.length c0_0,.int .i64 a0_1,v0_,.int .i64 a0_3,.int .i64 a0_4]) ∧ Kd.R k64 64 w' w.heap.size (fun _ => True) v0_ r ∧ Below w.heap.size w w' := by
 have hu27 := Tryz.underlying27
 have hu58 := Tryz.underlying58
 have HR0_0 := am hr0_0
 have HC0_0 := am hc0_0
 clear hr0_0 hc0_0
 have HR0_2 := am hr0_2
 have HC0_2 := am hc0_2
 clear hr0_2 hc0_2
 have HB := am (Below.refl w.heap.size w)
 have H : ((sl_Clone_Z.f l0_2).bind fun t285 => (if 0 ≤ a1_0 then (if a1_0 < (t285.length : Int) then (some (t285.set (a1_0 : Int).toNat (⟨(rd_T64 t285 a1_0).f0,a1_1⟩ : S64))) else (none)) else (none))) = some r := h
 clear h
 replace H := obm H
 obtain ⟨t285,A30,H⟩ := H
 replace H : (if 0 ≤ a1_0 then (if a1_0 < (t285.length : Int) then (some (t285.set (a1_0 : Int).toNat (⟨(rd_T64 t285 a1_0).f0,a1_1⟩ : S64))) else (none)) else (none)) = some r := H
 have A3 := am A30
 clear A30
 by_cases c4 : 0 ≤ a1_0
 case neg =>
  rw [if_neg c4] at H
  exact absurd H (by simp)
 rw [if_pos c4] at H
 have c4b0 : decide (0 ≤ a1_0) = true := decide_eq_true c4
 clear c4
 by_cases c5 : a1_0 < (t285.length : Int)
 case neg =>
  rw [if_neg c5] at H
  exact absurd H (by simp)
 rw [if_pos c5] at H
 have c5b0 : decide (a1_0 < (t285.length : Int)) = true := decide_eq_true c5
 clear c5
 obtain ⟨y288,hy288⟩ : ∃ y_ : List (S64),y_ = (t285.set (a1_0 : Int).toNat (⟨(rd_T64 t285 a1_0).f0,a1_1⟩ : S64)) := ⟨_,rfl⟩
 replace H : (some y288) = some r := by first | (rw [hy288];with_reducible exact H) | (have H2_ := (Option.bind_some _ _).symm.trans H;rw [hy288];with_reducible exact H2_) | (have H2_ := (Option.bind_some _ _).symm.trans H;with_reducible exact H2_) | with_reducible exact H | (rw [hy288];exact H) | exact H
 have Ny288 := am hy288
 clear hy288
 obtain rfl := Option.some.inj H
 go_enter Tryz.func74,Tryz.ntmps74
 go_wp2_with (first | ((refine gate_dst (N := 2) rfl ?_);refine box_event rfl (N := 2) rfl (cs := #[.slice A0_0 l0_0.length c0_0,.int .i64 a0_1,.slice A0_2 l0_2.length c0_2,.int .i64 a0_3,.int .i64 a0_4]) (t := 27) ?hr ?_;(case hr => go_simp;try rfl);intro gb282 hg w7 hbox hb;have BK282 := am (hbox);have GW282 := am (ge_new (HB.out) hg);have GE282 := am (ge_new (HB.out) hg);replace HB := am (below_step (HB.out) hb);clear hb hbox hg) | ((refine gate_dst (N := 3) rfl ?_);refine box_event rfl (N := 3) rfl (cs := #[.int .i64 a1_0,.int .i64 a1_1]) (t := 58) ?hr ?_;(case hr => go_simp;try rfl);intro gb283 hg w8 hbox hb;have BK283 := am (hbox);have GW283 := am (ge_new (HB.out) hg);have GE283 := am (ge_new (HB.out) hg);have NB282_283 := am (ne_new BK282.out hg);have NB283_282 := am (ne_new2 BK282.out hg);replace BK282 := (kmv hb BK282);replace HB := am (below_step (HB.out) hb);clear hb hbox hg) | ((refine gate_dst (N := 4) rfl ?_);refine box_event rfl (N := 4) rfl (cs := #[.slice none 0 0,.int .i64 0,.slice none 0 0,.int .i64 0,.int .i64 0]) (t := 27) ?hr ?_;(case hr => go_simp;try rfl);intro gb284 hg w9 hbox hb;have BK284 := am (hbox);have GW284 := am (ge_new (HB.out) hg);have GE284 := am (ge_new (HB.out) hg);have NB282_284 := am (ne_new BK282.out hg);have NB284_282 := am (ne_new2 BK282.out hg);have NB283_284 := am (ne_new BK283.out hg);have NB284_283 := am (ne_new2 BK283.out hg);replace BK282 := (kmv hb BK282);replace BK283 := (kmv hb BK283);replace HB := am (below_step (HB.out) hb);clear hb hbox hg;have hnb10 := NB282_283.out;have hnc10 := NB283_282.out;have hnb11 := NB282_284.out;have hnc11 := NB284_282.out;obtain ⟨hcz12_0,hcz12_1,hcz12_2,hcz12_3,hcz12_4⟩ := cO5 BK282.out;have hfz12_0 := blk_frozen BK282.out 0;have hfz12_1 := blk_frozen BK282.out 1;have hfz12_2 := blk_frozen BK282.out 2;have hfz12_3 := blk_frozen BK282.out 3;have hfz12_4 := blk_frozen BK282.out 4) | ((with_reducible refine gate_callee (f := 103) rfl ?_);refine goesL_ (some 7) rfl rfl Tryz.func103 (by kernel_rfl) rfl #[.slice A0_2 l0_2.length c0_2] rfl (by (try simp only [List.map_toArray,List.map_cons,List.map_nil]);first | done | rfl | (simp only [List.length_drop,List.length_take];rfl)) ?_;(refine (sl_Clone_Z.calls _ _ l0_2 t285 _ ?side1 ?side2 A3.out).mono ?_);(case side1 => exact kC HR0_2.out HB.out);(case side2 => exact HC0_2.out);rintro e w13 ⟨v286,rfl,ho0,hb⟩;refine ⟨_,rfl,?_⟩;have HO287 := am (Kd.R_lower ho0 (below_size (HB.out)));replace BK282 := (kmv hb BK282);replace BK283 := (kmv hb BK283);replace BK284 := (kmv hb BK284);replace HB := am (below_step (HB.out) hb);(try clear hb);(try clear hb2);(try clear hk);(try clear hi);(try clear ho0);obtain ⟨Ao14,co14,eo14⟩ := Kd.R_slice HO287.out;subst eo14;obtain ⟨hcz15_0,hcz15_1,hcz15_2,hcz15_3,hcz15_4⟩ := cO5 BK282.out;have hfz15_0 := blk_frozen BK282.out 0;have hfz15_1 := blk_frozen BK282.out 1;have hfz15_2 := blk_frozen BK282.out 2;have hfz15_3 := blk_frozen BK282.out 3;have hfz15_4 := blk_frozen BK282.out 4) | ((with_reducible refine gate_store (t := 25) (p := 8) rfl ?_);refine store_event (t := 25) (p := 8) (v := ?vo_w16) (w1 := (w13.setCell ⟨gb282,2,none⟩ (.slice Ao14 t285.length co14))) ?hg ?ho ?hn ?hr ?_;(case ho => rfl);(case hg => rfl);(case hn => rfl);(case hr => go_simp;try rfl);intro w16 hw;have n0_ : Aside0 (Kd.R k64 64 w16 w.heap.size (fun _ => True) (.slice Ao14 t285.length co14) t285) := ⟨(by rw [hw];exact (Kd.R_mono (Kd.R_far (p := ⟨gb282,2,none⟩) (Kd.R_types HO287.out BK282.out (by decide)) (fun _ hk => hk.2) (.slice Ao14 t285.length co14)) (fun _ hk => trivial)))⟩;have n1_ : Aside0 (w16.heap[gb282]? = some (.cells #[.slice A0_0 l0_0.length c0_0,.int .i64 a0_1,.slice Ao14 t285.length co14,.int .i64 a0_3,.int .i64 a0_4] 27 (0,0))) := ⟨(by rw [hw];exact (blk_put (cs := #[.slice A0_0 l0_0.length c0_0,.int .i64 a0_1,.slice A0_2 l0_2.length c0_2,.int .i64 a0_3,.int .i64 a0_4]) BK282.out 2 _ rfl))⟩;have n2_ : Aside0 (w16.heap[gb283]? = some (.cells #[.int .i64 a1_0,.int .i64 a1_1] 58 (0,0))) := ⟨(by rw [hw];exact (blk_far BK283.out NB283_282.out _))⟩;have n3_ : Aside0 (w16.heap[gb284]? = some (.cells #[.slice none 0 0,.int .i64 0,.slice none 0 0,.int .i64 0,.int .i64 0] 27 (0,0))) := ⟨(by rw [hw];exact (blk_far BK284.out NB284_282.out _))⟩;have n4_ : Aside0 (Below w.heap.size w w16) := ⟨(by rw [hw];exact (by repeat (first | (with_reducible first | exact HB.out | refine below_set ?_ (Aside0.out (by assumption)) | apply below_alloc | apply pw_below_drewN) | exact HB.out)))⟩;clear hw;clear HO287;clear BK282;clear BK283;clear BK284;clear HB;have HO287 := n0_;have BK282 := n1_;have BK283 := n2_;have BK284 := n3_;have HB := n4_;clear n0_ n1_ n2_ n3_ n4_;obtain ⟨hcz17_0,hcz17_1,hcz17_2,hcz17_3,hcz17_4⟩ := cO5 BK282.out;have hfz17_0 := blk_frozen BK282.out 0;have hfz17_1 := blk_frozen BK282.out 1;have hfz17_2 := blk_frozen BK282.out 2;have hfz17_3 := blk_frozen BK282.out 3;have hfz17_4 := blk_frozen BK282.out 4;have hnb18 := NB283_284.out;have hnc18 := NB284_283.out;obtain ⟨hcz19_0,hcz19_1⟩ := cO2 BK283.out;have p6 : 0 ≤ (a1_0 : Int) := of_decide_eq_true (by assumption);have q6 : (a1_0 : Int) < ((t285.length : Int) : Int) := of_decide_eq_true (by assumption);obtain ⟨go6,co6,eo6,gb6,gl6,cl6,HG6⟩ := Kd.R_form HO287.out (by omega);(first | cases eo6 | (injection eo6 with ea_ en_ ec_;(first | subst ea_ | (injection ea_ with ea_;subst ea_));subst ec_;clear en_));have GB6 := am gb6;have GG6 := am HG6;clear gb6 gl6 HG6;obtain ⟨ce6,hcl6,hM6,hcc6,hfr6⟩ := Kd.R_elem HO287.out z64 (a1_0 : Int) p6 q6;obtain rfl := k64_openM hM6;have hx6_0 : w16.cell? ⟨go6,(a1_0 : Int).toNat * 2,none⟩ = some (.int .i64 ((rd_T64 t285 a1_0).f0)) := hcc6 0 _ rfl;have hx6_1 : w16.cell? ⟨go6,(a1_0 : Int).toNat * 2 + 1,none⟩ = some (.int .i64 ((rd_T64 t285 a1_0).f1)) := hcc6 1 _ rfl;have hf6_0 : w16.frozen? ⟨go6,(a1_0 : Int).toNat * 2,none⟩ = false := hfr6 0;have hf6_1 : w16.frozen? ⟨go6,(a1_0 : Int).toNat * 2 + 1,none⟩ = false := hfr6 1;clear hcl6 hcc6 hfr6 hM6;replace p6 := eq_true p6;replace q6 := eq_true q6;have HX20 := am (show Kd.R k64 64 w16 w.heap.size (fun _ => True) (.slice (some ⟨go6,0,none⟩) t285.length co14) t285 from HO287.out);obtain ⟨ce20,hcl20,hM20,hcc20,hfr20⟩ := Kd.R_elem HX20.out z64 (a1_0 : Int) (of_decide_eq_true (by assumption)) (by have h_ : (a1_0 : Int) < ((t285.length : Int) : Int) := of_decide_eq_true (by assumption);first | exact h_ | (have e_ := (Kd.R_reads' HO287.out).1;omega) | simpa using h_);obtain rfl := k64_openM hM20;have HP20 := Kd.R_seg HX20.out (a1_0 : Int) (of_decide_eq_true (by assumption)) (by have h_ : (a1_0 : Int) < ((t285.length : Int) : Int) := of_decide_eq_true (by assumption);first | exact h_ | (have e_ := (Kd.R_reads' HO287.out).1;omega) | simpa using h_) (seg := [.int .i64 a1_1]) (j := 1) hcl20 hcc20 (show 2 ≤ 2 from by decide) (x' := (⟨(rd_T64 t285 a1_0).f0,a1_1⟩ : S64)) (k64_mkM _ _ _ (⟨(rd_T64 t285 a1_0).f0,a1_1⟩ : S64) ) (fun _ hk => hk);have hx20_1 := hcc20 1 _ rfl;(try simp only [show (k64).sz = 2 from rfl,Nat.mul_one,Nat.add_zero] at hx20_1);have hf20_1 := hfr20 1;(try simp only [show (k64).sz = 2 from rfl,Nat.mul_one,Nat.add_zero] at hf20_1);clear hcl20 hcc20 hfr20 hM20) | ((with_reducible refine gate_store (t := 3) (p := 16) rfl ?_);refine store_event (t := 3) (p := 16) (v := ?vo_w21) (w1 := (w16.setCell ⟨go6,(a1_0 : Int).toNat * 2 + 1,none⟩ (.int .i64 a1_1))) ?hg ?ho ?hn ?hr ?_;(case ho => rfl);(case hg => rfl);(case hn => rfl);(case hr => go_simp;try rfl);intro w21 hw;have hg : w16.grownBy w21 (some go6) := (by rw [hw];exact HP20.2);have hp_ : Kd.R k64 64 w21 w.heap.size (fun _ => True) (.slice (some ⟨go6,0,none⟩) t285.length co14) y288 := (by rw [hw,Ny288.out];exact HP20.1);clear HP20;replace BK282 := am (blk_grown (g := gb282) (o := .cells #[.slice A0_0 l0_0.length c0_0,.int .i64 a0_1,.slice (some ⟨go6,0,none⟩) t285.length co14,.int .i64 a0_3,.int .i64 a0_4] 27 (0,0)) BK282.out hg (Kd.R_ne HO287.out BK282.out (by decide)));replace BK283 := am (blk_grown (g := gb283) (o := .cells #[.int .i64 a1_0,.int .i64 a1_1] 58 (0,0)) BK283.out hg (Kd.R_ne HO287.out BK283.out (by decide)));replace BK284 := am (blk_grown (g := gb284) (o := .cells #[.slice none 0 0,.int .i64 0,.slice none 0 0,.int .i64 0,.int .i64 0] 27 (0,0)) BK284.out hg (Kd.R_ne HO287.out BK284.out (by decide)));replace HO287 := am (hp_);replace HB := am ((by rw [hw];exact below_set (HB.out) GB6.out : Below w.heap.size w w21));clear hg hw hp_;obtain ⟨hcz22_0,hcz22_1,hcz22_2,hcz22_3,hcz22_4⟩ := cO5 BK282.out;have hfz22_0 := blk_frozen BK282.out 0;have hfz22_1 := blk_frozen BK282.out 1;have hfz22_2 := blk_frozen BK282.out 2;have hfz22_3 := blk_frozen BK282.out 3;have hfz22_4 := blk_frozen BK282.out 4;obtain ⟨hcz23_0,hcz23_1,hcz23_2,hcz23_3,hcz23_4⟩ := cO5 BK284.out;have hfz23_0 := blk_frozen BK284.out 0;have hfz23_1 := blk_frozen BK284.out 1;have hfz23_2 := blk_frozen BK284.out 2;have hfz23_3 := blk_frozen BK284.out 3;have hfz23_4 := blk_frozen BK284.out 4))
 refine bodyPost_ret (results_cell_row rfl _ _ gb284 27 #[.slice A0_0 l0_0.length c0_0,.int .i64 a0_1,.slice (some ⟨go6,0,none⟩) t285.length co14,.int .i64 a0_3,.int .i64 a0_4] (0,0) _ rfl (blk_put (cs := #[.slice A0_0 l0_0.length c0_0,.int .i64 a0_1,.slice (some ⟨go6,0,none⟩) t285.length co14,.int .i64 a0_3,.int .i64 0]) (blk_put (cs := #[.slice A0_0 l0_0.length c0_0,.int .i64 a0_1,.slice (some ⟨go6,0,none⟩) t285.length co14,.int .i64 0,.int .i64 0]) (blk_put (cs := #[.slice A0_0 l0_0.length c0_0,.int .i64 a0_1,.slice none 0 0,.int .i64 0,.int .i64 0]) (blk_put (cs := #[.slice A0_0 l0_0.length c0_0,.int .i64 0,.slice none 0 0,.int .i64 0,.int .i64 0]) (blk_put (cs := #[.slice none 0 0,.int .i64 0,.slice none 0 0,.int .i64 0,.int .i64 0]) BK284.out 0 _ rfl) 1 _ rfl) 2 _ rfl) 3 _ rfl) 4 _ rfl) Tryz.underlying27 rfl (by kernel_rfl)) rfl ?_
 exact ⟨_,by first | rfl | (simp [*] <;> rfl),by (with_reducible repeat (first | apply Kd.R_alloc | apply Kd.R_drewN | apply Kd.R_drew));exact Kd.R_mono (Kd.R_far (p := ⟨gb284,4,none⟩) (Kd.R_far (p := ⟨gb284,3,none⟩) (Kd.R_far (p := ⟨gb284,2,none⟩) (Kd.R_far (p := ⟨gb284,1,none⟩) (Kd.R_far (p := ⟨gb284,0,none⟩) (Kd.R_types HO287.out BK284.out (by decide)) (fun _ hk => hk.2) (.slice A0_0 l0_0.length c0_0)) (fun _ hk => hk.2) (.int .i64 a0_1)) (fun _ hk => hk.2) (.slice (some ⟨go6,0,none⟩) t285.length co14)) (fun _ hk => hk.2) (.int .i64 a0_3)) (fun _ hk => hk.2) (.int .i64 a0_4)) (fun _ hk => trivial),by repeat (first | (with_reducible first | exact HB.out | refine below_set ?_ (Aside0.out (by assumption)) | apply below_alloc | apply pw_below_drewN) | exact HB.out)⟩
end
def Pred_isBasin (g : Nat) (q : S64 → Option Bool) (w : World) (xs : List S64) : Prop := ∀ (x : S64) (b : Bool) (W : World) , x ∈ xs → q x = some b → Below w.heap.size w W → 
 Calls Tryz.prog 94 #[.agg #[.int .i64 x.f0,.int .i64 x.f1],.pointer (some ⟨g,0,none⟩)] W fun e W' => e = .returned (.bool b) ∧ Below W.heap.size W W'
theorem idx_isBasin (g : Nat) (q : S64 → Option Bool) (A : Option Addr) (c : Nat) (xs : List S64) (r : Int) (w : World) (hr : Kd.C k64 w A xs.length xs) (hp : Pred_isBasin g q w xs) (h : idxM q xs 0 = some r) :
 Calls Tryz.prog 116 #[.slice A xs.length c,.func (.func 94) #[] #[.pointer (some ⟨g,0,none⟩)]] w fun e w' => e = .returned (.int .i64 r) ∧ Below w.heap.size w w' := by
 have huE := Tryz.underlying64
 have HR := am hr
 have HP := am hp
 have HQ := am (show idxM q (xs.drop (0 : Int).toNat) 0 = some r from h)
 have hm : xs.length ≤ 9223372036854775807 := Kd.C_max hr
 clear hr hp h
 go_enter Tryz.func116,Tryz.ntmps116
 go_wp2
 go_loopw [5,8] (fun v5 v8 w' => ∃ i : Int,0 ≤ i ∧ i ≤ xs.length ∧ v8 = .int .i64 i ∧ Aside0 (idxM q (xs.drop i.toNat) i = some r) ∧ Aside0 (Below w.heap.size w w')) (fun _ v8 _ => xs.length - (intOf v8).toNat)
 case atStart => exact ⟨0,by omega,by omega,rfl,HQ,⟨Below.refl _ _⟩⟩
 case round =>
  clear HQ
  obtain ⟨i,p1,hi,rfl,HQ,HB⟩ := hrel
  by_cases hlt : i < (xs.length : Int)
  case neg =>
   go_wp2
   go_ret
   exact ⟨ret_int_eq (idxM_end (by omega) HQ.out),HB.out⟩
  obtain ⟨ad,e1,hx0,hx1⟩ := at_T64 HR.out i p1 hlt
  cases e1
  replace hx0 := (HB.out.cell (wbl hx0)).trans hx0
  replace hx1 := (HB.out.cell (wbl hx1)).trans hx1
  rcases idxM_step z64 p1 hlt HQ.out with ⟨hq,he⟩ | ⟨hq,hn⟩
  · have H1 := am hq
    have X1 := am (getD_mem z64 p1 hlt)
    have H2 := am he
    clear hq he
    go_wp2_with (go_at_call 94;refine (HP.out (xs.getD i.toNat z64) _ _ X1.out H1.out HB.out).mono ?_;rintro e W' ⟨rfl,hb⟩)
    go_ret
    exact ⟨ret_int_eq H2.out,below_then HB.out HB.out.size hb⟩
  · have H1 := am hq
    have X1 := am (getD_mem z64 p1 hlt)
    have H2 := am hn
    clear hq hn
    go_wp2_with (go_at_call 94;refine (HP.out (xs.getD i.toNat z64) _ _ X1.out H1.out HB.out).mono ?_;rintro e W' ⟨rfl,hb⟩)
    go_roundw
    case rel => exact ⟨i + 1,by omega,by omega,by go_num,H2,⟨below_then HB.out HB.out.size hb⟩⟩
    case measure => simp [intOf];omega
theorem any_isBasin (g : Nat) (q : S64 → Option Bool) (A : Option Addr) (c : Nat) (xs : List S64) (r : Bool) (w : World) (hr : Kd.C k64 w A xs.length xs) (hp : Pred_isBasin g q w xs) (h : anyM q xs = some r) :
 Calls Tryz.prog 96 #[.slice A xs.length c,.func (.func 94) #[] #[.pointer (some ⟨g,0,none⟩)]] w fun e w' => e = .returned (.bool r) ∧ Below w.heap.size w w' := by
 obtain ⟨j,hj,hd⟩ := idxM_of_anyM q xs 0 r (by omega) h
 have H1 := am hj
 have H2 := am hd
 have HR := am hr
 have HP := am hp
 clear hr hp h hj hd
 go_enter Tryz.func96,Tryz.ntmps96
 go_wp2_with (go_at_call 116;refine (idx_isBasin g q _ _ xs j _ HR.out HP.out H1.out).mono ?_;rintro e W' ⟨rfl,hb⟩)
 go_ret
 exact ⟨ret_bool_eq H2.out,hb⟩
section
attribute [local go_sem] max2_int min2_int max_two min_two
def nz_Check.f (l0_0 : List (S126)) (a0_1 : Int) : Option (Int) := (nz_isTable.f l0_0 a0_1).bind fun t108 => (if t108 = true then (some 0) else (some 2))
theorem nz_Check.calls (A0_0 : Option Addr) (c0_0 : Nat) (l0_0 : List (S126)) (a0_1 : Int) (r : Int) (w : World) (hr0_0 : Kd.C k126 w A0_0 l0_0.length l0_0) (hc0_0 : l0_0.length ≤ c0_0) (h : nz_Check.f l0_0 a0_1 = some r) :
 Calls Tryz.prog 95 #[.agg #[.slice A0_0 l0_0.length c0_0,.int .i64 a0_1]] w fun e w' => e = .returned (.int .i64 r) ∧ Below w.heap.size w w' := by
 have hu24 := Tryz.underlying24
 have HR0_0 := am hr0_0
 have HC0_0 := am hc0_0
 clear hr0_0 hc0_0
 have HB := am (Below.refl w.heap.size w)
 have H : ((nz_isTable.f l0_0 a0_1).bind fun t108 => (if t108 = true then (some 0) else (some 2))) = some r := h
 clear h
 replace H := obm H
 obtain ⟨t108,A20,H⟩ := H
 replace H : (if t108 = true then (some 0) else (some 2)) = some r := H
 have A2 := am A20
 clear A20
 by_cases c3 : t108 = true
 · subst c3
   replace H : (some 0) = some r := by rw [if_pos rfl] at H;exact H
   obtain rfl := Option.some.inj H
   go_enter Tryz.func95,Tryz.ntmps95
   go_wp2_with (first | ((refine gate_dst (N := 1) rfl ?_);refine box_event rfl (N := 1) rfl (cs := #[.slice A0_0 l0_0.length c0_0,.int .i64 a0_1]) (t := 24) ?hr ?_;(case hr => go_simp;try rfl);intro gb107 hg w4 hbox hb;have BK107 := am (hbox);have GW107 := am (ge_new (HB.out) hg);have GE107 := am (ge_new (HB.out) hg);replace HB := am (below_step (HB.out) hb);clear hb hbox hg;obtain ⟨hcz5_0,hcz5_1⟩ := cO2 BK107.out) | ((with_reducible refine gate_callee (f := 115) rfl ?_);refine goesL_ (some 4) rfl rfl Tryz.func115 (by kernel_rfl) rfl #[.agg #[.slice A0_0 l0_0.length c0_0,.int .i64 a0_1]] rfl (by (try simp only [List.map_toArray,List.map_cons,List.map_nil]);first | done | rfl | (simp only [List.length_drop,List.length_take];rfl)) ?_;(refine (nz_isTable.calls _ _ l0_0 a0_1 true _ ?side1 ?side2 A2.out).mono ?_);(case side1 => exact kC HR0_0.out HB.out);(case side2 => exact HC0_0.out);rintro e w6 ⟨rfl,hb⟩;refine ⟨_,rfl,?_⟩;replace BK107 := (kmv hb BK107);replace HB := am (below_step (HB.out) hb);(try clear hb);(try clear hb2);(try clear hk);(try clear hi)))
   go_ret
   exact ⟨by first | rfl | (simp [*] <;> rfl),HB.out⟩
 · replace c3 := Bool.eq_false_iff.mpr c3
   subst c3
   replace H : (some 2) = some r := by rw [if_neg (show ¬ (false = true) by decide)] at H;exact H
   obtain rfl := Option.some.inj H
   go_enter Tryz.func95,Tryz.ntmps95
   go_wp2_with (first | ((refine gate_dst (N := 1) rfl ?_);refine box_event rfl (N := 1) rfl (cs := #[.slice A0_0 l0_0.length c0_0,.int .i64 a0_1]) (t := 24) ?hr ?_;(case hr => go_simp;try rfl);intro gb107 hg w7 hbox hb;have BK107 := am (hbox);have GW107 := am (ge_new (HB.out) hg);have GE107 := am (ge_new (HB.out) hg);replace HB := am (below_step (HB.out) hb);clear hb hbox hg;obtain ⟨hcz8_0,hcz8_1⟩ := cO2 BK107.out) | ((with_reducible refine gate_callee (f := 115) rfl ?_);refine goesL_ (some 4) rfl rfl Tryz.func115 (by kernel_rfl) rfl #[.agg #[.slice A0_0 l0_0.length c0_0,.int .i64 a0_1]] rfl (by (try simp only [List.map_toArray,List.map_cons,List.map_nil]);first | done | rfl | (simp only [List.length_drop,List.length_take];rfl)) ?_;(refine (nz_isTable.calls _ _ l0_0 a0_1 false _ ?side1 ?side2 A2.out).mono ?_);(case side1 => exact kC HR0_0.out HB.out);(case side2 => exact HC0_0.out);rintro e w9 ⟨rfl,hb⟩;refine ⟨_,rfl,?_⟩;replace BK107 := (kmv hb BK107);replace HB := am (below_step (HB.out) hb);(try clear hb);(try clear hb2);(try clear hk);(try clear hi)))
   go_ret
   exact ⟨by first | rfl | (simp [*] <;> rfl),HB.out⟩
end
end Go.Proofs.YticlelgmmonloaaGreatDoor.C

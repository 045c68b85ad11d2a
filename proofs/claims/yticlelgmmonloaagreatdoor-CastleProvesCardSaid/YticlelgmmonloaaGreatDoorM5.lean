/- A part of the proof: the walks of the functions that it reaches. TIGHT. -/
import Derived.Test.YticlelgmmonloaaGreatDoorM4
import Derived.RangeFuncNested
import Derived.RangeFuncBound
import Derived.RangeFuncCalls
import Derived.RangeFuncLeaves
import Derived.Below
import Derived.WideKeyRuns
import Derived.WalkSpells
import Derived.Lib.SliceRun
import Derived.Shelf.Abstract
import Derived.WalkKit
import Derived.OwnWalkIn
import Derived.TacticsInMore
import Derived.LoopNIn
import Derived.LoopIn
import Derived.Shelf.RegionOpen
namespace Go.Proofs.YticlelgmmonloaaGreatDoor.C
open Go.RowKit Go.Proofs.YticlelgmmonloaaGreatDoorW.PrintWords Go.Proofs.YticlelgmmonloaaGreatDoorW.PrintLast Go.Proofs.YticlelgmmonloaaGreatDoorW.PrintMore
set_option linter.unusedVariables false
set_option linter.unusedSimpArgs false
set_option maxHeartbeats 16000000
set_option maxRecDepth 100000
section
attribute [local go_sem] max2_int min2_int max_two min_two
def q4_Proves.f (k : Nat) (l0_0 : List (S126)) (a0_1 : Int) (l0_2 : List (S64)) (a0_3 : Int) (a0_4 : Int) (a1_0 : Int) (a1_1 : Int) : Option (Int × Int × Bool) := (q4_Total.f k l0_0 a0_1 l0_2 a0_3 a0_4 a1_0).bind fun t657 => (if a1_1 < 40 then ((q4_Total.f k l0_0 a0_1 l0_2 a0_3 a0_4 (wrap64 (a1_1 + 1))).bind fun t659 => (some (t657,mn 10000 (wrap64 (t659 - 1)),decide (t657 ≤ (mn 10000 (wrap64 (t659 - 1))))))) else (some (t657,10000,decide (t657 ≤ 10000))))
def q4_Proves.T4 : Bool × List (List Nat × List Nat) := (true,[([],[]),([],[]),([1],[1]),([],[]),([3],[3]),([2,4],[2,4]),([0,0],[0]),([5,6,0,1,2,3,4,5,6],[5])])
def q4_Proves.B4 : List Nat := [0,0,2,0,8,30,1,127]
theorem q4_Proves.tab4 : rtab .any (opsOf Tryz.f32 4) = q4_Proves.T4 := by kernel_rfl
theorem q4_Proves.bits4 : waitsOk q4_Proves.T4.2 q4_Proves.B4 = true := by kernel_rfl
theorem q4_Proves.calls (k : Nat) (A0_0 : Option Addr) (c0_0 : Nat) (l0_0 : List (S126)) (a0_1 : Int) (A0_2 : Option Addr) (c0_2 : Nat) (l0_2 : List (S64)) (a0_3 : Int) (a0_4 : Int) (a1_0 : Int) (a1_1 : Int) (r1 : Int) (r2 : Int) (r3 : Bool) (w : World) (hr0_0 : Kd.C k126 w A0_0 l0_0.length l0_0) (hc0_0 : l0_0.length ≤ c0_0) (hr0_2 : Kd.C k64 w A0_2 l0_2.length l0_2) (hc0_2 : l0_2.length ≤ c0_2) (h : q4_Proves.f k l0_0 a0_1 l0_2 a0_3 a0_4 a1_0 a1_1 = some (r1,r2,r3)) :
 Calls Tryz.prog 32 #[.agg #[.slice A0_0 l0_0.length c0_0,.int .i64 a0_1,.slice A0_2 l0_2.length c0_2,.int .i64 a0_3,.int .i64 a0_4],.agg #[.int .i64 a1_0,.int .i64 a1_1]] w fun e w' => e = .returned (.tuple #[.agg #[.int .i64 r1,.int .i64 r2],.bool r3]) ∧ Below w.heap.size w w' := by
 have hu27 := Tryz.underlying27
 have hu40 := Tryz.underlying40
 have HR0_0 := am hr0_0
 have HC0_0 := am hc0_0
 clear hr0_0 hc0_0
 have HR0_2 := am hr0_2
 have HC0_2 := am hc0_2
 clear hr0_2 hc0_2
 have HB := am (Below.refl w.heap.size w)
 have H : ((q4_Total.f k l0_0 a0_1 l0_2 a0_3 a0_4 a1_0).bind fun t657 => (if a1_1 < 40 then ((q4_Total.f k l0_0 a0_1 l0_2 a0_3 a0_4 (wrap64 (a1_1 + 1))).bind fun t659 => (some (t657,mn 10000 (wrap64 (t659 - 1)),decide (t657 ≤ (mn 10000 (wrap64 (t659 - 1))))))) else (some (t657,10000,decide (t657 ≤ 10000))))) = some (r1,r2,r3) := h
 clear h
 replace H := obm H
 obtain ⟨t657,A30,H⟩ := H
 (try dsimp only at H)
 have A3 := am A30
 clear A30
 by_cases c4 : a1_1 < 40
 case neg =>
  rw [if_neg c4] at H
  have c4b0 : decide (a1_1 < 40) = false := decide_eq_false c4
  clear c4
  simp only [Option.some.injEq,Prod.mk.injEq] at H
  obtain ⟨rfl,rfl,rfl⟩ := H
  go_enter Tryz.func32,Tryz.ntmps32
  try go_wp2_with (first | ((refine gate_dst (N := 2) rfl ?_);refine box_event rfl (N := 2) rfl (cs := #[.slice A0_0 l0_0.length c0_0,.int .i64 a0_1,.slice A0_2 l0_2.length c0_2,.int .i64 a0_3,.int .i64 a0_4]) (t := 27) ?hr ?_;(case hr => go_simp;try rfl);intro gb654 hg w29 hbox hb;have BK654 := am (hbox);have GE654 := am (ge_new (HB.out) hg);replace HB := am (below_step (HB.out) hb);clear hb hbox hg) | ((refine gate_dst (N := 3) rfl ?_);refine box_event rfl (N := 3) rfl (cs := #[.int .i64 a1_0,.int .i64 a1_1]) (t := 40) ?hr ?_;(case hr => go_simp;try rfl);intro gb655 hg w30 hbox hb;have BK655 := am (hbox);have GE655 := am (ge_new (HB.out) hg);have NB654_655 := am (ne_new BK654.out hg);have NB655_654 := am (ne_new2 BK654.out hg);replace BK654 := (kmv hb BK654);replace HB := am (below_step (HB.out) hb);clear hb hbox hg) | ((refine gate_dst (N := 4) rfl ?_);refine box_event rfl (N := 4) rfl (cs := #[.int .i64 0,.int .i64 0]) (t := 40) ?hr ?_;(case hr => go_simp;try rfl);intro gb656 hg w31 hbox hb;have BK656 := am (hbox);have GE656 := am (ge_new (HB.out) hg);have NB654_656 := am (ne_new BK654.out hg);have NB656_654 := am (ne_new2 BK654.out hg);have NB655_656 := am (ne_new BK655.out hg);have NB656_655 := am (ne_new2 BK655.out hg);replace BK654 := (kmv hb BK654);replace BK655 := (kmv hb BK655);replace HB := am (below_step (HB.out) hb);clear hb hbox hg;have hnb32 := NB654_655.out;have hnc32 := NB655_654.out;have hnb33 := NB654_656.out;have hnc33 := NB656_654.out;obtain ⟨hcz34_0,hcz34_1,hcz34_2,hcz34_3,hcz34_4⟩ := cO5 BK654.out;have hnb35 := NB655_656.out;have hnc35 := NB656_655.out;obtain ⟨hcz36_0,hcz36_1⟩ := cO2 BK655.out) | ((with_reducible refine gate_callee (f := 64) rfl ?_);refine goesL_ (some 10) rfl rfl Tryz.func64 (by kernel_rfl) rfl #[.agg #[.slice A0_0 l0_0.length c0_0,.int .i64 a0_1,.slice A0_2 l0_2.length c0_2,.int .i64 a0_3,.int .i64 a0_4],.int .i64 a1_0] rfl (by (try simp only [List.map_toArray,List.map_cons,List.map_nil]);first | done | rfl | (simp only [List.length_drop,List.length_take];rfl)) ?_;(refine (q4_Total.calls k _ _ l0_0 a0_1 _ _ l0_2 a0_3 a0_4 a1_0 t657 _ ?side1 ?side2 ?side3 ?side4 A3.out).mono ?_);(case side1 => exact kC HR0_0.out HB.out);(case side2 => exact HC0_0.out);(case side3 => exact kC HR0_2.out HB.out);(case side4 => exact HC0_2.out);rintro e w37 ⟨rfl,hb⟩;refine ⟨_,rfl,?_⟩;replace BK654 := (kmv hb BK654);replace BK655 := (kmv hb BK655);replace BK656 := (kmv hb BK656);replace HB := am (below_step (HB.out) hb);(try clear hb);(try clear hb2);(try clear hk);(try clear hi)) | ((refine gate_dst (N := 6) rfl ?_);refine box_event rfl (N := 6) rfl (cs := #[.int .i64 0,.int .i64 0]) (t := 40) ?hr ?_;(case hr => go_simp;try rfl);intro gb658 hg w38 hbox hb;have BK658 := am (hbox);have GE658 := am (ge_new (HB.out) hg);have NB654_658 := am (ne_new BK654.out hg);have NB658_654 := am (ne_new2 BK654.out hg);have NB655_658 := am (ne_new BK655.out hg);have NB658_655 := am (ne_new2 BK655.out hg);have NB656_658 := am (ne_new BK656.out hg);have NB658_656 := am (ne_new2 BK656.out hg);replace BK654 := (kmv hb BK654);replace BK655 := (kmv hb BK655);replace BK656 := (kmv hb BK656);replace HB := am (below_step (HB.out) hb);clear hb hbox hg;have hnb39 := NB658_654.out;have hnc39 := NB654_658.out;have hnb40 := NB658_655.out;have hnc40 := NB655_658.out;have hnb41 := NB658_656.out;have hnc41 := NB656_658.out;obtain ⟨hcz42_0,hcz42_1⟩ := cO2 BK658.out;have hfz42_0 := blk_frozen BK658.out 0;have hfz42_1 := blk_frozen BK658.out 1;obtain ⟨hcz43_0,hcz43_1⟩ := cO2 BK655.out))
  have n0_ : Aside0 (((w38.setCell ⟨gb658,0,none⟩ (.int .i64 t657)).setCell ⟨gb658,1,none⟩ (.int .i64 10000)).heap[gb654]? = some (.cells #[.slice A0_0 l0_0.length c0_0,.int .i64 a0_1,.slice A0_2 l0_2.length c0_2,.int .i64 a0_3,.int .i64 a0_4] 27 (0,0))) := ⟨(blk_far (blk_far BK654.out NB654_658.out _) NB654_658.out _)⟩
  have n1_ : Aside0 (((w38.setCell ⟨gb658,0,none⟩ (.int .i64 t657)).setCell ⟨gb658,1,none⟩ (.int .i64 10000)).heap[gb655]? = some (.cells #[.int .i64 a1_0,.int .i64 a1_1] 40 (0,0))) := ⟨(blk_far (blk_far BK655.out NB655_658.out _) NB655_658.out _)⟩
  have n2_ : Aside0 (((w38.setCell ⟨gb658,0,none⟩ (.int .i64 t657)).setCell ⟨gb658,1,none⟩ (.int .i64 10000)).heap[gb656]? = some (.cells #[.int .i64 0,.int .i64 0] 40 (0,0))) := ⟨(blk_far (blk_far BK656.out NB656_658.out _) NB656_658.out _)⟩
  have n3_ : Aside0 (((w38.setCell ⟨gb658,0,none⟩ (.int .i64 t657)).setCell ⟨gb658,1,none⟩ (.int .i64 10000)).heap[gb658]? = some (.cells #[.int .i64 t657,.int .i64 10000] 40 (0,0))) := ⟨(blk_put (cs := #[.int .i64 t657,.int .i64 0]) (blk_put (cs := #[.int .i64 0,.int .i64 0]) BK658.out 0 _ rfl) 1 _ rfl)⟩
  have n4_ : Aside0 (Below w.heap.size w ((w38.setCell ⟨gb658,0,none⟩ (.int .i64 t657)).setCell ⟨gb658,1,none⟩ (.int .i64 10000))) := ⟨by repeat (first | (with_reducible first | exact HB.out | refine below_set ?_ (Aside0.out (by assumption)) | apply below_alloc | apply pw_below_drewN) | exact HB.out)⟩
  (try clear BK654)
  (try clear BK655)
  (try clear BK656)
  (try clear BK658)
  (try clear HB)
  generalize ((w38.setCell ⟨gb658,0,none⟩ (.int .i64 t657)).setCell ⟨gb658,1,none⟩ (.int .i64 10000)) = w44 at n0_ n1_ n2_ n3_ n4_ ⊢
  have BK654 := n0_
  have BK655 := n1_
  have BK656 := n2_
  have BK658 := n3_
  have HB := n4_
  clear n0_ n1_ n2_ n3_ n4_
  replace BK654 := am (blk_drew BK654.out)
  replace BK655 := am (blk_drew BK655.out)
  replace BK656 := am (blk_drew BK656.out)
  replace BK658 := am (blk_drew BK658.out)
  replace HB := am (below_drew1 HB.out)
  refine start_ (n := 8) (S := fun w' => w'.cell? ⟨gb658,0,none⟩ = some (.int .i64 t657) ∧ w'.cell? ⟨gb658,1,none⟩ = some (.int .i64 10000)) (ds := []) (ba 8 0) (by kernel_rfl) rfl rfl ⟨(blk_cell BK658.out 0).trans rfl,(blk_cell BK658.out 1).trans rfl⟩ (fun hHeld => ?_);refine with_tabW q4_Proves.tab4 q4_Proves.bits4 (fun HT_ HW_ => ?_)
  generalize w44.drew = w45 at BK654 BK655 BK656 BK658 HB hHeld ⊢
  refine pure_ (i := 1) (N := some 24) (v := ?_) (a' := ?_) (ba 8 2) rfl rfl (any_of HT_.out (by kernel_rfl)) (fun _ _ _ h => h) (Or.inl ⟨by rfl,?_⟩) ?_ ?_
  rotate_left
  · intro w'
    go_simp
    with_reducible rfl
  rotate_left
  · simp only [Act.put,NRM]
    rfl
  refine pure_ (i := 3) (N := some 26) (v := ?_) (a' := ?_) (ba 8 10) rfl rfl (any_of HT_.out (by kernel_rfl)) (fun _ _ _ h => h) (Or.inl ⟨by rfl,?_⟩) ?_ ?_
  rotate_left
  · intro w'
    go_simp
    with_reducible rfl
  rotate_left
  · simp only [Act.put,NRM]
    rfl
  refine take_ (i := 0) (N := some 23) (v := ?_) (a' := ?_) (ba 8 11) rfl rfl (take_ofW HT_.out HW_.out (by kernel_rfl)) (fun _ _ _ h => h) (Or.inl ⟨by rfl,?_⟩) hHeld ?_ ?_
  rotate_left
  · rintro w' ⟨s0,s1⟩
    go_simp
    with_reducible rfl
  rotate_left
  · simp only [Act.put,NRM]
    rfl
  refine take_ (i := 2) (N := some 25) (v := ?_) (a' := ?_) (ba 8 15) rfl rfl (take_ofW HT_.out HW_.out (by kernel_rfl)) (fun _ _ _ h => h) (Or.inl ⟨by rfl,?_⟩) hHeld ?_ ?_
  rotate_left
  · rintro w' ⟨s0,s1⟩
    go_simp
    with_reducible rfl
  rotate_left
  · simp only [Act.put,NRM]
    rfl
  refine take_ (i := 4) (N := some 27) (v := ?_) (a' := ?_) (ba 8 31) rfl rfl (take_ofW HT_.out HW_.out (by kernel_rfl)) (fun _ _ _ h => h) (Or.inl ⟨by rfl,?_⟩) hHeld ?_ ?_
  rotate_left
  · rintro w' ⟨s0,s1⟩
    go_simp
    with_reducible rfl
  rotate_left
  · simp only [Act.put,NRM]
    rfl
  refine pure_ (i := 5) (N := some 28) (v := ?_) (a' := ?_) (ba 8 63) rfl rfl (any_of HT_.out (by kernel_rfl)) (fun _ _ _ h => h) (Or.inl ⟨by rfl,?_⟩) ?_ ?_
  rotate_left
  · intro w'
    go_simp
    with_reducible rfl
  rotate_left
  · simp only [Act.put,NRM]
    rfl
  refine one_ (i := 6) (N := none) (ba 8 127) rfl rfl (one_of HT_.out (by kernel_rfl)) (by decide) (fun K hK => ?_)
  have hs46 := cO1 BK656.out
  have hfs46 := blk_frozen BK656.out 0
  have hns46_0 := NB654_656.out
  have hns46_1 := NB655_656.out
  have hns46_3 := NB658_656.out
  have hms46_0 := NB656_654.out
  have hms46_1 := NB656_655.out
  have hms46_3 := NB656_658.out
  have hs47 : w45.cell? ⟨gb656,1,none⟩ = some (.int .i64 0) := (blk_cell BK656.out 1).trans rfl
  have hfs47 := blk_frozen BK656.out 1
  have hns47_0 := NB654_656.out
  have hns47_1 := NB655_656.out
  have hns47_3 := NB658_656.out
  have hms47_0 := NB656_654.out
  have hms47_1 := NB656_655.out
  have hms47_3 := NB656_658.out
  refine skip_ (w1 := ?_) (by rfl) rfl ?_ ?_
  rotate_left
  · go_simp
    rfl
  refine hK.out _ _ ⟨((cell_far (p := ⟨gb656,_,none⟩) NB658_656.out _).trans (((cell_far (p := ⟨gb656,_,none⟩) NB658_656.out _).trans (hHeld.1)))),((cell_far (p := ⟨gb656,_,none⟩) NB658_656.out _).trans (((cell_far (p := ⟨gb656,_,none⟩) NB658_656.out _).trans (hHeld.2))))⟩ (fun hHeld => ?_)
  clear hK K
  refine pure_ (i := 7) (N := some 5) (v := ?_) (a' := ?_) (ba 8 255) rfl rfl (any_of HT_.out (by kernel_rfl)) (fun _ _ _ h => h) (Or.inl ⟨by rfl,?_⟩) ?_ ?_
  rotate_left
  · intro w'
    go_simp
    with_reducible rfl
  rotate_left
  · simp only [Act.put,NRM]
    rfl
  refine done_ (done_of HT_.out (by kernel_rfl)) ?_
  try go_wp2
  refine bodyPost_ret (results_ct rfl _ _ gb656 40 #[.int .i64 t657,.int .i64 10000] (0,0) _ rfl (blk_put (cs := #[.int .i64 t657,.int .i64 0]) (blk_put (cs := #[.int .i64 0,.int .i64 0]) BK656.out 0 _ rfl) 1 _ rfl) Tryz.underlying40 rfl (by kernel_rfl)) rfl ?_
  exact ⟨by first | rfl | (simp [*] <;> rfl),by repeat (first | (with_reducible first | exact HB.out | refine below_set ?_ (Aside0.out (by assumption)) | apply below_alloc | apply pw_below_drewN) | exact HB.out)⟩
 rw [if_pos c4] at H
 have c4b0 : decide (a1_1 < 40) = true := decide_eq_true c4
 clear c4
 replace H := obm H
 obtain ⟨t659,A50,H⟩ := H
 (try dsimp only at H)
 have A5 := am A50
 clear A50
 obtain ⟨ji6,hji6⟩ : ∃ j_ : Int,(mn 10000 (wrap64 (t659 - 1))) = j_ := ⟨_,rfl⟩
 replace H : (some (t657,ji6,decide (t657 ≤ (ji6)))) = some (r1,r2,r3) := by first | (rw [hji6] at H;exact H) | (simp only [hji6] at H ⊢;exact H)
 (try rw [hji6] at A3)
 (try rw [hji6] at A5)
 (try (have hji6h : ji6 ≤ 10000 := by (rw [← hji6];unfold mn;(repeat' split) <;> omega)))
 (try (have hji6g : ji6 ≤ 64 := by omega))
 have hji6_ : (if (wrap64 (t659 - 1)) < 10000 then (wrap64 (t659 - 1)) else 10000) = ji6 := hji6
 simp only [Option.some.injEq,Prod.mk.injEq] at H
 obtain ⟨rfl,rfl,rfl⟩ := H
 go_enter Tryz.func32,Tryz.ntmps32
 try go_wp2_with (first | ((refine gate_dst (N := 2) rfl ?_);refine box_event rfl (N := 2) rfl (cs := #[.slice A0_0 l0_0.length c0_0,.int .i64 a0_1,.slice A0_2 l0_2.length c0_2,.int .i64 a0_3,.int .i64 a0_4]) (t := 27) ?hr ?_;(case hr => go_simp;try rfl);intro gb654 hg w7 hbox hb;have BK654 := am (hbox);have GE654 := am (ge_new (HB.out) hg);replace HB := am (below_step (HB.out) hb);clear hb hbox hg) | ((refine gate_dst (N := 3) rfl ?_);refine box_event rfl (N := 3) rfl (cs := #[.int .i64 a1_0,.int .i64 a1_1]) (t := 40) ?hr ?_;(case hr => go_simp;try rfl);intro gb655 hg w8 hbox hb;have BK655 := am (hbox);have GE655 := am (ge_new (HB.out) hg);have NB654_655 := am (ne_new BK654.out hg);have NB655_654 := am (ne_new2 BK654.out hg);replace BK654 := (kmv hb BK654);replace HB := am (below_step (HB.out) hb);clear hb hbox hg) | ((refine gate_dst (N := 4) rfl ?_);refine box_event rfl (N := 4) rfl (cs := #[.int .i64 0,.int .i64 0]) (t := 40) ?hr ?_;(case hr => go_simp;try rfl);intro gb656 hg w9 hbox hb;have BK656 := am (hbox);have GE656 := am (ge_new (HB.out) hg);have NB654_656 := am (ne_new BK654.out hg);have NB656_654 := am (ne_new2 BK654.out hg);have NB655_656 := am (ne_new BK655.out hg);have NB656_655 := am (ne_new2 BK655.out hg);replace BK654 := (kmv hb BK654);replace BK655 := (kmv hb BK655);replace HB := am (below_step (HB.out) hb);clear hb hbox hg;have hnb10 := NB654_655.out;have hnc10 := NB655_654.out;have hnb11 := NB654_656.out;have hnc11 := NB656_654.out;obtain ⟨hcz12_0,hcz12_1,hcz12_2,hcz12_3,hcz12_4⟩ := cO5 BK654.out;have hnb13 := NB655_656.out;have hnc13 := NB656_655.out;obtain ⟨hcz14_0,hcz14_1⟩ := cO2 BK655.out) | ((with_reducible refine gate_callee (f := 64) rfl ?_);refine goesL_ (some 10) rfl rfl Tryz.func64 (by kernel_rfl) rfl #[.agg #[.slice A0_0 l0_0.length c0_0,.int .i64 a0_1,.slice A0_2 l0_2.length c0_2,.int .i64 a0_3,.int .i64 a0_4],.int .i64 a1_0] rfl (by (try simp only [List.map_toArray,List.map_cons,List.map_nil]);first | done | rfl | (simp only [List.length_drop,List.length_take];rfl)) ?_;(refine (q4_Total.calls k _ _ l0_0 a0_1 _ _ l0_2 a0_3 a0_4 a1_0 t657 _ ?side1 ?side2 ?side3 ?side4 A3.out).mono ?_);(case side1 => exact kC HR0_0.out HB.out);(case side2 => exact HC0_0.out);(case side3 => exact kC HR0_2.out HB.out);(case side4 => exact HC0_2.out);rintro e w15 ⟨rfl,hb⟩;refine ⟨_,rfl,?_⟩;replace BK654 := (kmv hb BK654);replace BK655 := (kmv hb BK655);replace BK656 := (kmv hb BK656);replace HB := am (below_step (HB.out) hb);(try clear hb);(try clear hb2);(try clear hk);(try clear hi)) | ((refine gate_dst (N := 6) rfl ?_);refine box_event rfl (N := 6) rfl (cs := #[.int .i64 0,.int .i64 0]) (t := 40) ?hr ?_;(case hr => go_simp;try rfl);intro gb658 hg w16 hbox hb;have BK658 := am (hbox);have GE658 := am (ge_new (HB.out) hg);have NB654_658 := am (ne_new BK654.out hg);have NB658_654 := am (ne_new2 BK654.out hg);have NB655_658 := am (ne_new BK655.out hg);have NB658_655 := am (ne_new2 BK655.out hg);have NB656_658 := am (ne_new BK656.out hg);have NB658_656 := am (ne_new2 BK656.out hg);replace BK654 := (kmv hb BK654);replace BK655 := (kmv hb BK655);replace BK656 := (kmv hb BK656);replace HB := am (below_step (HB.out) hb);clear hb hbox hg;have hnb17 := NB658_654.out;have hnc17 := NB654_658.out;have hnb18 := NB658_655.out;have hnc18 := NB655_658.out;have hnb19 := NB658_656.out;have hnc19 := NB656_658.out;obtain ⟨hcz20_0,hcz20_1⟩ := cO2 BK658.out;have hfz20_0 := blk_frozen BK658.out 0;have hfz20_1 := blk_frozen BK658.out 1;obtain ⟨hcz21_0,hcz21_1⟩ := cO2 BK655.out;obtain ⟨hcz22_0,hcz22_1,hcz22_2,hcz22_3,hcz22_4⟩ := cO5 BK654.out) | ((with_reducible refine gate_callee (f := 64) rfl ?_);refine goesL_ (some 19) rfl rfl Tryz.func64 (by kernel_rfl) rfl #[.agg #[.slice A0_0 l0_0.length c0_0,.int .i64 a0_1,.slice A0_2 l0_2.length c0_2,.int .i64 a0_3,.int .i64 a0_4],.int .i64 (wrap64 (a1_1 + 1))] rfl (by (try simp only [List.map_toArray,List.map_cons,List.map_nil]);first | done | rfl | (simp only [List.length_drop,List.length_take];rfl)) ?_;(refine (q4_Total.calls k _ _ l0_0 a0_1 _ _ l0_2 a0_3 a0_4 (wrap64 (a1_1 + 1)) t659 _ ?side1 ?side2 ?side3 ?side4 A5.out).mono ?_);(case side1 => exact kC HR0_0.out (by repeat (first | (with_reducible first | exact HB.out | refine below_set ?_ (Aside0.out (by assumption)) | apply below_alloc | apply pw_below_drewN) | exact HB.out)));(case side2 => exact HC0_0.out);(case side3 => exact kC HR0_2.out (by repeat (first | (with_reducible first | exact HB.out | refine below_set ?_ (Aside0.out (by assumption)) | apply below_alloc | apply pw_below_drewN) | exact HB.out)));(case side4 => exact HC0_2.out);rintro e w23 ⟨rfl,hb⟩;refine ⟨_,rfl,?_⟩;replace BK654 := am (blk_below (blk_far (blk_far BK654.out NB654_658.out _) NB654_658.out _) hb);replace BK655 := am (blk_below (blk_far (blk_far BK655.out NB655_658.out _) NB655_658.out _) hb);replace BK656 := am (blk_below (blk_far (blk_far BK656.out NB656_658.out _) NB656_658.out _) hb);replace BK658 := am (blk_below (blk_put (cs := #[.int .i64 t657,.int .i64 0]) (blk_put (cs := #[.int .i64 0,.int .i64 0]) BK658.out 0 _ rfl) 1 _ rfl) hb);replace HB := am (below_step (by repeat (first | (with_reducible first | exact HB.out | refine below_set ?_ (Aside0.out (by assumption)) | apply below_alloc | apply pw_below_drewN) | exact HB.out)) hb);(try clear hb);(try clear hb2);(try clear hk);(try clear hi);obtain ⟨hcz24_0,hcz24_1⟩ := cO2 BK658.out;have hfz24_0 := blk_frozen BK658.out 0;have hfz24_1 := blk_frozen BK658.out 1))
 have n0_ : Aside0 ((w23.setCell ⟨gb658,1,none⟩ (.int .i64 ji6)).heap[gb654]? = some (.cells #[.slice A0_0 l0_0.length c0_0,.int .i64 a0_1,.slice A0_2 l0_2.length c0_2,.int .i64 a0_3,.int .i64 a0_4] 27 (0,0))) := ⟨(blk_far BK654.out NB654_658.out _)⟩
 have n1_ : Aside0 ((w23.setCell ⟨gb658,1,none⟩ (.int .i64 ji6)).heap[gb655]? = some (.cells #[.int .i64 a1_0,.int .i64 a1_1] 40 (0,0))) := ⟨(blk_far BK655.out NB655_658.out _)⟩
 have n2_ : Aside0 ((w23.setCell ⟨gb658,1,none⟩ (.int .i64 ji6)).heap[gb656]? = some (.cells #[.int .i64 0,.int .i64 0] 40 (0,0))) := ⟨(blk_far BK656.out NB656_658.out _)⟩
 have n3_ : Aside0 ((w23.setCell ⟨gb658,1,none⟩ (.int .i64 ji6)).heap[gb658]? = some (.cells #[.int .i64 t657,.int .i64 ji6] 40 (0,0))) := ⟨(blk_put (cs := #[.int .i64 t657,.int .i64 10000]) BK658.out 1 _ rfl)⟩
 have n4_ : Aside0 (Below w.heap.size w (w23.setCell ⟨gb658,1,none⟩ (.int .i64 ji6))) := ⟨by repeat (first | (with_reducible first | exact HB.out | refine below_set ?_ (Aside0.out (by assumption)) | apply below_alloc | apply pw_below_drewN) | exact HB.out)⟩
 (try clear BK654)
 (try clear BK655)
 (try clear BK656)
 (try clear BK658)
 (try clear HB)
 generalize (w23.setCell ⟨gb658,1,none⟩ (.int .i64 ji6)) = w25 at n0_ n1_ n2_ n3_ n4_ ⊢
 have BK654 := n0_
 have BK655 := n1_
 have BK656 := n2_
 have BK658 := n3_
 have HB := n4_
 clear n0_ n1_ n2_ n3_ n4_
 replace BK654 := am (blk_drew BK654.out)
 replace BK655 := am (blk_drew BK655.out)
 replace BK656 := am (blk_drew BK656.out)
 replace BK658 := am (blk_drew BK658.out)
 replace HB := am (below_drew1 HB.out)
 refine start_ (n := 8) (S := fun w' => w'.cell? ⟨gb658,0,none⟩ = some (.int .i64 t657) ∧ w'.cell? ⟨gb658,1,none⟩ = some (.int .i64 ji6)) (ds := []) (ba 8 0) (by kernel_rfl) rfl rfl ⟨(blk_cell BK658.out 0).trans rfl,(blk_cell BK658.out 1).trans rfl⟩ (fun hHeld => ?_);refine with_tabW q4_Proves.tab4 q4_Proves.bits4 (fun HT_ HW_ => ?_)
 generalize w25.drew = w26 at BK654 BK655 BK656 BK658 HB hHeld ⊢
 refine pure_ (i := 1) (N := some 24) (v := ?_) (a' := ?_) (ba 8 2) rfl rfl (any_of HT_.out (by kernel_rfl)) (fun _ _ _ h => h) (Or.inl ⟨by rfl,?_⟩) ?_ ?_
 rotate_left
 · intro w'
   go_simp
   with_reducible rfl
 rotate_left
 · simp only [Act.put,NRM]
   rfl
 refine pure_ (i := 3) (N := some 26) (v := ?_) (a' := ?_) (ba 8 10) rfl rfl (any_of HT_.out (by kernel_rfl)) (fun _ _ _ h => h) (Or.inl ⟨by rfl,?_⟩) ?_ ?_
 rotate_left
 · intro w'
   go_simp
   with_reducible rfl
 rotate_left
 · simp only [Act.put,NRM]
   rfl
 refine take_ (i := 0) (N := some 23) (v := ?_) (a' := ?_) (ba 8 11) rfl rfl (take_ofW HT_.out HW_.out (by kernel_rfl)) (fun _ _ _ h => h) (Or.inl ⟨by rfl,?_⟩) hHeld ?_ ?_
 rotate_left
 · rintro w' ⟨s0,s1⟩
   go_simp
   with_reducible rfl
 rotate_left
 · simp only [Act.put,NRM]
   rfl
 refine take_ (i := 2) (N := some 25) (v := ?_) (a' := ?_) (ba 8 15) rfl rfl (take_ofW HT_.out HW_.out (by kernel_rfl)) (fun _ _ _ h => h) (Or.inl ⟨by rfl,?_⟩) hHeld ?_ ?_
 rotate_left
 · rintro w' ⟨s0,s1⟩
   go_simp
   with_reducible rfl
 rotate_left
 · simp only [Act.put,NRM]
   rfl
 refine take_ (i := 4) (N := some 27) (v := ?_) (a' := ?_) (ba 8 31) rfl rfl (take_ofW HT_.out HW_.out (by kernel_rfl)) (fun _ _ _ h => h) (Or.inl ⟨by rfl,?_⟩) hHeld ?_ ?_
 rotate_left
 · rintro w' ⟨s0,s1⟩
   go_simp
   with_reducible rfl
 rotate_left
 · simp only [Act.put,NRM]
   rfl
 refine pure_ (i := 5) (N := some 28) (v := ?_) (a' := ?_) (ba 8 63) rfl rfl (any_of HT_.out (by kernel_rfl)) (fun _ _ _ h => h) (Or.inl ⟨by rfl,?_⟩) ?_ ?_
 rotate_left
 · intro w'
   go_simp
   with_reducible rfl
 rotate_left
 · simp only [Act.put,NRM]
   rfl
 refine one_ (i := 6) (N := none) (ba 8 127) rfl rfl (one_of HT_.out (by kernel_rfl)) (by decide) (fun K hK => ?_)
 have hs27 := cO1 BK656.out
 have hfs27 := blk_frozen BK656.out 0
 have hns27_0 := NB654_656.out
 have hns27_1 := NB655_656.out
 have hns27_3 := NB658_656.out
 have hms27_0 := NB656_654.out
 have hms27_1 := NB656_655.out
 have hms27_3 := NB656_658.out
 have hs28 : w26.cell? ⟨gb656,1,none⟩ = some (.int .i64 0) := (blk_cell BK656.out 1).trans rfl
 have hfs28 := blk_frozen BK656.out 1
 have hns28_0 := NB654_656.out
 have hns28_1 := NB655_656.out
 have hns28_3 := NB658_656.out
 have hms28_0 := NB656_654.out
 have hms28_1 := NB656_655.out
 have hms28_3 := NB656_658.out
 refine skip_ (w1 := ?_) (by rfl) rfl ?_ ?_
 rotate_left
 · go_simp
   rfl
 refine hK.out _ _ ⟨((cell_far (p := ⟨gb656,_,none⟩) NB658_656.out _).trans (((cell_far (p := ⟨gb656,_,none⟩) NB658_656.out _).trans (hHeld.1)))),((cell_far (p := ⟨gb656,_,none⟩) NB658_656.out _).trans (((cell_far (p := ⟨gb656,_,none⟩) NB658_656.out _).trans (hHeld.2))))⟩ (fun hHeld => ?_)
 clear hK K
 refine pure_ (i := 7) (N := some 5) (v := ?_) (a' := ?_) (ba 8 255) rfl rfl (any_of HT_.out (by kernel_rfl)) (fun _ _ _ h => h) (Or.inl ⟨by rfl,?_⟩) ?_ ?_
 rotate_left
 · intro w'
   go_simp
   with_reducible rfl
 rotate_left
 · simp only [Act.put,NRM]
   rfl
 refine done_ (done_of HT_.out (by kernel_rfl)) ?_
 try go_wp2
 refine bodyPost_ret (results_ct rfl _ _ gb656 40 #[.int .i64 t657,.int .i64 ji6] (0,0) _ rfl (blk_put (cs := #[.int .i64 t657,.int .i64 0]) (blk_put (cs := #[.int .i64 0,.int .i64 0]) BK656.out 0 _ rfl) 1 _ rfl) Tryz.underlying40 rfl (by kernel_rfl)) rfl ?_
 exact ⟨by first | rfl | (simp [errW_none,errW_some] <;> rfl) | (simp only [← hji6];first | rfl | (simp [errW_none,errW_some] <;> rfl)) | (simp [*,errW_none,errW_some] <;> rfl),by repeat (first | (with_reducible first | exact HB.out | refine below_set ?_ (Aside0.out (by assumption)) | apply below_alloc | apply pw_below_drewN) | exact HB.out)⟩
end
end Go.Proofs.YticlelgmmonloaaGreatDoor.C
namespace Go.Proofs.YticlelgmmonloaaGreatDoor.C
open Go Go.RowKit
set_option linter.unusedVariables false
set_option linter.unusedSimpArgs false
set_option maxHeartbeats 16000000
set_option maxRecDepth 100000
def AbidesC {β : Type} (B : Nat) (J : β → World → Prop) : Prop := ∀ s W W' row,J s W → W.grownBy W' row → (∀ r,row = some r → B ≤ r) → J s W'
theorem AbidesC.putObj {β : Type} {B : Nat} {I : β → World → Prop} (h : AbidesC B I) {s : β} {W : World} {l : Nat} (o' : Obj) (hs : I s W) (hB : B ≤ l) : I s (W.putObj l o') := h s W _ (some l) hs (grownBy_putObj' W l o') (fun r e => by cases e;exact hB)
theorem AbidesC.alloc {β : Type} {B : Nat} {I : β → World → Prop} (h : AbidesC B I) {s : β} {W : World} (o : Obj) (hs : I s W) : I s (W.alloc o) := h s W _ none hs (World.grownBy_alloc W o none) (fun r e => by cases e)
def SeqStopsC {α : Type} (F : Fence) (n : Nat) (P : Program) (g : Nat) (lb : Array Value) (encs : α → Array Value) (Ok : α → World → Prop) (Kp : World → World → Prop) (S Sp : List α → Prop) (w : World) : Prop :=
 ∀ (l : Nat) (J Jx : List α → World → Prop) (W : World),Below w.heap.size w W → l < W.heap.size → AbidesC W.heap.size J →
  (∀ pre x W1,J pre W1 → Ok x W1 → YieldAt F (n - 1) P l (encs x) W1 fun e W' => (e = .returned (.bool true) ∧ J (pre ++ [x]) W' ∧ Kp W1 W') ∨ (e = .returned (.bool false) ∧ Jx (pre ++ [x]) W')) →
  J [] W → CallsIn F n P g (#[.func (.yield l) #[] #[]] ++ lb) W fun e W' => (∃ v,e = .returned v) ∧ ((∃ xs,S xs ∧ J xs W') ∨ (∃ pre,Sp pre ∧ Jx pre W'))
variable {F : Fence} {n : Nat} {P : Program}
theorem rangeC {α : Type} {g : Operand} {ps : Array Tmp} {assign body : Code} {Q : Exit → Act → World → Prop} {a : Act} {w : World}
 (hro : F.round = none) (h1 : 1 ≤ n) {gf : Nat} {lb : Array Value} (hg : a.eval g = .func (.func gf) #[] lb) (hFg : F.fn gf) (eg : ∀ args w,(callFunc gf args).run P w = .ok (.enter gf args) w)
 {encs : α → Array Value} {Ok : α → World → Prop} {Kp : World → World → Prop} {S Sp : List α → Prop} {w0 : World} (hseq : SeqStopsC F (n - 1) P gf lb encs Ok Kp S Sp w0) (hOk : ∀ (x : α) (W : World) (l : Nat) (o o' : Obj),Ok x W → W.heap[l]? = some o → o.isCells = false → Ok x (W.putObj l o'))
 (hKt : ∀ {A B C : World},Kp A B → Kp B C → Kp A C) (hKb : ∀ (W : World) (l : Nat) (o o' : Obj),w.heap.size ≤ l → W.heap[l]? = some o → o.isCells = false → o.isWalk = false → Kp W (W.putObj l o')) (hb0 : Below w0.heap.size w0 w) (hps : ∀ x,(encs x).size = ps.size)
 (I : List α → World → Prop) (Ix : Code → List α → World → Prop) (hI : AbidesC w.heap.size I) (hIx : ∀ (c : Code) (pre : List α) (W : World) (l : Nat) (o o' : Obj),w.heap.size ≤ l → Ix c pre W → W.heap[l]? = some o → o.isCells = false → o.isWalk = false → Ix c pre (W.putObj l o')) (h0 : I [] w) (a₁ : α → Act)
 (hassign : ∀ (l : Nat) (x : α) (W : World) (K : Act → World → Prop),K (a₁ x) W → assign.wpIn (F.inRound l) (n - 1 - 1) P (Exit.then K (fun _ _ _ => False)) { tmps := (ps.zip (encs x)).foldl (fun t (p,v) => t.setIfInBounds p v) a.tmps,defers := [] } W)
 (hbody : ∀ (l : Nat) (pre : List α) (x : α) (W : World),I pre W → Ok x W → body.wpIn (F.inRound l) (n - 1 - 1) P (ownPostK Kp I Ix (pre ++ [x]) W) (a₁ x) W)
 (hdone : ∀ (D : Nat) (xs : List α) (W : World),w.heap.size ≤ D → S xs → I xs W → W.heap[D]? = some (.deferred (some [])) → Q .normal { a with defers := { target := .collected D,args := #[] } :: a.defers } W)
 (hstop : ∀ (D : Nat) (c : Code) (pre : List α) (W : World),w.heap.size ≤ D → Sp pre → Ix c pre W → W.heap[D]? = some (.deferred (some [])) → c.wpIn F n P Q { a with defers := { target := .collected D,args := #[] } :: a.defers } W) :
 (Code.rangeFunc g ps assign body).wpIn F n P Q a w := by
 refine wpIn_rangeFunc ?_
 intro fn hfn
 rw [hro]
 obtain ⟨rec,hrec⟩ : ∃ rec : LoopState → Option Code → Loop,rec = fun st pe => { state := st,pending := pe,fn,tmps := a.tmps,params := ps,assign,body,defers := w.heap.size } := ⟨_,rfl⟩
 obtain ⟨W1,hW1⟩ : ∃ W1,(w.alloc (.deferred (some []))).alloc (.loop (rec .ready none)) = W1 := ⟨_,rfl⟩
 have hs1 : W1.heap.size = w.heap.size + 2 := by rw [← hW1];simp
 have hL1 : W1.heap[w.heap.size + 1]? = some (.loop (rec .ready none)) := by
  rw [← hW1];have := World.alloc_heap_new (w.alloc (.deferred (some []))) (.loop (rec .ready none));rwa [World.size_alloc] at this
 have hK1 : W1.heap[w.heap.size]? = some (.deferred (some [])) := by
  rw [← hW1];exact (Below.heap_alloc _ _ _ (by simp)).trans (World.alloc_heap_new w _)
 have hI1 : I [] W1 := by rw [← hW1];exact hI.alloc _ (hI.alloc _ h0)
 have hb1 : Below w0.heap.size w0 W1 := by
  rw [← hW1];exact hb0.trans ((((Below.refl _ w).alloc (Nat.le_refl _) _).alloc (by simp) _).mono hb0.size)
 have far : ∀ {A B : World} {row : Option Nat} {k : Nat} {o : Obj},A.grownBy B row → (∀ r,row = some r → W1.heap.size ≤ r) → k < w.heap.size + 2 → A.heap[k]? = some o → B.heap[k]? = some o :=
  fun hgr hr hk ho => (hgr.block _ (Array.getElem?_eq_some_iff.1 ho).1 (fun e => by have := hr _ e.symm;omega)).trans ho
 refine ⟨w.heap.size + 1,[{ target := .collected w.heap.size,args := #[] }],W1,{ target := .fn (.func gf) lb,args := #[.func (.yield (w.heap.size + 1)) #[] #[]] },W1,gf,#[.func (.yield (w.heap.size + 1)) #[] #[]] ++ lb,W1,?_,?_,?_,?_,fun _ => h1,?_⟩
 · rw [← hW1,hrec];exact run_enterLoop_outer _ _ _ _ _
 · simp only [resolve,hg]
   simp [go_sem]
 · intro f' hf';simp [Target.leads] at hf';subst hf';exact hFg
 · simp [invoke,go_sem,eg]
 · refine (hseq (w.heap.size + 1)
    (fun pre W => I pre W ∧ W.heap[w.heap.size + 1]? = some (.loop (rec .ready none)) ∧ W.heap[w.heap.size]? = some (.deferred (some [])))
    (fun pre W => ∃ c,Ix c pre W ∧ W.heap[w.heap.size + 1]? = some (.loop (rec .done (some c))) ∧ W.heap[w.heap.size]? = some (.deferred (some [])))
    W1 hb1 (by omega)
    (fun s A B row hs hg' hr => ⟨hI s A B row hs.1 hg' (fun r e => by have := hr r e;omega),far hg' hr (by omega) hs.2.1,far hg' hr (by omega) hs.2.2⟩)
    ?_ ⟨hI1,hL1,hK1⟩).mono ?_
   · rintro pre x W ⟨hi,hl,hk⟩ hok
     have hlt : w.heap.size + 1 < W.heap.size := (Array.getElem?_eq_some_iff.1 hl).1
     have hy := run_yield (P := P) (args := encs x) hl (by rw [hrec];exact hps x)
     rw [hrec] at hy
     refine ⟨fn,_,assign,body,hy,roundIn_of_wpIn hfn (hassign _ x W _ ⟨_,run_beginRound hl (by rw [hrec]),?_⟩)⟩
     have hl2 : (W.putObj (w.heap.size + 1) (.loop { rec .ready none with state := .busy })).heap[w.heap.size + 1]? = some (.loop { rec .ready none with state := .busy }) := World.putObj_heap_same hlt
     have hk2 : (W.putObj (w.heap.size + 1) (.loop { rec .ready none with state := .busy })).heap[w.heap.size]? = some (.deferred (some [])) := (World.putObj_heap_other (by omega)).trans hk
     have hw2 : Kp W (W.putObj (w.heap.size + 1) (.loop { rec .ready none with state := .busy })) := hKb _ _ _ _ (by omega) hl rfl rfl
     refine wpIn_mono (hbody _ pre x _ (hI.putObj _ hi (by omega)) (hOk x W _ _ _ hok hl rfl)) ?_
     have fin : ∀ (jump : Option Code) (W3 : World),KeepsOthers (W.putObj (w.heap.size + 1) (.loop { rec .ready none with state := .busy })) W3 →
      (Instr.endRound (w.heap.size + 1) jump).run P W3 = .ok (.bool jump.isNone) (W3.putObj (w.heap.size + 1) (.loop (rec (if jump.isNone then .ready else .done) jump))) ∧
      W3.heap[w.heap.size + 1]? = some (.loop { rec .ready none with state := .busy }) ∧
      (W3.putObj (w.heap.size + 1) (.loop (rec (if jump.isNone then .ready else .done) jump))).heap[w.heap.size + 1]? = some (.loop (rec (if jump.isNone then .ready else .done) jump)) ∧
      (W3.putObj (w.heap.size + 1) (.loop (rec (if jump.isNone then .ready else .done) jump))).heap[w.heap.size]? = some (.deferred (some [])) := fun jump W3 hk3 => by
      have hl3 := hk3.same _ _ hl2 rfl
      have := run_endRound (P := P) jump hl3
      rw [hrec] at this ⊢
      exact ⟨this,by rw [hrec] at hl3;exact hl3,World.putObj_heap_same (Array.getElem?_eq_some_iff.1 hl3).1,(World.putObj_heap_other (by omega)).trans (hk3.same _ _ hk2 rfl)⟩
     rintro e a3 W3 hp
     cases e with
     | normal =>
      obtain ⟨hk3,hkp3,hi3⟩ := hp
      obtain ⟨hr,hl3,hl4,hk4⟩ := fin none W3 hk3
      exact ⟨_,_,hr,.inl ⟨rfl,⟨hI.putObj _ hi3 (by omega),hl4,hk4⟩,hKt (hKt hw2 hkp3) (hKb _ _ _ _ (by omega) hl3 rfl rfl)⟩⟩
     | ret => obtain ⟨hr,hl3,hl4,hk4⟩ := fin (some .ret) W3 hp.1;exact ⟨_,_,hr,.inr ⟨rfl,.ret,hIx _ _ _ _ _ _ (by omega) hp.2 hl3 rfl rfl,hl4,hk4⟩⟩
     | exit id => obtain ⟨hr,hl3,hl4,hk4⟩ := fin (some (.exit id)) W3 hp.1;exact ⟨_,_,hr,.inr ⟨rfl,(.exit id),hIx _ _ _ _ _ _ (by omega) hp.2 hl3 rfl rfl,hl4,hk4⟩⟩
     | goto t => obtain ⟨hr,hl3,hl4,hk4⟩ := fin (some (.goto t)) W3 hp.1;exact ⟨_,_,hr,.inr ⟨rfl,(.goto t),hIx _ _ _ _ _ _ (by omega) hp.2 hl3 rfl rfl,hl4,hk4⟩⟩
     | panic ch => exact hp.elim
     | outgrown => exact hp.elim
   · rintro e W2 ⟨⟨v,rfl⟩,(⟨xs,hS,hi,hl,hk⟩ | ⟨pre,hSp,c,hi,hl,hk⟩)⟩
     · exact ⟨none,_,by have := run_endLoop (P := P) hl (by rw [hrec];simp);rw [hrec] at this;exact this,hdone _ xs _ (Nat.le_refl _) hS (hI.putObj _ hi (by omega)) ((World.putObj_heap_other (by omega)).trans hk)⟩
     · exact ⟨some c,_,by have := run_endLoop (P := P) hl (by rw [hrec];simp);rw [hrec] at this;exact this,hstop _ c pre _ (Nat.le_refl _) hSp (hIx c _ _ _ _ _ (by omega) hi hl rfl rfl) ((World.putObj_heap_other (by omega)).trans hk)⟩
structure KeepsCells (W W' : World) : Prop where
 os : W'.os = W.os
 tape : W'.tape = W.tape
 output : W'.output = W.output
 size : W.heap.size ≤ W'.heap.size
 same : ∀ (k : Nat) (o : Obj),W.heap[k]? = some o → o.isCells = true → W'.heap[k]? = some o
theorem KeepsCells.trans {A B C : World} (h : KeepsCells A B) (k : KeepsCells B C) : KeepsCells A C := ⟨k.os.trans h.os,k.tape.trans h.tape,k.output.trans h.output,Nat.le_trans h.size k.size,fun i o ho hc => k.same i o (h.same i o ho hc) hc⟩
theorem KeepsCells.of_below {A B : World} (h : Below A.heap.size A B) : KeepsCells A B := ⟨h.os,h.tape,h.output,h.size,fun i o ho _ => (h.block i (Array.getElem?_eq_some_iff.1 ho).1).trans ho⟩
theorem KeepsCells.putObj (W : World) (l : Nat) (o o' : Obj) (hl : W.heap[l]? = some o) (hc : o.isCells = false) : KeepsCells W (W.putObj l o') :=
 have hg := grownBy_putObj' W l o'
 ⟨hg.os,hg.tape,hg.output,hg.size,fun i p hp hpc => (hg.block i (Array.getElem?_eq_some_iff.1 hp).1 (fun e => by cases e;rw [hl] at hp;injection hp with hp;subst hp;rw [hc] at hpc;cases hpc)).trans hp⟩
end Go.Proofs.YticlelgmmonloaaGreatDoor.C
namespace Go.Proofs.YticlelgmmonloaaGreatDoor.C
open Go.RowKit Go.Proofs.YticlelgmmonloaaGreatDoorW.PrintWords Go.Proofs.YticlelgmmonloaaGreatDoorW.PrintLast Go.Proofs.YticlelgmmonloaaGreatDoorW.PrintMore
set_option linter.unusedVariables false
set_option linter.unusedSimpArgs false
set_option maxHeartbeats 16000000
set_option maxRecDepth 100000
theorem goesP_ {P : Program} {ops : Array Oper} {Q : Exit → Act → World → Prop} {oi : Oper} {N : Option Tmp} {a : Act} {w : World} {K : Act → World → Prop} {f : FuncId} {fn : Func} {oas : Array Operand} {ts : Array TypeId} (hf : P.funcs[f]? = some fn) (hname : (fn.name == "runtime.NumGoroutine") = false) (hb : fn.body.isSome = true) (args : Array Value)
 (hw : Region.wanted oi (yielded ops a.tmps) = true) (hN : oi.dst = N) (hop : oi.op = .call { callee := .value (.func f),args := oas,argTypes := ts }) (hargs : oas.map a.eval = args)
 (h : Calls P f args w fun e w' => ∃ c,e = .panicked c ∧ Q (.panic c) a w') : if Region.wanted oi (yielded ops a.tmps) = true then Oper.wp P oi a w K Q else K (a.put N undef) w := by
 rw [if_pos hw]
 have he := enters_ hf hname hb args w
 have hrun : (execOp a.eval oi).run P w = .ok (.enter f args) w := by
  unfold execOp
  simp [hop,resolve,Deferred.ofValue,invoke,Act.eval,hargs,he]
 unfold Oper.wp
 rw [hrun]
 refine Calls.mono h ?_
 rintro e w' ⟨c,rfl,hq⟩
 exact hq
theorem skip_abs {P : Program} {ops : Array Oper} {o : Oper} {a : Act} {Q : Exit → Act → World → Prop} {rest : List Oper} {W W1 : World} (Rr : World → Prop) (hgd : o.guard = none) (hN : o.dst = none)
 (hrun : (execOp a.eval o).run P W = .ok .skip W1) (hR : Rr W1) (h : ∀ W',Rr W' → wpList P ops Q rest a W') : wpList P ops Q (o :: rest) a W := by
 refine wpList_plain hgd fun K hK => ?_
 unfold Oper.wp
 rw [hrun]
 show K (a.put o.dst undef) W1
 rw [hN]
 exact hK _ _ (h W1 hR)
theorem eqFeed (d : Nat) (w : World) (x0 y0 : Int) (x1 y1 : Int) :
 (Op.equalIn (d + 2) 123 (.agg #[.int .i64 x0,.int .i64 x1]) (.agg #[.int .i64 y0,.int .i64 y1])).run Tryz.prog w = .ok (x0 == y0 && (x1 == y1)) w := by
 refine eqA_of Tryz.underlying123 (by kernel_rfl) ?_
 refine eqf_cons (by rfl) (by go_simp;rfl) (by go_simp;rfl) (by go_simp) ?_
 exact eqf_last (by rfl) (by go_simp;rfl) (by go_simp;rfl) (by go_simp)
def setO (W : World) (b : Nat) (o : Obj) : World := { W with heap := W.heap.setIfInBounds b o }
theorem setO_same {W : World} {b : Nat} {o' : Obj} (o : Obj) (h : W.heap[b]? = some o') : (setO W b o).heap[b]? = some o := by
 simp [setO,Array.getElem?_setIfInBounds,(Array.getElem?_eq_some_iff.1 h).1]
theorem setO_other {W : World} {b k : Nat} {o' : Obj} (o : Obj) (h : W.heap[k]? = some o') (hne : k ≠ b) : (setO W b o).heap[k]? = some o' := by
 simp [setO,Array.getElem?_setIfInBounds,Ne.symm hne,h]
theorem below_setO {B : Nat} {w W : World} {b : Nat} (o : Obj) (h : Below B w W) (hb : B ≤ b) : Below B w (setO W b o) :=
 ⟨h.os,h.tape,h.output,by simpa [setO] using h.size,fun i hi => by rw [show (setO W b o).heap[i]? = W.heap[i]? by simp [setO,Array.getElem?_setIfInBounds,show b ≠ i by omega]];exact h.block i hi⟩
theorem obj_far {w : World} {k : Nat} {o : Obj} (h : w.heap[k]? = some o) {p : Addr} (hp : k ≠ p.block) (u : Value) : (w.setCell p u).heap[k]? = some o := by
 simp [World.setCell,Array.getElem?_modify,Ne.symm hp,h]
def feedKey (f : S123) : Value := .agg #[.int .i64 f.f0,.int .i64 f.f1]
def ents (fs : List S123) : List MapEntry := fs.zipIdx.map fun p => ⟨feedKey p.1,.agg #[],p.2⟩
theorem ents_snoc (fs : List S123) (f : S123) : ents (fs ++ [f]) = ents fs ++ [⟨feedKey f,.agg #[],fs.length⟩] := by
 unfold ents;rw [List.zipIdx_append];simp
def hasFeed (fs : List S123) (f : S123) : Bool := fs.any fun g => f.f0 == g.f0 && f.f1 == g.f1
theorem chk (n : Nat) (em : Bool) (w : World) (x y : Int) : (Instr.checkKey em (n + 2) 123 (.agg #[.int .i64 x,.int .i64 y])).run Tryz.prog w = .ok () w := by
 have hu := Tryz.underlying123
 have h3 := Tryz.underlying3
 have h1 : ∀ z,(Instr.checkKey em (n + 1) 3 (.int .i64 z)).run Tryz.prog w = .ok () w := fun z => by simp [Instr.checkKey,run_underlying h3]
 rw [Instr.checkKey]
 simp [run_underlying hu,part,Sem.run_bind,h1,go_sem]
theorem asking (w : World) (f : S123) : ∀ (fs : List S123) (i j : Nat),∃ r,(Instr.findAsking 123 (feedKey f) ((fs.zipIdx j).map fun p => ⟨feedKey p.1,.agg #[],p.2⟩) i).run Tryz.prog w = .ok r w ∧ ((hasFeed fs f = true ∧ ∃ k,r = some (k,.agg #[])) ∨ (hasFeed fs f = false ∧ r = none))
 | [],i,j => ⟨none,by simp [Instr.findAsking],.inr ⟨rfl,rfl⟩⟩
 | g :: fs,i,j => by
  obtain ⟨r,hr,hc⟩ := asking w f fs (i + 1) (j + 1)
  simp only [List.zipIdx_cons,List.map_cons]
  by_cases he : f.f0 = g.f0 ∧ f.f1 = g.f1
  · exact ⟨some (i,.agg #[]),by simp [Instr.findAsking,feedKey,Op.equal,Op.maxDepth,eqFeed 9998,he],.inl ⟨by simp [hasFeed,he],i,rfl⟩⟩
  · refine ⟨r,?_,?_⟩
    · simp only [feedKey] at hr ⊢
      simp [Instr.findAsking,Op.equal,Op.maxDepth,eqFeed 9998,he,hr]
    · have : hasFeed (g :: fs) f = hasFeed fs f := by
       unfold hasFeed;rw [List.any_cons]
       have : (f.f0 == g.f0 && f.f1 == g.f1) = false := by
        rw [Bool.and_eq_false_iff];simp only [beq_eq_false_iff_ne];omega
       rw [this,Bool.false_or]
      rw [this];exact hc
theorem lookE (W : World) (b : Nat) (fs : List S123) (n : Nat) (f : S123) (hb : W.heap[b]? = some (.map (ents fs).toArray n)) :
 (Instr.lookup 143 (.map (some b)) (.agg #[.int .i64 f.f0,.int .i64 f.f1]) true).run Tryz.prog W = .ok (.tuple #[.agg #[],.bool (hasFeed fs f)]) W := by
 have hu := Tryz.underlying143
 obtain ⟨r,hr,hc⟩ := asking W f fs 0 0
 have hf : (Instr.findKey 123 (.agg #[.int .i64 f.f0,.int .i64 f.f1]) (ents fs)).run Tryz.prog W = .ok r W := by
  rw [run_findKey_eq W (by kernel_rfl)];exact hr
 have hk : ∀ em,(Instr.checkKey em 10000 123 (.agg #[.int .i64 f.f0,.int .i64 f.f1])).run Tryz.prog W = .ok () W := fun em => chk 9998 em W f.f0 f.f1
 have hz : (zeroValue 144).run Tryz.prog W = .ok (.agg #[]) W := by kernel_rfl
 have hg : (getObj b).run Tryz.prog W = .ok (.map (ents fs).toArray n) W := by simp [getObj,Sem.run,hb]
 unfold Instr.lookup
 rcases hc with ⟨h1,k,rfl⟩ | ⟨h1,rfl⟩
 · simp [run_underlying hu,go_sem,hg,hk,hf,h1]
 · simp [run_underlying hu,go_sem,hg,hk,hf,h1,hz]
theorem updE (W : World) (b : Nat) (fs : List S123) (f : S123) (hn : hasFeed fs f = false) (hb : W.heap[b]? = some (.map (ents fs).toArray fs.length)) :
 (Instr.mapUpdate 143 (.map (some b)) (.agg #[.int .i64 f.f0,.int .i64 f.f1]) (.agg #[])).run Tryz.prog W = .ok () (setO W b (.map (ents (fs ++ [f])).toArray (fs.length + 1))) := by
 have hu := Tryz.underlying143
 obtain ⟨r,hr,hc⟩ := asking W f fs 0 0
 have hf : (Instr.findKey 123 (.agg #[.int .i64 f.f0,.int .i64 f.f1]) (ents fs)).run Tryz.prog W = .ok r W := by
  rw [run_findKey_eq W (by kernel_rfl)];exact hr
 have hk : ∀ em,(Instr.checkKey em 10000 123 (.agg #[.int .i64 f.f0,.int .i64 f.f1])).run Tryz.prog W = .ok () W := fun em => chk 9998 em W f.f0 f.f1
 have hg : (getObj b).run Tryz.prog W = .ok (.map (ents fs).toArray fs.length) W := by simp [getObj,Sem.run,hb]
 have hs : ∀ o,(setObj b o).run Tryz.prog W = .ok () (setO W b o) := fun o => by simp [setObj,Sem.run,hb,setO]
 unfold Instr.mapUpdate
 rcases hc with ⟨h1,k,rfl⟩ | ⟨h1,rfl⟩
 · rw [hn] at h1;cases h1
 · simp [run_underlying hu,go_sem,hg,hk,hf,h1,hs,ents_snoc,feedKey]
theorem infoC_int : (Tryz.prog.info? 3).map (fun i => (i.zero,i.size,i.bytes)) = some (some (.int .i64 0),1,8) := by kernel_rfl
def sl_Clone_int.f (l0 : List Int) : Option (List Int) := if l0.length < 17592186044416 then some l0 else none
theorem sl_Clone_int.calls (A0 : Option Addr) (c0 : Nat) (l0 : List Int) (r : List Int) (w : World) (hr0 : Kd.C (Kd.int .i64) w A0 l0.length l0) (hc0 : l0.length ≤ c0) (h : sl_Clone_int.f l0 = some r) :
 Calls Tryz.prog 98 #[.slice A0 l0.length c0] w fun e w' => ∃ v0_ : Value,e = .returned v0_ ∧ Kd.R (Kd.int .i64) 3 w' w.heap.size (fun _ => True) v0_ r ∧ Below w.heap.size w w' := by
 unfold sl_Clone_int.f at h
 by_cases hl : l0.length < 17592186044416
 case neg =>
  rw [if_neg hl] at h;cases h
 rw [if_pos hl] at h
 obtain rfl := Option.some.inj h
 clear h
 have hq : ∀ (W : World) (a : Option Addr) (n c : Nat),(binOp .eql 30 (.slice a n c) (.slice none 0 0)).run Tryz.prog W = .ok (.bool a.isNone) W := fun W a n c => Lib.run_eql_slice_nil W 30 3 a n c 0 0 Tryz.underlying30
 cases A0 with
 | none =>
  have hn : l0 = [] := by
   rcases Nat.eq_zero_or_pos l0.length with h0 | h0
   · exact List.eq_nil_of_length_eq_zero h0
   · obtain ⟨ad,e,_⟩ := hr0.2.2 h0;cases e
  subst hn
  clear hr0 hc0 hl
  go_enter Tryz.func98,Tryz.ntmps98
  go_wp2
  go_ret
  exact ⟨_,rfl,Kd.R_nil _ _ _ _ _,Below.refl _ _⟩
 | some ad =>
  have HR := am (kC hr0 (below_alloc (Below.refl _ w) (.cells #[] 3)))
  have HL := am hl
  clear hr0 hc0 hl
  have HO := am (show Kd.R (Kd.int .i64) 3 (w.alloc (.cells #[] 3)) w.heap.size (fun _ => True) (.slice (some ⟨w.heap.size,0,none⟩) 0 0) [] from ⟨fun _ _ => trivial,[],by simpa using World.ownsRow_lit (base := w.heap.size) (e := 3) (size := ((Kd.int .i64)).sz) w #[] 0 (Nat.le_refl _) (by simp [maxLen]) (by simp),Reps.none _ _⟩)
  go_enter Tryz.func98,Tryz.ntmps98
  go_wp2_with ((with_reducible refine gate_builtin (b := .append) (xs := #[.tmp 5,.tmp 6]) rfl ?_);at_builtin;refine Kd.R_append_rows (Kd.int .i64) (Rr := ((Kd.int .i64)).K (w.alloc (.cells #[] 3))) (w0 := w) w.heap.size rfl (.tmp 5) (.tmp 6) 30 3 (.int .i64 0) 8 rfl Tryz.underlying30 infoC_int rfl (by decide) (by omega) (.slice (some ⟨w.heap.size,0,none⟩) 0 0) [] l0 (some ad) l0.length c0 (fun _ => True) (fun _ => False) rfl rfl HO.out HR.out (fun _ _ hk => hk) (fun _ h => h.elim) (fun _ _ => trivial) (below_alloc (Below.refl _ w) _) (by simp) (by have := HL.out;simp;omega) ?_;intro v1 w1 ho hb hg hat)
  go_ret
  exact ⟨v1,rfl,ho,hb⟩
theorem infoC_Z : (Tryz.prog.info? 64).map (fun i => (i.zero,i.size,i.bytes)) = some (some (.agg #[.int .i64 0,.int .i64 0]),2,16) := by kernel_rfl
def sl_Clone_Z.f (l0 : List S64) : Option (List S64) := if l0.length < 8796093022208 then some l0 else none
theorem sl_Clone_Z.calls (A0 : Option Addr) (c0 : Nat) (l0 : List S64) (r : List S64) (w : World) (hr0 : Kd.C k64 w A0 l0.length l0) (hc0 : l0.length ≤ c0) (h : sl_Clone_Z.f l0 = some r) :
 Calls Tryz.prog 103 #[.slice A0 l0.length c0] w fun e w' => ∃ v0_ : Value,e = .returned v0_ ∧ Kd.R k64 64 w' w.heap.size (fun _ => True) v0_ r ∧ Below w.heap.size w w' := by
 unfold sl_Clone_Z.f at h
 by_cases hl : l0.length < 8796093022208
 case neg =>
  rw [if_neg hl] at h;cases h
 rw [if_pos hl] at h
 obtain rfl := Option.some.inj h
 clear h
 have hq : ∀ (W : World) (a : Option Addr) (n c : Nat),(binOp .eql 25 (.slice a n c) (.slice none 0 0)).run Tryz.prog W = .ok (.bool a.isNone) W := fun W a n c => Lib.run_eql_slice_nil W 25 64 a n c 0 0 Tryz.underlying25
 cases A0 with
 | none =>
  have hn : l0 = [] := by
   rcases Nat.eq_zero_or_pos l0.length with h0 | h0
   · exact List.eq_nil_of_length_eq_zero h0
   · obtain ⟨ad,e,_⟩ := hr0.2.2 h0;cases e
  subst hn
  clear hr0 hc0 hl
  go_enter Tryz.func103,Tryz.ntmps103
  go_wp2
  go_ret
  exact ⟨_,rfl,Kd.R_nil _ _ _ _ _,Below.refl _ _⟩
 | some ad =>
  have HR := am (kC hr0 (below_alloc (Below.refl _ w) (.cells #[] 64)))
  have HL := am hl
  clear hr0 hc0 hl
  have HO := am (show Kd.R k64 64 (w.alloc (.cells #[] 64)) w.heap.size (fun _ => True) (.slice (some ⟨w.heap.size,0,none⟩) 0 0) [] from ⟨fun _ _ => trivial,[],by simpa using World.ownsRow_lit (base := w.heap.size) (e := 64) (size := (k64).sz) w #[] 0 (Nat.le_refl _) (by simp [maxLen]) (by simp),Reps.none _ _⟩)
  go_enter Tryz.func103,Tryz.ntmps103
  go_wp2_with ((with_reducible refine gate_builtin (b := .append) (xs := #[.tmp 5,.tmp 6]) rfl ?_);at_builtin;refine Kd.R_append_rows k64 (Rr := (k64).K (w.alloc (.cells #[] 64))) (w0 := w) w.heap.size rfl (.tmp 5) (.tmp 6) 25 64 (.agg #[.int .i64 0,.int .i64 0]) 16 rfl Tryz.underlying25 infoC_Z rfl (by decide) (by omega) (.slice (some ⟨w.heap.size,0,none⟩) 0 0) [] l0 (some ad) l0.length c0 (fun _ => True) (fun _ => False) rfl rfl HO.out HR.out (fun x cs hk => by rw [k64_open hk];exact k64_mkM _ _ _ x) (fun _ h => h.elim) (fun _ _ => trivial) (below_alloc (Below.refl _ w) _) (by simp) (by have := HL.out;simp;omega) ?_;intro v1 w1 ho hb hg hat)
  go_ret
  exact ⟨v1,rfl,ho,hb⟩
theorem infoC_R : (Tryz.prog.info? 126).map (fun i => (i.zero,i.size,i.bytes)) = some (some (.agg #[.int .i64 0,.int .i64 0,.int .i64 0]),3,24) := by kernel_rfl
def sl_Clone_R.f (l0 : List S126) : Option (List S126) := if l0.length < 5864062014805 then some l0 else none
theorem sl_Clone_R.calls (A0 : Option Addr) (c0 : Nat) (l0 : List S126) (r : List S126) (w : World) (hr0 : Kd.C k126 w A0 l0.length l0) (hc0 : l0.length ≤ c0) (h : sl_Clone_R.f l0 = some r) :
 Calls Tryz.prog 112 #[.slice A0 l0.length c0] w fun e w' => ∃ v0_ : Value,e = .returned v0_ ∧ Kd.R k126 126 w' w.heap.size (fun _ => True) v0_ r ∧ Below w.heap.size w w' := by
 unfold sl_Clone_R.f at h
 by_cases hl : l0.length < 5864062014805
 case neg =>
  rw [if_neg hl] at h;cases h
 rw [if_pos hl] at h
 obtain rfl := Option.some.inj h
 clear h
 have hq : ∀ (W : World) (a : Option Addr) (n c : Nat),(binOp .eql 22 (.slice a n c) (.slice none 0 0)).run Tryz.prog W = .ok (.bool a.isNone) W := fun W a n c => Lib.run_eql_slice_nil W 22 126 a n c 0 0 Tryz.underlying22
 cases A0 with
 | none =>
  have hn : l0 = [] := by
   rcases Nat.eq_zero_or_pos l0.length with h0 | h0
   · exact List.eq_nil_of_length_eq_zero h0
   · obtain ⟨ad,e,_⟩ := hr0.2.2 h0;cases e
  subst hn
  clear hr0 hc0 hl
  go_enter Tryz.func112,Tryz.ntmps112
  go_wp2
  go_ret
  exact ⟨_,rfl,Kd.R_nil _ _ _ _ _,Below.refl _ _⟩
 | some ad =>
  have HR := am (kC hr0 (below_alloc (Below.refl _ w) (.cells #[] 126)))
  have HL := am hl
  clear hr0 hc0 hl
  have HO := am (show Kd.R k126 126 (w.alloc (.cells #[] 126)) w.heap.size (fun _ => True) (.slice (some ⟨w.heap.size,0,none⟩) 0 0) [] from ⟨fun _ _ => trivial,[],by simpa using World.ownsRow_lit (base := w.heap.size) (e := 126) (size := (k126).sz) w #[] 0 (Nat.le_refl _) (by simp [maxLen]) (by simp),Reps.none _ _⟩)
  go_enter Tryz.func112,Tryz.ntmps112
  go_wp2_with ((with_reducible refine gate_builtin (b := .append) (xs := #[.tmp 5,.tmp 6]) rfl ?_);at_builtin;refine Kd.R_append_rows k126 (Rr := (k126).K (w.alloc (.cells #[] 126))) (w0 := w) w.heap.size rfl (.tmp 5) (.tmp 6) 22 126 (.agg #[.int .i64 0,.int .i64 0,.int .i64 0]) 24 rfl Tryz.underlying22 infoC_R rfl (by decide) (by omega) (.slice (some ⟨w.heap.size,0,none⟩) 0 0) [] l0 (some ad) l0.length c0 (fun _ => True) (fun _ => False) rfl rfl HO.out HR.out (fun x cs hk => by rw [k126_open hk];exact k126_mkM _ _ _ x) (fun _ h => h.elim) (fun _ _ => trivial) (below_alloc (Below.refl _ w) _) (by simp) (by have := HL.out;simp;omega) ?_;intro v1 w1 ho hb hg hat)
  go_ret
  exact ⟨v1,rfl,ho,hb⟩
section
attribute [local go_sem] max2_int min2_int max_two min_two
def ca_in.f (a0 : Int) (a1 : Int) (a2 : Int) : Option (Bool) := if a0 ≥ a1 then (some (decide (a0 ≤ a2))) else (some false)
theorem ca_in.calls (a0 : Int) (a1 : Int) (a2 : Int) (r : Bool) (w : World) (h : ca_in.f a0 a1 a2 = some r) :
 Calls Tryz.prog 73 #[.int .i64 a0,.int .i64 a1,.int .i64 a2] w fun e w' => e = .returned (.bool r) ∧ Drawn0 w w' := by
 have H : (if a0 ≥ a1 then (some (decide (a0 ≤ a2))) else (some false)) = some r := h
 clear h
 by_cases c4 : a0 ≥ a1
 · rw [if_pos c4] at H
   have c4b0 : decide (a1 ≤ a0) = true := decide_eq_true c4
   clear c4
   obtain rfl := Option.some.inj H
   go_enter Tryz.func73,Tryz.ntmps73
   go_wp2
   go_ret
   exact ⟨by first | rfl | (simp;done) | (simp [*];done),by repeat (first | exact Drawn0.refl _ | apply Drawn0.step)⟩
 · rw [if_neg c4] at H
   have c4b0 : decide (a1 ≤ a0) = false := decide_eq_false c4
   clear c4
   obtain rfl := Option.some.inj H
   go_enter Tryz.func73,Tryz.ntmps73
   go_wp2
   go_ret
   exact ⟨by first | rfl | (simp;done) | (simp [*];done),by repeat (first | exact Drawn0.refl _ | apply Drawn0.step)⟩
def ca_isHeight.f (a0 : Int) : Option (Bool) := (ca_in.f a0 0 40).bind fun t102 => (some t102)
theorem ca_isHeight.calls (a0 : Int) (r : Bool) (w : World) (h : ca_isHeight.f a0 = some r) :
 Calls Tryz.prog 68 #[.int .i64 a0] w fun e w' => e = .returned (.bool r) ∧ Drawn0 w w' := by
 have H : ((ca_in.f a0 0 40).bind fun t102 => (some t102)) = some r := h
 clear h
 replace H := obm H
 obtain ⟨t102,A20,H⟩ := H
 (try dsimp only at H)
 have A2 := Aside0.mk A20
 clear A20
 obtain rfl := Option.some.inj H
 go_enter Tryz.func68,Tryz.ntmps68
 go_wp2_with (first | ((with_reducible refine gate_callee (f := 73) rfl ?_);refine goesL_ (some 4) rfl rfl Tryz.func73 (by kernel_rfl) rfl #[.int .i64 a0,.int .i64 0,.int .i64 40] rfl (by (try simp only [List.map_toArray,List.map_cons,List.map_nil]);first | done | rfl | (simp only [List.length_drop,List.length_take];rfl)) ?_;(with_reducible refine (ca_in.calls a0 0 40 t102 _ A2.out).mono ?_);rintro e w' ⟨rfl,⟨nd,rfl⟩⟩;refine ⟨_,rfl,?_⟩))
 go_ret
 exact ⟨by first | rfl | (simp;done) | (simp [*];done),by repeat (first | exact Drawn0.refl _ | apply Drawn0.step)⟩
end
end Go.Proofs.YticlelgmmonloaaGreatDoor.C
namespace Go.Proofs.YticlelgmmonloaaGreatDoor.C
open Go Go.RowKit Go.Shelf Go.Proofs.YticlelgmmonloaaGreatDoorW.PrintWords Go.Proofs.YticlelgmmonloaaGreatDoorW.PrintLast Go.Proofs.YticlelgmmonloaaGreatDoorW.PrintMore
set_option linter.unusedVariables false
set_option linter.unusedSimpArgs false
set_option maxHeartbeats 16000000
set_option maxRecDepth 100000
abbrev HX := List Int × Option Addr × Nat
def hEnc (x : HX) : Array Value := #[.slice x.2.1 x.1.length x.2.2]
def hOk (nz : Nat) (x : HX) (W : World) : Prop := (x.1.length = nz ∧ ∀ z ∈ x.1,0 ≤ z ∧ z ≤ 40) ∧ x.1.length ≤ x.2.2 ∧ Kd.C (Kd.int .i64) W x.2.1 x.1.length x.1
theorem grown_of_belowN {A B : World} (h : Below A.heap.size A B) : A.grownBy B none := ⟨h.os,h.tape,h.output,h.size,fun k hk _ => h.block k hk⟩
theorem AbidesC.below {β : Type} {B : Nat} {I : β → World → Prop} (h : AbidesC B I) {s : β} {W W' : World} (hs : I s W) (hb : Below W.heap.size W W') : I s W' := h s W W' none hs (grown_of_belowN hb) (fun r e => by cases e)
theorem hAnyRound {F : Fence} (hd : F.depth = none) {m m' : Nat} {P : Program} {l : Nat} {f : FuncId} {tmps : Array Value} {assign body : Code} {w : World} {R : Ending → World → Prop} (h : RoundIn F m P l f tmps assign body w R) : RoundIn F m' P l f tmps assign body w R := ⟨h.1,fun c cs _ => h.2 c cs (fun d h2 => by rw [hd] at h2;cases h2)⟩
theorem hAny {F : Fence} (hd : F.depth = none) {m : Nat} (m' : Nat) {P : Program} {l : Nat} {args : Array Value} {W : World} {R : Ending → World → Prop} (h : YieldAt F m P l args W R) : YieldAt F m' P l args W R := by
 obtain ⟨fn,tmps,assign,body,hy,hR⟩ := h
 exact ⟨fn,tmps,assign,body,hy,hAnyRound hd hR⟩
structure HSt (W w0 : World) (l gn gr gy gb gs : Nat) (A0_0 : Option Addr) (c0_0 : Nat) (n0 : Nat) (a0_1 : Int) (A0_2 : Option Addr) (c0_2 : Nat) (l0_2 : List S64) (a0_3 a0_4 : Int) (now : List Int) : Prop where
 bn : W.heap[gn]? = some (.cells #[.slice (some ⟨gr,0,none⟩) now.length now.length] 30 (0,0))
 br : W.heap[gr]? = some (.cells (now.map (Value.int .i64)).toArray 3 (0,0))
 by_ : W.heap[gy]? = some (.cells #[.func (.yield l) #[] #[]] 109 (0,0))
 bb : W.heap[gb]? = some (.cells #[.slice A0_0 n0 c0_0,.int .i64 a0_1,.slice A0_2 l0_2.length c0_2,.int .i64 a0_3,.int .i64 a0_4] 27 (0,0))
 bs : W.heap[gs]? = some (.cells #[.func (.func 106) #[] #[.pointer (some ⟨gn,0,none⟩),.pointer (some ⟨gy,0,none⟩),.pointer (some ⟨gb,0,none⟩),.pointer (some ⟨gs,0,none⟩)]] 140 (0,0))
 old : KeepsCells w0 W
 gr0 : w0.heap.size ≤ gr
 cap : now.length ≤ 9223372036854775807
theorem obj_ne {W : World} {a b : Nat} {x y : Array Value} {s t : Nat} (ha : W.heap[a]? = some (.cells x s (0,0))) (hb : W.heap[b]? = some (.cells y t (0,0))) (h : s ≠ t) : a ≠ b := fun e => by subst e;rw [ha] at hb;injection hb with hb;injection hb with _ h2 _;exact h h2
theorem keeps_cell {W W' : World} (hk : KeepsCells W W') {a : Addr} {v : Value} (h : W.cell? a = some v) : W'.cell? a = some v := by
 obtain ⟨o,ho,hc⟩ := cells_of_cell h
 have h2 := hk.same _ _ ho hc
 unfold World.cell? at h ⊢
 rw [h2]
 rw [ho] at h
 exact h
theorem keeps_C {α : Type} {d : Kd α} (hd : ∀ {W W' : World} {x : α} {cs : List Value},d.K W x cs → d.K W' x cs) {W W' : World} (hk : KeepsCells W W') {A : Option Addr} {n : Nat} {xs : List α} (h : d.C W A n xs) : d.C W' A n xs :=
 ⟨h.1,h.2.1,fun hn => by obtain ⟨ad,e,hc⟩ := h.2.2 hn;exact ⟨ad,e,fun j p hj => by obtain ⟨c,hl,hK,hcc⟩ := hc j p hj;exact ⟨c,hl,hd hK,fun i u hu => keeps_cell hk (hcc i u hu)⟩⟩⟩
theorem KeepsCells.set_ {w0 W : World} (hk : KeepsCells w0 W) {g : Nat} (hg : w0.heap.size ≤ g) (i : Nat) (v : Value) : KeepsCells w0 (W.setCell ⟨g,i,none⟩ v) := by
 have hb := (Below.refl w0.heap.size W).setCell (p := ⟨g,i,none⟩) hg v
 exact ⟨hb.os.trans hk.os,hb.tape.trans hk.tape,hb.output.trans hk.output,Nat.le_trans hk.size hb.size,fun k o ho hc => (hb.block k (Array.getElem?_eq_some_iff.1 ho).1).trans (hk.same k o ho hc)⟩
theorem HSt.keeps {w0 : World} {l gn gr gy gb gs : Nat} {A0_0 : Option Addr} {c0_0 n0 : Nat} {a0_1 : Int} {A0_2 : Option Addr} {c0_2 : Nat} {l0_2 : List S64} {a0_3 a0_4 : Int} {now : List Int} {W W' : World} (st : HSt W w0 l gn gr gy gb gs A0_0 c0_0 n0 a0_1 A0_2 c0_2 l0_2 a0_3 a0_4 now) (hk : KeepsCells W W') : HSt W' w0 l gn gr gy gb gs A0_0 c0_0 n0 a0_1 A0_2 c0_2 l0_2 a0_3 a0_4 now :=
 ⟨hk.same _ _ st.bn rfl,hk.same _ _ st.br rfl,hk.same _ _ st.by_ rfl,hk.same _ _ st.bb rfl,hk.same _ _ st.bs rfl,st.old.trans hk,st.gr0,st.cap⟩
theorem HSt.store {w0 : World} {l gn gr gy gb gs : Nat} {A0_0 : Option Addr} {c0_0 n0 : Nat} {a0_1 : Int} {A0_2 : Option Addr} {c0_2 : Nat} {l0_2 : List S64} {a0_3 a0_4 : Int} {now : List Int} {W : World} (st : HSt W w0 l gn gr gy gb gs A0_0 c0_0 n0 a0_1 A0_2 c0_2 l0_2 a0_3 a0_4 now) (i : Nat) (h : Int) : HSt (W.setCell ⟨gr,i,none⟩ (.int .i64 h)) w0 l gn gr gy gb gs A0_0 c0_0 n0 a0_1 A0_2 c0_2 l0_2 a0_3 a0_4 (now.set i h) :=
 ⟨by rw [List.length_set];exact obj_far (p := ⟨gr,i,none⟩) st.bn (obj_ne st.bn st.br (by decide)) _,by refine (blk_set st.br i _).trans ?_;simp [List.map_set],obj_far (p := ⟨gr,i,none⟩) st.by_ (obj_ne st.by_ st.br (by decide)) _,obj_far (p := ⟨gr,i,none⟩) st.bb (obj_ne st.bb st.br (by decide)) _,obj_far (p := ⟨gr,i,none⟩) st.bs (obj_ne st.bs st.br (by decide)) _,
  KeepsCells.set_ st.old st.gr0 i _,st.gr0,by rw [List.length_set];exact st.cap⟩
theorem set_end_no (w0 : World) (l gn gr gy gb gs : Nat) (A0_0 : Option Addr) (c0_0 n0 : Nat) (a0_1 : Int) (A0_2 : Option Addr) (c0_2 : Nat) (l0_2 : List S64) (a0_3 a0_4 : Int) (now : List Int) (left : Int) (hl : 0 < left) (n : Nat) (W : World) (st : HSt W w0 l gn gr gy gb gs A0_0 c0_0 n0 a0_1 A0_2 c0_2 l0_2 a0_3 a0_4 now) :
 CallsIn Fence.wide n Tryz.prog 106 #[.int .i64 now.length,.int .i64 left,.pointer (some ⟨gn,0,none⟩),.pointer (some ⟨gy,0,none⟩),.pointer (some ⟨gb,0,none⟩),.pointer (some ⟨gs,0,none⟩)] W fun e W' => e = .returned (.bool true) ∧ Below W.heap.size W W' := by
 have hd0 : decide (0 < left) = true := decide_eq_true hl
 have hcap := st.cap
 have c0 := (blk_cell st.bn 0).trans rfl
 refine callsIn_of_wp Tryz.func106 rfl trivial ?_ rfl
 simp only [Tryz.ntmps106,List.size_toArray,List.length_cons,List.length_nil,Nat.reduceAdd,Nat.reduceSub,Array.replicate_succ,Array.replicate_zero,List.push_toArray,List.append_toArray,List.nil_append,List.cons_append]
 have c1 := (blk_cell st.by_ 0).trans rfl
 gi_wp2
 gi_region_with (first | refine ⟨trivial,?_⟩ | refine ⟨fun _ _ => trivial,?_⟩)
 all_goals gi_wp2
 all_goals go_ret
 all_goals exact ⟨rfl,(by repeat (first | exact Below.refl _ _ | apply pw_below_drewN | apply below_drew1))⟩
theorem oneWay {e : Ending} {A1 A2 B1 : Prop} (h : (e = .returned (.bool true) ∧ A1 ∧ A2) ∨ (e = .returned (.bool false) ∧ B1)) : ∃ bb,e = .returned (.bool bb) ∧ (match bb with | true => A1 ∧ A2 | false => B1) := h.elim (fun ⟨a,b⟩ => ⟨true,a,b⟩) (fun ⟨a,b⟩ => ⟨false,a,b⟩)
theorem rowC {W : World} {gr : Nat} {now : List Int} (hb : W.heap[gr]? = some (.cells (now.map (Value.int .i64)).toArray 3 (0,0))) (hc : now.length ≤ 9223372036854775807) : (Kd.int .i64).C W (some ⟨gr,0,none⟩) now.length now := by
 refine ⟨rfl,hc,fun hn => ⟨_,rfl,fun j p hj => ⟨[.int .i64 p],rfl,rfl,?_⟩⟩⟩
 intro i u hu
 cases i with
 | succ i => simp at hu
 | zero =>
  have hu : Value.int .i64 p = u := by simpa using hu
  subst hu
  have ha : (Addr.add ⟨gr,0,none⟩ (j * (Kd.int .i64).sz + 0)) = ⟨gr,j,none⟩ := by
   show Addr.add ⟨gr,0,none⟩ (j * 1 + 0) = _
   simp [Addr.add]
   try (intro h;omega)
  rw [ha]
  refine (blk_cell hb j).trans ?_
  simp [hj]
theorem set_end_yes (w0 : World) (l gn gr gy gb gs : Nat) (A0_0 : Option Addr) (c0_0 n0 : Nat) (a0_1 : Int) (A0_2 : Option Addr) (c0_2 : Nat) (l0_2 : List S64) (a0_3 a0_4 : Int) (J Jx : List HX → World → Prop) (Bd : Nat) (hJ : AbidesC Bd J) (m : Nat) (hY : ∀ pre x W1,J pre W1 → hOk l0_2.length x W1 → YieldAt Fence.wide m Tryz.prog l (hEnc x) W1 fun e W' => (e = .returned (.bool true) ∧ J (pre ++ [x]) W' ∧ KeepsCells W1 W') ∨ (e = .returned (.bool false) ∧ Jx (pre ++ [x]) W'))
 (now : List Int) (left : Int) (hl : ¬ 0 < left) (hnl : now.length < 17592186044416) (hP : now.length = l0_2.length ∧ ∀ z ∈ now,0 ≤ z ∧ z ≤ 40) (n : Nat) (pre : List HX) (W : World) (st : HSt W w0 l gn gr gy gb gs A0_0 c0_0 n0 a0_1 A0_2 c0_2 l0_2 a0_3 a0_4 now) (hj : J pre W) :
 CallsIn Fence.wide n Tryz.prog 106 #[.int .i64 now.length,.int .i64 left,.pointer (some ⟨gn,0,none⟩),.pointer (some ⟨gy,0,none⟩),.pointer (some ⟨gb,0,none⟩),.pointer (some ⟨gs,0,none⟩)] W fun e W' => (e = .returned (.bool true) ∧ KeepsCells W W' ∧ ∃ x : HX,x.1 = now ∧ J (pre ++ [x]) W') ∨ (e = .returned (.bool false) ∧ ∃ x : HX,x.1 = now ∧ Jx (pre ++ [x]) W') := by
 have HP := am hP
 clear hP
 have hd0 : decide (0 < left) = false := decide_eq_false hl
 have hcap := st.cap
 have c0 := (blk_cell st.bn 0).trans rfl
 have c1 := (blk_cell st.by_ 0).trans rfl
 have HD := am (below_drew (Below.refl W.heap.size W))
 have HC := am (sl_Clone_int.calls (some ⟨gr,0,none⟩) now.length now now W.drew (kC (rowC st.br st.cap) HD.out) (Nat.le_refl _) (if_pos hnl))
 have HJ1 := am (hJ.below hj HD.out)
 refine callsIn_of_wp Tryz.func106 rfl trivial ?_ rfl
 simp only [Tryz.ntmps106,List.size_toArray,List.length_cons,List.length_nil,Nat.reduceAdd,Nat.reduceSub,Array.replicate_succ,Array.replicate_zero,List.push_toArray,List.append_toArray,List.nil_append,List.cons_append]
 gi_wp2
 gi_region_with (first | (refine ⟨trivial,fun h => Bool.noConfusion h,?_⟩;refine (callsIn_wide.2 HC.out).mono ?_;rintro e w1 ⟨v1,rfl,hr,hb⟩;obtain ⟨Ax,cx,rfl,hlx,hcx⟩ := Kd.R_reads hr;have hy1 := hY pre (now,Ax,cx) w1 (hJ.below HJ1.out hb) ⟨HP.out,hlx,hcx⟩;obtain ⟨fn,tmps,assign,body,hy,hR⟩ := hAny rfl (n - 1) hy1;dsimp only [hEnc] at hy;have c2 : w1.cell? ⟨gy,0,none⟩ = some (.func (.yield l) #[] #[]) := (blk_cell (blk_below (blk_drew st.by_) hb) 0).trans rfl) | (refine hR.mono ?_;intro e W2 hh;obtain ⟨bb,rfl,hres⟩ := oneWay hh) | (refine ⟨fun _ _ => trivial,fun h => Bool.noConfusion h,?_⟩;refine hR.mono ?_;intro e W2 hh;obtain ⟨bb,rfl,hres⟩ := oneWay hh) | (refine ⟨fun h => Bool.noConfusion h,?_⟩;refine hR.mono ?_;intro e W2 hh;obtain ⟨bb,rfl,hres⟩ := oneWay hh))
 all_goals gi_wp2
 all_goals go_ret
 all_goals (cases bb with | false => exact .inr ⟨rfl,_,rfl,hres⟩ | true => exact .inl ⟨rfl,((KeepsCells.of_below HD.out).trans (KeepsCells.of_below hb)).trans hres.2,_,rfl,hres.1⟩)
end Go.Proofs.YticlelgmmonloaaGreatDoor.C

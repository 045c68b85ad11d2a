/- A part of the proof: the walks of the functions that it reaches. TIGHT. -/
import Derived.Test.YticlelgmmonloaaGreatDoorM16
import Derived.Test.YticlelgmmonloaaGreatDoorM14
import Derived.Tactics2
import Derived.Defers
import Derived.Recover
import Derived.Laws.Pointers
import Derived.Lib.Hide
set_option linter.unusedVariables false
set_option linter.unusedSimpArgs false
namespace Go.Proofs.YticlelgmmonloaaGreatDoor.C
open Go Go.Abs Go.RowKit
set_option linter.unusedVariables false
set_option linter.unusedSimpArgs false
set_option maxHeartbeats 16000000
set_option maxRecDepth 100000
abbrev I (n : Int) : AV := .int .i64 n
abbrev U : AV := .tup []
abbrev L {α : Type} : T4 α := .leaf
abbrev N {α : Type} (v : α) (a b c d : T4 α) : T4 α := .node v a b c d
abbrev N0 {α : Type} (v : α) : T4 α := .node v .leaf .leaf .leaf .leaf
abbrev N1 {α : Type} (v : α) (a : T4 α) : T4 α := .node v a .leaf .leaf .leaf
abbrev N2 {α : Type} (v : α) (a : T4 α) : T4 α := .node v .leaf a .leaf .leaf
abbrev N3 {α : Type} (v : α) (a : T4 α) : T4 α := .node v .leaf .leaf a .leaf
abbrev N4 {α : Type} (v : α) (a : T4 α) : T4 α := .node v .leaf .leaf .leaf a
noncomputable def knownCall : CallF := fCall Tryz.prog Go.Proofs.YticlelgmmonloaaGreatDoor.C.castleHook 100000 60
noncomputable def kt0 : FT := ofL []
noncomputable def kg0 : Sg := sgOf ⟨.leaf,0,[]⟩
noncomputable def kt1 : FT := (N U (N U L (N (.ptr 318 0) (N0 (I 0)) L L L) (N (.ptr 175 0) (N0 (I 0)) L L L) (N0 (.opn 36 3))) (N U (N0 (I 1)) (N1 U (N0 (I 0))) (N (I 3) (N0 (.bool false)) L L L) L) (N U (N (.opn 710 3) (N0 (I 0)) L L L) (N (.ptr 244 0) (N0 (I 0)) L L L) (N0 (.opn 114 3)) L) (N U (N (.opn 424 3) (N0 (I 0)) L L L) (N (.opn 243 3) (N0 (I 0)) L L L) (N0 (I 10)) L))
noncomputable def kg1 : Sg := sgOf ⟨(N none (N none (N3 none (N1 none (N0 (some (.cells 126 none [(I 5),(I 4),(I 10),(I 10),(I 8),(I 20),(I 20),(I 15),(I 45)]))))) L (N none L (N2 none (N1 none (N0 (some (.cells 3 none [(I 8),(I 12),(I 12)]))))) (N0 (some (.cells 64 none [(I 0),(I 10),(I 1),(I 10),(I 2),(I 12)]))) L) (N3 none (N4 none (N0 (some (.cells 126 none [(I 5),(I 4),(I 10),(I 10),(I 8),(I 20),(I 20),(I 15),(I 45)])))))) (N (some (.cells 126 none [(I 5),(I 4),(I 10),(I 10),(I 8),(I 20),(I 20),(I 15),(I 45)])) (N none L L (N1 none (N0 (some (.cells 64 none [(I 0),(I 10),(I 1),(I 10),(I 2),(I 12)])))) (N2 none (N2 none (N0 (some (.cells 3 (some 1) [(I 10),(I 11),(I 12)])))))) L (N3 none (N4 none (N0 (some (.cells 40 none [(I 27),(I 56)]))))) (N none L (N none (N0 (some (.cells 3 (some 1) [(I 10),(I 20),(I 45)]))) (N0 (some (.cells 126 none [(I 5),(I 4),(I 10),(I 10),(I 8),(I 20),(I 20),(I 15),(I 45)]))) L L) (N4 none (N0 (some (.cells 64 none [(I 0),(I 10),(I 1),(I 10),(I 2),(I 12)])))) L)) (N (some (.cells 64 none [(I 0),(I 10),(I 1),(I 10),(I 2),(I 12)])) (N3 none (N3 none (N0 (some (.cells 126 none [(I 5),(I 4),(I 10),(I 10),(I 8),(I 20),(I 20),(I 15),(I 45)]))))) (N2 none (N2 none (N1 none (N0 (some (.cells 126 none [(I 5),(I 4),(I 10),(I 10),(I 8),(I 20),(I 20),(I 15),(I 45)])))))) (N2 none (N2 none (N0 (some (.cells 40 none [(I 13),(I 15)]))))) (N2 none (N none L (N0 (some (.cells 64 none [(I 0),(I 10),(I 1),(I 10),(I 2),(I 12)]))) (N0 (some (.cells 40 (some 2) [(I 8),(I 10),(I 13),(I 20),(I 9),(I 30)]))) L))) (N none (N none L (N2 none (N1 none (N0 (some (.cells 3 (some 1) [(I (-4)),(I (-5)),(I 9)]))))) (N3 none (N0 (some (.cells 64 none [(I 0),(I 10),(I 1),(I 10),(I 2),(I 12)])))) L) (N none L (N2 none (N1 none (N0 (some (.cells 64 none [(I 0),(I 10),(I 1),(I 10),(I 2),(I 12)]))))) (N0 (some (.cells 126 none [(I 5),(I 4),(I 10),(I 10),(I 8),(I 20),(I 20),(I 15),(I 45)]))) L) L (N none (N0 (some (.ro 3 (some 1) [(I 10),(I 20),(I 45)]))) (N3 none (N0 (some (.cells 40 none [(I 0),(I 0)])))) L L))),758,[710,429,428,427,424,322,321,318,318,248,247,244,244,243,179,178,175,175,118,117,114,61,60,36,3,2]⟩
noncomputable def kt2 : FT := (N U (N U (N0 (.opn 5340 2)) (N (.ptr 318 0) (N0 (I 0)) L L L) (N (.ptr 175 0) (N0 (I 0)) L L L) (N0 (.opn 36 3))) (N U (N (I 1) (N0 (I 0)) L L L) (N1 U (N0 (I 0))) (N (I 3) (N0 (.bool false)) L L L) L) (N U (N (.opn 710 3) (N0 (I 0)) L L L) (N (.ptr 244 0) (N0 (I 0)) L L L) (N0 (.opn 114 3)) L) (N U (N (.opn 424 3) (N0 (I 0)) L L L) (N (.opn 243 3) (N0 (I 0)) L L L) (N0 (I 10)) L))
noncomputable def kg2 : Sg := sgOf ⟨(N none (N none (N3 none (N1 none (N0 (some (.cells 126 none [(I 5),(I 4),(I 10),(I 10),(I 8),(I 20),(I 20),(I 15),(I 45)]))))) (N3 none (N3 none (N2 none (N0 (some (.cells 64 none [(I 0),(I 10),(I 1),(I 10),(I 2),(I 12)])))))) (N none L (N2 none (N1 none (N0 (some (.cells 3 none [(I 8),(I 12),(I 12)]))))) (N0 (some (.cells 64 none [(I 0),(I 10),(I 1),(I 10),(I 2),(I 12)]))) L) (N3 none (N4 none (N0 (some (.cells 126 none [(I 5),(I 4),(I 10),(I 10),(I 8),(I 20),(I 20),(I 15),(I 45)])))))) (N (some (.cells 126 none [(I 5),(I 4),(I 10),(I 10),(I 8),(I 20),(I 20),(I 15),(I 45)])) (N none L L (N1 none (N0 (some (.cells 64 none [(I 0),(I 10),(I 1),(I 10),(I 2),(I 12)])))) (N2 none (N2 none (N0 (some (.cells 3 (some 1) [(I 10),(I 11),(I 12)])))))) (N3 none (N3 none (N2 none (N0 (some (.cells 40 none [(I 4),(I 4),(I 8),(I 8),(I 18),(I 18)])))))) (N3 none (N4 none (N0 (some (.cells 40 none [(I 27),(I 56)]))))) (N none L (N none (N0 (some (.cells 3 (some 1) [(I 10),(I 20),(I 45)]))) (N0 (some (.cells 126 none [(I 5),(I 4),(I 10),(I 10),(I 8),(I 20),(I 20),(I 15),(I 45)]))) L L) (N4 none (N0 (some (.cells 64 none [(I 0),(I 10),(I 1),(I 10),(I 2),(I 12)])))) L)) (N (some (.cells 64 none [(I 0),(I 10),(I 1),(I 10),(I 2),(I 12)])) (N3 none (N3 none (N0 (some (.cells 126 none [(I 5),(I 4),(I 10),(I 10),(I 8),(I 20),(I 20),(I 15),(I 45)]))))) (N2 none (N2 none (N1 none (N0 (some (.cells 126 none [(I 5),(I 4),(I 10),(I 10),(I 8),(I 20),(I 20),(I 15),(I 45)])))))) (N2 none (N2 none (N0 (some (.cells 40 none [(I 13),(I 15)]))))) (N2 none (N none L (N0 (some (.cells 64 none [(I 0),(I 10),(I 1),(I 10),(I 2),(I 12)]))) (N0 (some (.cells 40 (some 2) [(I 8),(I 10),(I 13),(I 20),(I 9),(I 30)]))) L))) (N none (N none L (N2 none (N1 none (N0 (some (.cells 3 (some 1) [(I (-4)),(I (-5)),(I 9)]))))) (N3 none (N (some (.cells 64 none [(I 0),(I 10),(I 1),(I 10),(I 2),(I 12)])) L (N0 (some (.cells 126 none [(I 5),(I 4),(I 10),(I 10),(I 8),(I 20),(I 20),(I 15),(I 45)]))) L L)) L) (N none (N3 none (N4 none (N4 none (N0 (some (.cells 58 (some 2) [(I 2),(I 9),(I 2),(I 10)])))))) (N2 none (N1 none (N0 (some (.cells 64 none [(I 0),(I 10),(I 1),(I 10),(I 2),(I 12)]))))) (N0 (some (.cells 126 none [(I 5),(I 4),(I 10),(I 10),(I 8),(I 20),(I 20),(I 15),(I 45)]))) L) L (N none (N0 (some (.ro 3 (some 1) [(I 10),(I 20),(I 45)]))) (N3 none (N0 (some (.cells 40 none [(I 0),(I 0)])))) L L))),6791,[5340,762,761,760,710,429,428,427,424,322,321,318,318,248,247,244,244,243,179,178,175,175,118,117,114,61,60,36,3,2]⟩
theorem ks0 : ((kcOf Tryz.prog 15).drop 0).seqs 8 = true := by kernel_rfl
theorem kr0 (kx : KX) (k : KT) : warm 1 (runKX 100000 (((kcOf Tryz.prog 15).drop 0).take 8) ⟨Tryz.prog,knownCall,kx⟩ kt0 kg0 k) = k kt1 kg1 := by kernel_rfl
theorem ks1 : ((kcOf Tryz.prog 15).drop 8).seqs 1 = true := by kernel_rfl
theorem kr1 (kx : KX) (k : KT) : warm 12 (runKX 99992 (((kcOf Tryz.prog 15).drop 8).take 1) ⟨Tryz.prog,knownCall,kx⟩ kt1 kg1 k) = k kt2 kg2 := by kernel_rfl
theorem klast : okTrue (warm 107 (from_ Tryz.prog knownCall 15 9 99991 kt2 kg2)) = true := by kernel_rfl
theorem known_run : okTrue (runF Tryz.prog Go.Proofs.YticlelgmmonloaaGreatDoor.C.castleHook 100000 60 15 []) = true := by
 rw [runF_from]
 rw [show from_ Tryz.prog (fCall Tryz.prog Go.Proofs.YticlelgmmonloaaGreatDoor.C.castleHook 100000 60) 15 0 100000 (ofL []) (sgOf ⟨.leaf,0,[]⟩) = from_ Tryz.prog knownCall 15 0 100000 kt0 kg0 from rfl]
 rw [show from_ Tryz.prog knownCall 15 0 100000 kt0 kg0 = from_ Tryz.prog knownCall 15 8 99992 kt1 kg1 from from_step (K := 99991) (m := 8) ks0 fun kx k => (warm_eq 1 _).symm.trans (kr0 kx k)]
 rw [show from_ Tryz.prog knownCall 15 8 99992 kt1 kg1 = from_ Tryz.prog knownCall 15 9 99991 kt2 kg2 from from_step (K := 99990) (m := 1) ks1 fun kx k => (warm_eq 12 _).symm.trans (kr1 kx k)]
 exact (congrArg okTrue (warm_eq 107 _)).symm.trans klast
end Go.Proofs.YticlelgmmonloaaGreatDoor.C
namespace Go.Proofs.YticlelgmmonloaaGreatDoor.C
open Go Go.RowKit Go.Abs
set_option linter.unusedVariables false
set_option linter.unusedSimpArgs false
set_option maxHeartbeats 16000000
set_option maxRecDepth 100000
def l4_known.f : Option Bool := some true
theorem l4_known.calls (r : Bool) (w : World) (h : l4_known.f = some r) : Calls Tryz.prog 15 #[] w fun e w' => e = .returned (.bool r) ∧ Below w.heap.size w w' := by
 cases h
 exact calls_true castleHook_ok known_run w
theorem known_true : l4_known.f = some true := rfl
end Go.Proofs.YticlelgmmonloaaGreatDoor.C
namespace Go.Proofs.YticlelgmmonloaaGreatDoor.C
open Go.RowKit Go.Proofs.YticlelgmmonloaaGreatDoorW.PrintWords Go.Proofs.YticlelgmmonloaaGreatDoorW.PrintLast Go.Proofs.YticlelgmmonloaaGreatDoorW.PrintMore
set_option linter.unusedVariables false
set_option linter.unusedSimpArgs false
set_option maxHeartbeats 16000000
set_option maxRecDepth 100000
section
attribute [local go_sem] max2_int min2_int max_two min_two
set_option linter.unusedSimpArgs false
def ca_Level.j0 : Nat → Bool → List (S126) → Int → List (S64) → Int → Int → Int → Int → Option (Int × Int × Int)
 | 0,_,_,_,_,_,_,_,_ => none
 | k + 1,x14,x193000,x193001,x193002,x193003,x193004,x194000,x194001 => if x14 = true then (some (0,0,2)) else ((ca_fill.f k x193000 x193001 x193002 x193003 x193004).bind fun bt209 => ((gf_level.f x193000 bt209.1 x193002 bt209.2.1 bt209.2.2.1 bt209.2.2.2 x194000).bind fun t216 => ((gf_level.f x193000 bt209.1 x193002 bt209.2.1 bt209.2.2.1 bt209.2.2.2 x194001).bind fun t217 => (some (t216,t217,0)))))
def ca_Level.f (k : Nat) (l0_0 : List (S126)) (a0_1 : Int) (l0_2 : List (S64)) (a0_3 : Int) (a0_4 : Int) (a1_0 : Int) (a1_1 : Int) : Option (Int × Int × Int) := (ca_isBasin.f l0_0 a0_1 l0_2 a0_3 a0_4).bind fun t195 => (if t195 = true then ((isSpan_isFlow.f a1_0 a1_1).bind fun t196 => (ca_Level.j0 k (!t196) l0_0 a0_1 l0_2 a0_3 a0_4 a1_0 a1_1)) else (ca_Level.j0 k true l0_0 a0_1 l0_2 a0_3 a0_4 a1_0 a1_1))
def ca_Level.T4 : Bool × List (List Nat × List Nat) := (true,[([],[]),([],[]),([1],[1]),([0,2],[0,2]),([],[]),([],[]),([5],[5]),([4,6,3],[4,6]),([3,7],[3,7]),([8,7,0,1,2,3,4,5,6,7,8],[8]),([9,0,1,2,3,4,5,6,7,8,9],[])])
def ca_Level.B4 : List Nat := [0,0,2,7,0,0,32,127,255,511,1023]
theorem ca_Level.tab4 : rtab .any (opsOf Tryz.f22 4) = ca_Level.T4 := by kernel_rfl
theorem ca_Level.bits4 : waitsOk ca_Level.T4.2 ca_Level.B4 = true := by kernel_rfl
theorem ca_Level.calls (k : Nat) (A0_0 : Option Addr) (c0_0 : Nat) (l0_0 : List (S126)) (a0_1 : Int) (A0_2 : Option Addr) (c0_2 : Nat) (l0_2 : List (S64)) (a0_3 : Int) (a0_4 : Int) (a1_0 : Int) (a1_1 : Int) (r1 : Int) (r2 : Int) (r3 : Int) (w : World) (hr0_0 : Kd.C k126 w A0_0 l0_0.length l0_0) (hc0_0 : l0_0.length ≤ c0_0) (hr0_2 : Kd.C k64 w A0_2 l0_2.length l0_2) (hc0_2 : l0_2.length ≤ c0_2) (h : ca_Level.f k l0_0 a0_1 l0_2 a0_3 a0_4 a1_0 a1_1 = some (r1,r2,r3)) :
 Calls Tryz.prog 22 #[.agg #[.slice A0_0 l0_0.length c0_0,.int .i64 a0_1,.slice A0_2 l0_2.length c0_2,.int .i64 a0_3,.int .i64 a0_4],.agg #[.int .i64 a1_0,.int .i64 a1_1]] w fun e w' => e = .returned (.tuple #[.agg #[.int .i64 r1,.int .i64 r2],.int .i64 r3]) ∧ Below w.heap.size w w' := by
 have hu27 := Tryz.underlying27
 have hu40 := Tryz.underlying40
 have hu99 := Tryz.underlying99
 have HR0_0 := am hr0_0
 have HC0_0 := am hc0_0
 clear hr0_0 hc0_0
 have HR0_2 := am hr0_2
 have HC0_2 := am hc0_2
 clear hr0_2 hc0_2
 have HB := am (Below.refl w.heap.size w)
 have H : ((ca_isBasin.f l0_0 a0_1 l0_2 a0_3 a0_4).bind fun t195 => (if t195 = true then ((isSpan_isFlow.f a1_0 a1_1).bind fun t196 => (ca_Level.j0 k (!t196) l0_0 a0_1 l0_2 a0_3 a0_4 a1_0 a1_1)) else (ca_Level.j0 k true l0_0 a0_1 l0_2 a0_3 a0_4 a1_0 a1_1))) = some (r1,r2,r3) := h
 clear h
 have HC3 := am H
 clear H
 go_enter Tryz.func22,Tryz.ntmps22
 go_upto_region 1 with (first | ((refine gate_dst (N := 2) rfl ?_);refine box_event rfl (N := 2) rfl (cs := #[.slice A0_0 l0_0.length c0_0,.int .i64 a0_1,.slice A0_2 l0_2.length c0_2,.int .i64 a0_3,.int .i64 a0_4]) (t := 27) ?hr ?_;(case hr => go_simp;try rfl);intro gb192 hg w4 hbox hb;have BK192 := am (hbox);have GW192 := am (ge_new (HB.out) hg);have GE192 := am (ge_new (HB.out) hg);replace HB := am (below_step (HB.out) hb);clear hb hbox hg) | ((refine gate_dst (N := 3) rfl ?_);refine box_event rfl (N := 3) rfl (cs := #[.int .i64 a1_0,.int .i64 a1_1]) (t := 40) ?hr ?_;(case hr => go_simp;try rfl);intro gb193 hg w5 hbox hb;have BK193 := am (hbox);have GW193 := am (ge_new (HB.out) hg);have GE193 := am (ge_new (HB.out) hg);have NB192_193 := am (ne_new BK192.out hg);have NB193_192 := am (ne_new2 BK192.out hg);replace BK192 := (kmv hb BK192);replace HB := am (below_step (HB.out) hb);clear hb hbox hg) | ((refine gate_dst (N := 4) rfl ?_);refine box_event rfl (N := 4) rfl (cs := #[.int .i64 0,.int .i64 0]) (t := 40) ?hr ?_;(case hr => go_simp;try rfl);intro gb194 hg w6 hbox hb;have BK194 := am (hbox);have GW194 := am (ge_new (HB.out) hg);have GE194 := am (ge_new (HB.out) hg);have NB192_194 := am (ne_new BK192.out hg);have NB194_192 := am (ne_new2 BK192.out hg);have NB193_194 := am (ne_new BK193.out hg);have NB194_193 := am (ne_new2 BK193.out hg);replace BK192 := (kmv hb BK192);replace BK193 := (kmv hb BK193);replace HB := am (below_step (HB.out) hb);clear hb hbox hg))
 (try simp only [Act.put,List.setIfInBounds_toArray,List.set_cons_zero,List.set_cons_succ])
 go_cut [14] (fun v14 wc => ∃ (kq : Nat) (x14_2 : Bool),v14 = .bool x14_2 ∧ Aside0 (ca_Level.j0 kq x14_2 l0_0 a0_1 l0_2 a0_3 a0_4 a1_0 a1_1 = some (r1,r2,r3)) ∧ Aside0 (kq ≤ k) ∧ Aside0 (wc.heap[gb192]? = some (.cells #[(.slice A0_0 l0_0.length c0_0),.int .i64 a0_1,(.slice A0_2 l0_2.length c0_2),.int .i64 a0_3,.int .i64 a0_4] 27 (0,0))) ∧ Aside0 (wc.heap[gb193]? = some (.cells #[.int .i64 a1_0,.int .i64 a1_1] 40 (0,0))) ∧ Aside0 (wc.heap[gb194]? = some (.cells #[.int .i64 0,.int .i64 0] 40 (0,0))) ∧ Aside0 (Below w.heap.size w wc))
 case first =>
  have H := HC3.out
  clear HC3
  replace H := obm H
  obtain ⟨t195,A70,H⟩ := H
  replace H : (if t195 = true then ((isSpan_isFlow.f a1_0 a1_1).bind fun t196 => (ca_Level.j0 k (!t196) l0_0 a0_1 l0_2 a0_3 a0_4 a1_0 a1_1)) else (ca_Level.j0 k true l0_0 a0_1 l0_2 a0_3 a0_4 a1_0 a1_1)) = some (r1,r2,r3) := H
  have A7 := am A70
  clear A70
  by_cases c8 : t195 = true
  case neg =>
   replace c8 := Bool.eq_false_iff.mpr c8
   subst c8
   replace H : (ca_Level.j0 k true l0_0 a0_1 l0_2 a0_3 a0_4 a1_0 a1_1) = some (r1,r2,r3) := by rw [if_neg (show ¬ (false = true) by decide)] at H;exact H
   replace H' := am H
   have hnb17 := NB192_193.out
   have hnc17 := NB193_192.out
   have hnb18 := NB192_194.out
   have hnc18 := NB194_192.out
   obtain ⟨hcz19_0,hcz19_1,hcz19_2,hcz19_3,hcz19_4⟩ := cO5 BK192.out
   go_wp2_with (first | ((with_reducible refine gate_callee (f := 57) rfl ?_);refine goesL_ (some 8) rfl rfl Tryz.func57 (by kernel_rfl) rfl #[.agg #[.slice A0_0 l0_0.length c0_0,.int .i64 a0_1,.slice A0_2 l0_2.length c0_2,.int .i64 a0_3,.int .i64 a0_4]] rfl (by (try simp only [List.map_toArray,List.map_cons,List.map_nil]);first | done | rfl | (simp only [List.length_drop,List.length_take];rfl)) ?_;(refine (ca_isBasin.calls _ _ l0_0 a0_1 _ _ l0_2 a0_3 a0_4 false _ ?side1 ?side2 ?side3 ?side4 A7.out).mono ?_);(case side1 => exact kC HR0_0.out HB.out);(case side2 => exact HC0_0.out);(case side3 => exact kC HR0_2.out HB.out);(case side4 => exact HC0_2.out);rintro e w20 ⟨rfl,hb⟩;refine ⟨_,rfl,?_⟩;replace BK192 := (kmv hb BK192);replace BK193 := (kmv hb BK193);replace BK194 := (kmv hb BK194);replace HB := am (below_step (HB.out) hb);(try clear hb);(try clear hb2);(try clear hk);(try clear hi)))
   go_meet
   case rel => exact ⟨_,(true),(by first | rfl | (simp;done) | (simp [*];done)),H',⟨by first | omega | exact Nat.le_refl _⟩,⟨BK192.out⟩,⟨BK193.out⟩,⟨BK194.out⟩,⟨HB.out⟩⟩
  subst c8
  replace H : ((isSpan_isFlow.f a1_0 a1_1).bind fun t196 => (ca_Level.j0 k (!t196) l0_0 a0_1 l0_2 a0_3 a0_4 a1_0 a1_1)) = some (r1,r2,r3) := by rw [if_pos rfl] at H;exact H
  replace H := obm H
  obtain ⟨t196,A90,H⟩ := H
  replace H : (ca_Level.j0 k (!t196) l0_0 a0_1 l0_2 a0_3 a0_4 a1_0 a1_1) = some (r1,r2,r3) := H
  have A9 := am A90
  clear A90
  replace H' := am H
  have hnb10 := NB192_193.out
  have hnc10 := NB193_192.out
  have hnb11 := NB192_194.out
  have hnc11 := NB194_192.out
  obtain ⟨hcz12_0,hcz12_1,hcz12_2,hcz12_3,hcz12_4⟩ := cO5 BK192.out
  go_wp2_with (first | ((with_reducible refine gate_callee (f := 57) rfl ?_);refine goesL_ (some 8) rfl rfl Tryz.func57 (by kernel_rfl) rfl #[.agg #[.slice A0_0 l0_0.length c0_0,.int .i64 a0_1,.slice A0_2 l0_2.length c0_2,.int .i64 a0_3,.int .i64 a0_4]] rfl (by (try simp only [List.map_toArray,List.map_cons,List.map_nil]);first | done | rfl | (simp only [List.length_drop,List.length_take];rfl)) ?_;(refine (ca_isBasin.calls _ _ l0_0 a0_1 _ _ l0_2 a0_3 a0_4 true _ ?side1 ?side2 ?side3 ?side4 A7.out).mono ?_);(case side1 => exact kC HR0_0.out HB.out);(case side2 => exact HC0_0.out);(case side3 => exact kC HR0_2.out HB.out);(case side4 => exact HC0_2.out);rintro e w13 ⟨rfl,hb⟩;refine ⟨_,rfl,?_⟩;replace BK192 := (kmv hb BK192);replace BK193 := (kmv hb BK193);replace BK194 := (kmv hb BK194);replace HB := am (below_step (HB.out) hb);(try clear hb);(try clear hb2);(try clear hk);(try clear hi);have hnb14 := NB193_194.out;have hnc14 := NB194_193.out;obtain ⟨hcz15_0,hcz15_1⟩ := cO2 BK193.out) | (go_at_call 66;(refine (isSpan_isFlow.calls a1_0 a1_1  t196 _ A9.out).mono ?_);rintro e w16 ⟨rfl,hb⟩;replace BK192 := (kmv hb BK192);replace BK193 := (kmv hb BK193);replace BK194 := (kmv hb BK194);replace HB := am (below_step (HB.out) hb);(try clear hb);(try clear hb2);(try clear hk);(try clear hi)))
  go_meet
  case rel => exact ⟨_,(!t196),(by first | rfl | (simp;done) | (simp [*];done)),H',⟨by first | omega | exact Nat.le_refl _⟩,⟨BK192.out⟩,⟨BK193.out⟩,⟨BK194.out⟩,⟨HB.out⟩⟩
 case rest =>
  clear HC3
  obtain ⟨kq,x14_2,rfl,HA,HJ2,BK192,BK193,BK194,HB⟩ := hcut
  cases kq with
  | zero => exact absurd HA.out (by simp [ca_Level.j0])
  | succ kj2 =>
   have H := HA.out
   clear HA
   simp only [ca_Level.j0] at H
   by_cases c21 : x14_2 = true
   · subst c21
     replace H : (some (0,0,2)) = some (r1,r2,r3) := by rw [if_pos rfl] at H;exact H
     simp only [Option.some.injEq,Prod.mk.injEq] at H
     obtain ⟨rfl,rfl,rfl⟩ := H
     have hnb22 := NB194_192.out
     have hnc22 := NB192_194.out
     have hnb23 := NB194_193.out
     have hnc23 := NB193_194.out
     obtain ⟨hcz24_0,hcz24_1⟩ := cO2 BK194.out
     have hfz24_0 := blk_frozen BK194.out 0
     have hfz24_1 := blk_frozen BK194.out 1
     go_wp2
     refine bodyPost_ret (results_ct rfl _ _ gb194 40 #[.int .i64 0,.int .i64 0] (0,0) _ rfl (blk_put (cs := #[.int .i64 0,.int .i64 0]) (blk_put (cs := #[.int .i64 0,.int .i64 0]) BK194.out 0 _ rfl) 1 _ rfl) Tryz.underlying40 rfl (by kernel_rfl)) rfl ?_
     exact ⟨by first | rfl | (simp [*] <;> rfl),by repeat (first | (with_reducible first | exact HB.out | refine below_set ?_ (Aside0.out (by assumption)) | apply below_alloc | apply pw_below_drewN) | exact HB.out)⟩
   · replace c21 := Bool.eq_false_iff.mpr c21
     subst c21
     replace H : ((ca_fill.f kj2 l0_0 a0_1 l0_2 a0_3 a0_4).bind fun bt209 => ((gf_level.f l0_0 bt209.1 l0_2 bt209.2.1 bt209.2.2.1 bt209.2.2.2 a1_0).bind fun t216 => ((gf_level.f l0_0 bt209.1 l0_2 bt209.2.1 bt209.2.2.1 bt209.2.2.2 a1_1).bind fun t217 => (some (t216,t217,0))))) = some (r1,r2,r3) := by rw [if_neg (show ¬ (false = true) by decide)] at H;exact H
     replace H := obm H
     obtain ⟨⟨t209,t210,t211,t212⟩,A250,H⟩ := H
     replace H : ((gf_level.f l0_0 t209 l0_2 t210 t211 t212 a1_0).bind fun t216 => ((gf_level.f l0_0 t209 l0_2 t210 t211 t212 a1_1).bind fun t217 => (some (t216,t217,0)))) = some (r1,r2,r3) := H
     have A25 := am A250
     clear A250
     replace H := obm H
     obtain ⟨t216,A260,H⟩ := H
     replace H : ((gf_level.f l0_0 t209 l0_2 t210 t211 t212 a1_1).bind fun t217 => (some (t216,t217,0))) = some (r1,r2,r3) := H
     have A26 := am A260
     clear A260
     replace H := obm H
     obtain ⟨t217,A270,H⟩ := H
     replace H : (some (t216,t217,0)) = some (r1,r2,r3) := H
     have A27 := am A270
     clear A270
     simp only [Option.some.injEq,Prod.mk.injEq] at H
     obtain ⟨rfl,rfl,rfl⟩ := H
     have hnb28 := NB192_193.out
     have hnc28 := NB193_192.out
     have hnb29 := NB192_194.out
     have hnc29 := NB194_192.out
     obtain ⟨hcz30_0,hcz30_1,hcz30_2,hcz30_3,hcz30_4⟩ := cO5 BK192.out
     try go_wp2_with (first | ((with_reducible refine gate_callee (f := 59) rfl ?_);refine goesL_ (some 17) rfl rfl Tryz.func59 (by kernel_rfl) rfl #[.agg #[.slice A0_0 l0_0.length c0_0,.int .i64 a0_1,.slice A0_2 l0_2.length c0_2,.int .i64 a0_3,.int .i64 a0_4]] rfl (by (try simp only [List.map_toArray,List.map_cons,List.map_nil]);first | done | rfl | (simp only [List.length_drop,List.length_take];rfl)) ?_;(refine (ca_fill.calls kj2 _ _ l0_0 a0_1 _ _ l0_2 a0_3 a0_4 t209 t210 t211 t212 _ ?side1 ?side2 ?side3 ?side4 A25.out).mono ?_);(case side1 => exact kC HR0_0.out HB.out);(case side2 => exact HC0_0.out);(case side3 => exact kC HR0_2.out HB.out);(case side4 => exact HC0_2.out);rintro e w31 ⟨v213,rfl,ho0,hb⟩;refine ⟨_,rfl,?_⟩;have HO214 := am (Kd.S_lower ho0 (below_size (HB.out)));replace BK192 := (kmv hb BK192);replace BK193 := (kmv hb BK193);replace BK194 := (kmv hb BK194);replace HB := am (below_step (HB.out) hb);(try clear hb);(try clear hb2);(try clear hk);(try clear hi);(try clear ho0)) | ((refine gate_dst (N := 6) rfl ?_);refine box_event rfl (N := 6) rfl (cs := #[.slice none 0 0,.int .i64 0,.slice none 0 0,.int .i64 0,.int .i64 0,.slice none 0 0]) (t := 99) ?hr ?_;(case hr => go_simp;try rfl);intro gb215 hg w32 hbox hb;have BK215 := am (hbox);have GW215 := am (ge_new (HB.out) hg);have GE215 := am (ge_new (HB.out) hg);have NB192_215 := am (ne_new BK192.out hg);have NB215_192 := am (ne_new2 BK192.out hg);have NB193_215 := am (ne_new BK193.out hg);have NB215_193 := am (ne_new2 BK193.out hg);have NB194_215 := am (ne_new BK194.out hg);have NB215_194 := am (ne_new2 BK194.out hg);replace HO214 := am (Kd.S_below HO214.out hb);replace BK192 := (kmv hb BK192);replace BK193 := (kmv hb BK193);replace BK194 := (kmv hb BK194);replace HB := am (below_step (HB.out) hb);clear hb hbox hg;have hnb33 := NB215_192.out;have hnc33 := NB192_215.out;have hnb34 := NB215_193.out;have hnc34 := NB193_215.out;have hnb35 := NB215_194.out;have hnc35 := NB194_215.out;obtain ⟨hcz36_0,hcz36_1,hcz36_2,hcz36_3,hcz36_4,hcz36_5⟩ := cO6 BK215.out;have hfz36_0 := blk_frozen BK215.out 0;have hfz36_1 := blk_frozen BK215.out 1;have hfz36_2 := blk_frozen BK215.out 2;have hfz36_3 := blk_frozen BK215.out 3;have hfz36_4 := blk_frozen BK215.out 4;have hfz36_5 := blk_frozen BK215.out 5;obtain ⟨Ao37,co37,eo37⟩ := Kd.S_slice HO214.out;subst eo37))
     have n0_ : Aside0 (Kd.S (Kd.slice 3 (Kd.int .i64)) 30 ((((((w32.setCell ⟨gb215,0,none⟩ (.slice A0_0 l0_0.length c0_0)).setCell ⟨gb215,1,none⟩ (.int .i64 t209)).setCell ⟨gb215,2,none⟩ (.slice A0_2 l0_2.length c0_2)).setCell ⟨gb215,3,none⟩ (.int .i64 t210)).setCell ⟨gb215,4,none⟩ (.int .i64 t211)).setCell ⟨gb215,5,none⟩ (.slice Ao37 t212.length co37)) w.heap.size (fun _ => True) (.slice Ao37 t212.length co37) t212) := ⟨by (with_reducible repeat (first | apply Kd.S_alloc | apply Kd.S_drewN | apply Kd.S_drew));exact Kd.S_mono (Kd.S_far (p := ⟨gb215,5,none⟩) (Kd.S_far (p := ⟨gb215,4,none⟩) (Kd.S_far (p := ⟨gb215,3,none⟩) (Kd.S_far (p := ⟨gb215,2,none⟩) (Kd.S_far (p := ⟨gb215,1,none⟩) (Kd.S_far (p := ⟨gb215,0,none⟩) (Kd.S_types HO214.out BK215.out (by decide)) (fun _ hk => hk.2) (.slice A0_0 l0_0.length c0_0)) (fun _ hk => hk.2) (.int .i64 t209)) (fun _ hk => hk.2) (.slice A0_2 l0_2.length c0_2)) (fun _ hk => hk.2) (.int .i64 t210)) (fun _ hk => hk.2) (.int .i64 t211)) (fun _ hk => hk.2) (.slice Ao37 t212.length co37)) (fun _ hk => trivial)⟩
     have n1_ : Aside0 (((((((w32.setCell ⟨gb215,0,none⟩ (.slice A0_0 l0_0.length c0_0)).setCell ⟨gb215,1,none⟩ (.int .i64 t209)).setCell ⟨gb215,2,none⟩ (.slice A0_2 l0_2.length c0_2)).setCell ⟨gb215,3,none⟩ (.int .i64 t210)).setCell ⟨gb215,4,none⟩ (.int .i64 t211)).setCell ⟨gb215,5,none⟩ (.slice Ao37 t212.length co37)).heap[gb192]? = some (.cells #[.slice A0_0 l0_0.length c0_0,.int .i64 a0_1,.slice A0_2 l0_2.length c0_2,.int .i64 a0_3,.int .i64 a0_4] 27 (0,0))) := ⟨(blk_far (blk_far (blk_far (blk_far (blk_far (blk_far BK192.out NB192_215.out _) NB192_215.out _) NB192_215.out _) NB192_215.out _) NB192_215.out _) NB192_215.out _)⟩
     have n2_ : Aside0 (((((((w32.setCell ⟨gb215,0,none⟩ (.slice A0_0 l0_0.length c0_0)).setCell ⟨gb215,1,none⟩ (.int .i64 t209)).setCell ⟨gb215,2,none⟩ (.slice A0_2 l0_2.length c0_2)).setCell ⟨gb215,3,none⟩ (.int .i64 t210)).setCell ⟨gb215,4,none⟩ (.int .i64 t211)).setCell ⟨gb215,5,none⟩ (.slice Ao37 t212.length co37)).heap[gb193]? = some (.cells #[.int .i64 a1_0,.int .i64 a1_1] 40 (0,0))) := ⟨(blk_far (blk_far (blk_far (blk_far (blk_far (blk_far BK193.out NB193_215.out _) NB193_215.out _) NB193_215.out _) NB193_215.out _) NB193_215.out _) NB193_215.out _)⟩
     have n3_ : Aside0 (((((((w32.setCell ⟨gb215,0,none⟩ (.slice A0_0 l0_0.length c0_0)).setCell ⟨gb215,1,none⟩ (.int .i64 t209)).setCell ⟨gb215,2,none⟩ (.slice A0_2 l0_2.length c0_2)).setCell ⟨gb215,3,none⟩ (.int .i64 t210)).setCell ⟨gb215,4,none⟩ (.int .i64 t211)).setCell ⟨gb215,5,none⟩ (.slice Ao37 t212.length co37)).heap[gb194]? = some (.cells #[.int .i64 0,.int .i64 0] 40 (0,0))) := ⟨(blk_far (blk_far (blk_far (blk_far (blk_far (blk_far BK194.out NB194_215.out _) NB194_215.out _) NB194_215.out _) NB194_215.out _) NB194_215.out _) NB194_215.out _)⟩
     have n4_ : Aside0 (((((((w32.setCell ⟨gb215,0,none⟩ (.slice A0_0 l0_0.length c0_0)).setCell ⟨gb215,1,none⟩ (.int .i64 t209)).setCell ⟨gb215,2,none⟩ (.slice A0_2 l0_2.length c0_2)).setCell ⟨gb215,3,none⟩ (.int .i64 t210)).setCell ⟨gb215,4,none⟩ (.int .i64 t211)).setCell ⟨gb215,5,none⟩ (.slice Ao37 t212.length co37)).heap[gb215]? = some (.cells #[.slice A0_0 l0_0.length c0_0,.int .i64 t209,.slice A0_2 l0_2.length c0_2,.int .i64 t210,.int .i64 t211,.slice Ao37 t212.length co37] 99 (0,0))) := ⟨(blk_put (cs := #[.slice A0_0 l0_0.length c0_0,.int .i64 t209,.slice A0_2 l0_2.length c0_2,.int .i64 t210,.int .i64 t211,.slice none 0 0]) (blk_put (cs := #[.slice A0_0 l0_0.length c0_0,.int .i64 t209,.slice A0_2 l0_2.length c0_2,.int .i64 t210,.int .i64 0,.slice none 0 0]) (blk_put (cs := #[.slice A0_0 l0_0.length c0_0,.int .i64 t209,.slice A0_2 l0_2.length c0_2,.int .i64 0,.int .i64 0,.slice none 0 0]) (blk_put (cs := #[.slice A0_0 l0_0.length c0_0,.int .i64 t209,.slice none 0 0,.int .i64 0,.int .i64 0,.slice none 0 0]) (blk_put (cs := #[.slice A0_0 l0_0.length c0_0,.int .i64 0,.slice none 0 0,.int .i64 0,.int .i64 0,.slice none 0 0]) (blk_put (cs := #[.slice none 0 0,.int .i64 0,.slice none 0 0,.int .i64 0,.int .i64 0,.slice none 0 0]) BK215.out 0 _ rfl) 1 _ rfl) 2 _ rfl) 3 _ rfl) 4 _ rfl) 5 _ rfl)⟩
     have n5_ : Aside0 (Below w.heap.size w ((((((w32.setCell ⟨gb215,0,none⟩ (.slice A0_0 l0_0.length c0_0)).setCell ⟨gb215,1,none⟩ (.int .i64 t209)).setCell ⟨gb215,2,none⟩ (.slice A0_2 l0_2.length c0_2)).setCell ⟨gb215,3,none⟩ (.int .i64 t210)).setCell ⟨gb215,4,none⟩ (.int .i64 t211)).setCell ⟨gb215,5,none⟩ (.slice Ao37 t212.length co37))) := ⟨by repeat (first | (with_reducible first | exact HB.out | refine below_set ?_ (Aside0.out (by assumption)) | apply below_alloc | apply pw_below_drewN) | exact HB.out)⟩
     (try clear HO214)
     (try clear BK192)
     (try clear BK193)
     (try clear BK194)
     (try clear BK215)
     (try clear HB)
     generalize ((((((w32.setCell ⟨gb215,0,none⟩ (.slice A0_0 l0_0.length c0_0)).setCell ⟨gb215,1,none⟩ (.int .i64 t209)).setCell ⟨gb215,2,none⟩ (.slice A0_2 l0_2.length c0_2)).setCell ⟨gb215,3,none⟩ (.int .i64 t210)).setCell ⟨gb215,4,none⟩ (.int .i64 t211)).setCell ⟨gb215,5,none⟩ (.slice Ao37 t212.length co37)) = w38 at n0_ n1_ n2_ n3_ n4_ n5_ ⊢
     have HO214 := n0_
     have BK192 := n1_
     have BK193 := n2_
     have BK194 := n3_
     have BK215 := n4_
     have HB := n5_
     clear n0_ n1_ n2_ n3_ n4_ n5_
     replace HO214 := am (Kd.S_drew HO214.out)
     replace BK192 := am (blk_drew BK192.out)
     replace BK193 := am (blk_drew BK193.out)
     replace BK194 := am (blk_drew BK194.out)
     replace BK215 := am (blk_drew BK215.out)
     replace HB := am (below_drew1 HB.out)
     refine start_ (n := 11) (S := fun w' => w'.cell? ⟨gb215,0,none⟩ = some (.slice A0_0 l0_0.length c0_0) ∧ w'.cell? ⟨gb215,1,none⟩ = some (.int .i64 t209) ∧ w'.cell? ⟨gb215,2,none⟩ = some (.slice A0_2 l0_2.length c0_2) ∧ w'.cell? ⟨gb215,3,none⟩ = some (.int .i64 t210) ∧ w'.cell? ⟨gb215,4,none⟩ = some (.int .i64 t211) ∧ w'.cell? ⟨gb215,5,none⟩ = some (.slice Ao37 t212.length co37) ∧ w'.cell? ⟨gb193,0,none⟩ = some (.int .i64 a1_0) ∧ w'.cell? ⟨gb193,1,none⟩ = some (.int .i64 a1_1)) (ds := []) (ba 11 0) (by kernel_rfl) rfl rfl ⟨(blk_cell BK215.out 0).trans rfl,(blk_cell BK215.out 1).trans rfl,(blk_cell BK215.out 2).trans rfl,(blk_cell BK215.out 3).trans rfl,(blk_cell BK215.out 4).trans rfl,(blk_cell BK215.out 5).trans rfl,(blk_cell BK193.out 0).trans rfl,(blk_cell BK193.out 1).trans rfl⟩ (fun hHeld => ?_);refine with_tabW ca_Level.tab4 ca_Level.bits4 (fun HT_ HW_ => ?_)
     generalize w38.drew = w39 at HO214 BK192 BK193 BK194 BK215 HB hHeld ⊢
     refine pure_ (i := 1) (N := some 19) (v := ?_) (a' := ?_) (ba 11 2) rfl rfl (any_of HT_.out (by kernel_rfl)) (fun _ _ _ h => h) (Or.inl ⟨by rfl,?_⟩) ?_ ?_
     rotate_left
     · intro w'
       go_simp
       with_reducible rfl
     rotate_left
     · simp only [Act.put,NRM]
       rfl
     refine pure_ (i := 5) (N := some 23) (v := ?_) (a' := ?_) (ba 11 34) rfl rfl (any_of HT_.out (by kernel_rfl)) (fun _ _ _ h => h) (Or.inl ⟨by rfl,?_⟩) ?_ ?_
     rotate_left
     · intro w'
       go_simp
       with_reducible rfl
     rotate_left
     · simp only [Act.put,NRM]
       rfl
     refine take_ (i := 0) (N := some 18) (v := ?_) (a' := ?_) (ba 11 35) rfl rfl (take_ofW HT_.out HW_.out (by kernel_rfl)) (fun _ _ _ h => h) (Or.inl ⟨by rfl,?_⟩) hHeld ?_ ?_
     rotate_left
     · rintro w' ⟨s0,s1,s2,s3,s4,s5,s6,s7⟩
       go_simp
       with_reducible rfl
     rotate_left
     · simp only [Act.put,NRM]
       rfl
     refine take_ (i := 2) (N := some 20) (v := ?_) (a' := ?_) (ba 11 39) rfl rfl (take_ofW HT_.out HW_.out (by kernel_rfl)) (fun _ _ _ h => h) (Or.inl ⟨by rfl,?_⟩) hHeld ?_ ?_
     rotate_left
     · rintro w' ⟨s0,s1,s2,s3,s4,s5,s6,s7⟩
       go_simp
       with_reducible rfl
     rotate_left
     · simp only [Act.put,NRM]
       rfl
     refine take_ (i := 4) (N := some 22) (v := ?_) (a' := ?_) (ba 11 55) rfl rfl (take_ofW HT_.out HW_.out (by kernel_rfl)) (fun _ _ _ h => h) (Or.inl ⟨by rfl,?_⟩) hHeld ?_ ?_
     rotate_left
     · rintro w' ⟨s0,s1,s2,s3,s4,s5,s6,s7⟩
       go_simp
       with_reducible rfl
     rotate_left
     · simp only [Act.put,NRM]
       rfl
     refine take_ (i := 6) (N := some 24) (v := ?_) (a' := ?_) (ba 11 119) rfl rfl (take_ofW HT_.out HW_.out (by kernel_rfl)) (fun _ _ _ h => h) (Or.inl ⟨by rfl,?_⟩) hHeld ?_ ?_
     rotate_left
     · rintro w' ⟨s0,s1,s2,s3,s4,s5,s6,s7⟩
       go_simp
       with_reducible rfl
     rotate_left
     · simp only [Act.put,NRM]
       rfl
     refine one_ (i := 3) (N := some 21) (ba 11 127) rfl rfl (one_of HT_.out (by kernel_rfl)) (by decide) (fun K hK => ?_)
     refine goes_ Tryz.func67 (by kernel_rfl) rfl #[.agg #[.slice A0_0 l0_0.length c0_0,.int .i64 t209,.slice A0_2 l0_2.length c0_2,.int .i64 t210,.int .i64 t211,.slice Ao37 t212.length co37],.int .i64 a1_0] (by rfl) rfl rfl (by (try simp only [List.map_toArray,List.map_cons,List.map_nil]);first | done | rfl | (simp only [List.length_drop,List.length_take];rfl)) ?_
     with_reducible refine (gf_level.calls _ _ l0_0 t209 _ _ l0_2 t210 t211 _ _ t212 a1_0 t216 _ ?side1 ?side2 ?side3 ?side4 ?side5 ?side6 A26.out).mono ?_
     (case side1 => exact kC HR0_0.out HB.out)
     (case side2 => exact HC0_0.out)
     (case side3 => exact kC HR0_2.out HB.out)
     (case side4 => exact HC0_2.out)
     (case side5 => repeat (first | exact (Kd.S_reads' HO214.out).2.2 | (with_reducible refine Kd.C_alloc ?_ _) | (with_reducible refine Kd.C_drewN ?_ _) | (with_reducible refine Kd.C_drew ?_)))
     (case side6 => exact (Kd.S_reads' HO214.out).2.1)
     rintro e w40 ⟨rfl,hb⟩
     refine ⟨_,rfl,?_⟩
     replace HO214 := am (Kd.S_below HO214.out hb)
     replace BK192 := (kmv hb BK192)
     replace BK193 := (kmv hb BK193)
     replace BK194 := (kmv hb BK194)
     replace BK215 := (kmv hb BK215)
     replace HB := am (below_step (HB.out) hb)
     (try clear hb)
     (try clear hb2)
     (try clear hk)
     (try clear hi)
     refine hK.out _ _ ⟨(blk_cell BK215.out 0).trans rfl,(blk_cell BK215.out 1).trans rfl,(blk_cell BK215.out 2).trans rfl,(blk_cell BK215.out 3).trans rfl,(blk_cell BK215.out 4).trans rfl,(blk_cell BK215.out 5).trans rfl,(blk_cell BK193.out 0).trans rfl,(blk_cell BK193.out 1).trans rfl⟩ (fun hHeld => ?_)
     clear hK K
     refine norm_ (a' := ?_) ?_ ?_
     rotate_left
     · show Act.put _ (some 21) _ = _
       simp only [Act.put,NRM]
       rfl
     refine one_ (i := 7) (N := some 25) (ba 11 255) rfl rfl (one_of HT_.out (by kernel_rfl)) (by decide) (fun K hK => ?_)
     refine goes_ Tryz.func67 (by kernel_rfl) rfl #[.agg #[.slice A0_0 l0_0.length c0_0,.int .i64 t209,.slice A0_2 l0_2.length c0_2,.int .i64 t210,.int .i64 t211,.slice Ao37 t212.length co37],.int .i64 a1_1] (by rfl) rfl rfl (by (try simp only [List.map_toArray,List.map_cons,List.map_nil]);first | done | rfl | (simp only [List.length_drop,List.length_take];rfl)) ?_
     with_reducible refine (gf_level.calls _ _ l0_0 t209 _ _ l0_2 t210 t211 _ _ t212 a1_1 t217 _ ?side1 ?side2 ?side3 ?side4 ?side5 ?side6 A27.out).mono ?_
     (case side1 => exact kC HR0_0.out HB.out)
     (case side2 => exact HC0_0.out)
     (case side3 => exact kC HR0_2.out HB.out)
     (case side4 => exact HC0_2.out)
     (case side5 => repeat (first | exact (Kd.S_reads' HO214.out).2.2 | (with_reducible refine Kd.C_alloc ?_ _) | (with_reducible refine Kd.C_drewN ?_ _) | (with_reducible refine Kd.C_drew ?_)))
     (case side6 => exact (Kd.S_reads' HO214.out).2.1)
     rintro e w41 ⟨rfl,hb⟩
     refine ⟨_,rfl,?_⟩
     replace HO214 := am (Kd.S_below HO214.out hb)
     replace BK192 := (kmv hb BK192)
     replace BK193 := (kmv hb BK193)
     replace BK194 := (kmv hb BK194)
     replace BK215 := (kmv hb BK215)
     replace HB := am (below_step (HB.out) hb)
     (try clear hb)
     (try clear hb2)
     (try clear hk)
     (try clear hi)
     refine hK.out _ _ ⟨(blk_cell BK215.out 0).trans rfl,(blk_cell BK215.out 1).trans rfl,(blk_cell BK215.out 2).trans rfl,(blk_cell BK215.out 3).trans rfl,(blk_cell BK215.out 4).trans rfl,(blk_cell BK215.out 5).trans rfl,(blk_cell BK193.out 0).trans rfl,(blk_cell BK193.out 1).trans rfl⟩ (fun hHeld => ?_)
     clear hK K
     refine norm_ (a' := ?_) ?_ ?_
     rotate_left
     · show Act.put _ (some 25) _ = _
       simp only [Act.put,NRM]
       rfl
     refine pure_ (i := 8) (N := some 26) (v := ?_) (a' := ?_) (ba 11 511) rfl rfl (any_of HT_.out (by kernel_rfl)) (fun _ _ _ h => h) (Or.inl ⟨by rfl,?_⟩) ?_ ?_
     rotate_left
     · intro w'
       go_simp
       with_reducible rfl
     rotate_left
     · simp only [Act.put,NRM]
       rfl
     refine one_ (i := 9) (N := none) (ba 11 1023) rfl rfl (one_of HT_.out (by kernel_rfl)) (by decide) (fun K hK => ?_)
     have hs42 := cO1 BK194.out
     have hfs42 := blk_frozen BK194.out 0
     have hns42_0 := NB192_194.out
     have hns42_1 := NB193_194.out
     have hns42_3 := NB215_194.out
     have hms42_0 := NB194_192.out
     have hms42_1 := NB194_193.out
     have hms42_3 := NB194_215.out
     have hs43 : w41.cell? ⟨gb194,1,none⟩ = some (.int .i64 0) := (blk_cell BK194.out 1).trans rfl
     have hfs43 := blk_frozen BK194.out 1
     have hns43_0 := NB192_194.out
     have hns43_1 := NB193_194.out
     have hns43_3 := NB215_194.out
     have hms43_0 := NB194_192.out
     have hms43_1 := NB194_193.out
     have hms43_3 := NB194_215.out
     refine skip_ (w1 := ?_) (by rfl) rfl ?_ ?_
     rotate_left
     · go_simp
       rfl
     refine hK.out _ _ ⟨((cell_far (p := ⟨gb194,_,none⟩) NB215_194.out _).trans (((cell_far (p := ⟨gb194,_,none⟩) NB215_194.out _).trans (hHeld.1)))),((cell_far (p := ⟨gb194,_,none⟩) NB215_194.out _).trans (((cell_far (p := ⟨gb194,_,none⟩) NB215_194.out _).trans (hHeld.2.1)))),((cell_far (p := ⟨gb194,_,none⟩) NB215_194.out _).trans (((cell_far (p := ⟨gb194,_,none⟩) NB215_194.out _).trans (hHeld.2.2.1)))),((cell_far (p := ⟨gb194,_,none⟩) NB215_194.out _).trans (((cell_far (p := ⟨gb194,_,none⟩) NB215_194.out _).trans (hHeld.2.2.2.1)))),((cell_far (p := ⟨gb194,_,none⟩) NB215_194.out _).trans (((cell_far (p := ⟨gb194,_,none⟩) NB215_194.out _).trans (hHeld.2.2.2.2.1)))),((cell_far (p := ⟨gb194,_,none⟩) NB215_194.out _).trans (((cell_far (p := ⟨gb194,_,none⟩) NB215_194.out _).trans (hHeld.2.2.2.2.2.1)))),((cell_far (p := ⟨gb194,_,none⟩) NB193_194.out _).trans (((cell_far (p := ⟨gb194,_,none⟩) NB193_194.out _).trans (hHeld.2.2.2.2.2.2.1)))),((cell_far (p := ⟨gb194,_,none⟩) NB193_194.out _).trans (((cell_far (p := ⟨gb194,_,none⟩) NB193_194.out _).trans (hHeld.2.2.2.2.2.2.2))))⟩ (fun hHeld => ?_)
     clear hK K
     refine pure_ (i := 10) (N := some 5) (v := ?_) (a' := ?_) (ba 11 2047) rfl rfl (any_of HT_.out (by kernel_rfl)) (fun _ _ _ h => h) (Or.inl ⟨by rfl,?_⟩) ?_ ?_
     rotate_left
     · intro w'
       go_simp
       with_reducible rfl
     rotate_left
     · simp only [Act.put,NRM]
       rfl
     refine done_ (done_of HT_.out (by kernel_rfl)) ?_
     try go_wp2
     refine bodyPost_ret (results_ct rfl _ _ gb194 40 #[.int .i64 t216,.int .i64 t217] (0,0) _ rfl (blk_put (cs := #[.int .i64 t216,.int .i64 0]) (blk_put (cs := #[.int .i64 0,.int .i64 0]) BK194.out 0 _ rfl) 1 _ rfl) Tryz.underlying40 rfl (by kernel_rfl)) rfl ?_
     exact ⟨by first | rfl | (simp [*] <;> rfl),by repeat (first | (with_reducible first | exact HB.out | refine below_set ?_ (Aside0.out (by assumption)) | apply below_alloc | apply pw_below_drewN) | exact HB.out)⟩
set_option linter.unusedSimpArgs false
set_option linter.unusedSimpArgs false
end
theorem w64 {n : Int} (h : -9223372036854775808 ≤ n ∧ n ≤ 9223372036854775807) : wrap64 n = n := by unfold wrap64;omega
theorem ksucc {k : Nat} (h : 0 < k) : ∃ m,k = m + 1 := ⟨k - 1,by omega⟩
def rowOk (r : S126) : Bool := decide (1 ≤ r.f0 ∧ r.f0 ≤ 60) && (decide (1 ≤ r.f1 ∧ r.f1 ≤ 60) && decide (1 ≤ r.f2 ∧ r.f2 ≤ 1000))
def nozOk (n : Int) (z : S64) : Bool := decide (0 ≤ z.f0 ∧ z.f0 ≤ n - 1) && decide (0 ≤ z.f1 ∧ z.f1 ≤ 40)
def okT (rows : List S126) (draw : Int) : Bool := decide (1 ≤ (rows.length : Int) ∧ (rows.length : Int) ≤ 12) && (decide (0 ≤ draw ∧ draw ≤ 100) && rows.all rowOk)
def okB (rows : List S126) (draw : Int) (noz : List S64) (weir spill : Int) : Bool :=
 okT rows draw && (decide (1 ≤ (noz.length : Int) ∧ (noz.length : Int) ≤ 6) && (decide (0 ≤ weir ∧ weir ≤ 40) && (decide (0 ≤ spill ∧ spill ≤ 100) && noz.all (nozOk rows.length))))
theorem c_in (a b c : Int) : ca_in.f a b c = some (decide (b ≤ a ∧ a ≤ c)) := by
 unfold ca_in.f
 by_cases h : a ≥ b
 · rw [if_pos h];have : b ≤ a := h;simp [this]
 · rw [if_neg h];have : ¬ b ≤ a := h;simp [this]
theorem n_in (a b c : Int) : nz_in.f a b c = some (decide (b ≤ a ∧ a ≤ c)) := c_in a b c
theorem r4_in (a b c : Int) : q4_in.f a b c = some (decide (b ≤ a ∧ a ≤ c)) := c_in a b c
theorem r3_in (a b c : Int) : q3_in.f a b c = some (decide (b ≤ a ∧ a ≤ c)) := c_in a b c
theorem c_height (a : Int) : ca_isHeight.f a = some (decide (0 ≤ a ∧ a ≤ 40)) := by unfold ca_isHeight.f;rw [c_in];rfl
theorem c_flow (a : Int) : ca_isFlow.f a = some (decide (0 ≤ a ∧ a ≤ 10000)) := by unfold ca_isFlow.f;rw [c_in];rfl
theorem r_height (a : Int) : q4_Height.f a = some (decide (0 ≤ a ∧ a ≤ 40)) := by unfold q4_Height.f;rw [r4_in];rfl
theorem r_cups (a : Int) : q4_Cups.f a = some (decide (0 ≤ a ∧ a ≤ 10000)) := by unfold q4_Cups.f;rw [r4_in];rfl
theorem anyM_total {α : Type} {q : α → Option Bool} {p : α → Bool} (h : ∀ x,q x = some (p x)) : ∀ xs,anyM q xs = some (xs.any p)
 | [] => rfl
 | x :: xs => by
  simp only [anyM,h,Option.bind_some,List.any_cons,anyM_total h xs]
  cases p x <;> rfl
theorem row_bad (x : S126) : nz_isTable_1.f x.f0 x.f1 x.f2 = some (!rowOk x) := by
 unfold nz_isTable_1.f rowOk
 simp only [n_in,Option.bind_some]
 cases decide (1 ≤ x.f0 ∧ x.f0 ≤ 60) <;> cases decide (1 ≤ x.f1 ∧ x.f1 ≤ 60) <;> cases decide (1 ≤ x.f2 ∧ x.f2 ≤ 1000) <;> rfl
theorem noz_bad {rows : List S126} (hl : rows.length ≤ 1000) (x : S64) : ca_isBasin_1.f rows x = some (!nozOk rows.length x) := by
 unfold ca_isBasin_1.f nozOk
 rw [w64 (by omega)]
 simp only [c_in,c_height,Option.bind_some]
 cases decide (0 ≤ x.f0 ∧ x.f0 ≤ (rows.length : Int) - 1) <;> cases decide (0 ≤ x.f1 ∧ x.f1 ≤ 40) <;> rfl
theorem isTable_eq (rows : List S126) (draw : Int) : nz_isTable.f rows draw = some (okT rows draw) := by
 unfold nz_isTable.f okT cf_isTable.f
 rw [anyM_total row_bad,← List.not_all_eq_any_not]
 simp only [n_in,Option.bind_some]
 cases decide (1 ≤ (rows.length : Int) ∧ (rows.length : Int) ≤ 12) <;> cases decide (0 ≤ draw ∧ draw ≤ 100) <;> cases rows.all rowOk <;> rfl
theorem isBasin_eq {rows : List S126} {draw : Int} {noz : List S64} {weir spill : Int} (hl : rows.length ≤ 1000) : ca_isBasin.f rows draw noz weir spill = some (okB rows draw noz weir spill) := by
 unfold ca_isBasin.f okB nz_Check.f
 rw [anyM_total (noz_bad hl),← List.not_all_eq_any_not,isTable_eq]
 simp only [c_in,c_height,Option.bind_some]
 cases okT rows draw <;> cases decide (1 ≤ (noz.length : Int) ∧ (noz.length : Int) ≤ 6) <;> cases decide (0 ≤ weir ∧ weir ≤ 40) <;> cases decide (0 ≤ spill ∧ spill ≤ 100) <;> cases noz.all (nozOk rows.length) <;> rfl
theorem refTable_go (rows : List S126) (draw : Int) (hl : rows.length ≤ 1000) : ∀ (d k : Nat) (i : Int),0 ≤ i → i + d = rows.length → d < k →
 q3_Table.l0 k i rows draw = some ((rows.drop i.toNat).all rowOk && (decide (1 ≤ (rows.length : Int) ∧ (rows.length : Int) ≤ 12) && decide (0 ≤ draw ∧ draw ≤ 100)))
 | 0,k,i,h0,hi,hk => by
  obtain ⟨k,rfl⟩ := ksucc hk
  simp only [q3_Table.l0]
  rw [if_neg (by omega),List.drop_of_length_le (by omega)]
  simp only [r3_in,Option.bind_some,List.all_nil,Bool.true_and]
  cases decide (1 ≤ (rows.length : Int) ∧ (rows.length : Int) ≤ 12) <;> cases decide (0 ≤ draw ∧ draw ≤ 100) <;> rfl
 | d + 1,k,i,h0,hi,hk => by
  obtain ⟨k,rfl⟩ := ksucc (by omega : 0 < k)
  simp only [q3_Table.l0]
  rw [if_pos (by omega),if_pos h0,w64 (by omega),refTable_go rows draw hl d k (i + 1) (by omega) (by omega) (by omega),drop_at z126 rows i h0 (by omega),List.all_cons]
  show _ = some ((rowOk (rd_T126 rows i) && _) && _)
  unfold rowOk
  simp only [r3_in,Option.bind_some]
  cases decide (1 ≤ (rd_T126 rows i).f0 ∧ (rd_T126 rows i).f0 ≤ 60) <;> cases decide (1 ≤ (rd_T126 rows i).f1 ∧ (rd_T126 rows i).f1 ≤ 60) <;> cases decide (1 ≤ (rd_T126 rows i).f2 ∧ (rd_T126 rows i).f2 ≤ 1000) <;> rfl
theorem refTable_eq {rows : List S126} {draw : Int} {k : Nat} (hl : rows.length ≤ 1000) (hk : rows.length < k) : q3_Table.f k rows draw = some (okT rows draw) := by
 unfold q3_Table.f okT
 rw [refTable_go rows draw hl rows.length k 0 (by omega) (by omega) hk]
 show some (rows.all rowOk && _) = _
 cases decide (1 ≤ (rows.length : Int) ∧ (rows.length : Int) ≤ 12) <;> cases decide (0 ≤ draw ∧ draw ≤ 100) <;> cases rows.all rowOk <;> rfl
theorem refBasin_go (rows : List S126) (draw : Int) (noz : List S64) (weir spill : Int) (hl : rows.length ≤ 1000) (hn : noz.length ≤ 1000) : ∀ (d k : Nat) (i : Int),0 ≤ i → i + d = noz.length → rows.length + d + 1 < k →
 q4_Basin.l0 k i rows draw noz weir spill = some ((noz.drop i.toNat).all (nozOk rows.length) && (okT rows draw && (decide (1 ≤ (noz.length : Int) ∧ (noz.length : Int) ≤ 6) && (decide (0 ≤ weir ∧ weir ≤ 40) && decide (0 ≤ spill ∧ spill ≤ 100)))))
 | 0,k,i,h0,hi,hk => by
  obtain ⟨k,rfl⟩ := ksucc (by omega : 0 < k)
  simp only [q4_Basin.l0]
  rw [if_neg (by omega),List.drop_of_length_le (by omega),refTable_eq hl (by omega)]
  simp only [r4_in,r_height,Option.bind_some,List.all_nil,Bool.true_and]
  cases okT rows draw <;> cases decide (1 ≤ (noz.length : Int) ∧ (noz.length : Int) ≤ 6) <;> cases decide (0 ≤ weir ∧ weir ≤ 40) <;> cases decide (0 ≤ spill ∧ spill ≤ 100) <;> rfl
 | d + 1,k,i,h0,hi,hk => by
  obtain ⟨k,rfl⟩ := ksucc (by omega : 0 < k)
  simp only [q4_Basin.l0]
  rw [if_pos (by omega),if_pos h0,w64 (n := i + 1) (by omega),w64 (by omega),refBasin_go rows draw noz weir spill hl hn d k (i + 1) (by omega) (by omega) (by omega),drop_at z64 noz i h0 (by omega),List.all_cons]
  show _ = some ((nozOk rows.length (rd_T64 noz i) && _) && _)
  unfold nozOk
  simp only [r4_in,r_height,Option.bind_some]
  cases decide (0 ≤ (rd_T64 noz i).f0 ∧ (rd_T64 noz i).f0 ≤ (rows.length : Int) - 1) <;> cases decide (0 ≤ (rd_T64 noz i).f1 ∧ (rd_T64 noz i).f1 ≤ 40) <;> rfl
theorem refBasin_eq {rows : List S126} {draw : Int} {noz : List S64} {weir spill : Int} {k : Nat} (hl : rows.length ≤ 1000) (hn : noz.length ≤ 1000) (hk : rows.length + noz.length + 1 < k) :
 q4_Basin.f k rows draw noz weir spill = some (okB rows draw noz weir spill) := by
 unfold q4_Basin.f okB
 rw [refBasin_go rows draw noz weir spill hl hn noz.length k 0 (by omega) (by omega) hk]
 show some (noz.all (nozOk rows.length) && _) = _
 cases okT rows draw <;> cases decide (1 ≤ (noz.length : Int) ∧ (noz.length : Int) ≤ 6) <;> cases decide (0 ≤ weir ∧ weir ≤ 40) <;> cases decide (0 ≤ spill ∧ spill ≤ 100) <;> cases noz.all (nozOk rows.length) <;> rfl
structure OkB (rows : List S126) (draw : Int) (noz : List S64) (weir spill : Int) : Prop where
 r1 : 1 ≤ rows.length
 r2 : rows.length ≤ 12
 tab : okT rows draw = true
 rr : ∀ r ∈ rows,1 ≤ r.f2 ∧ r.f2 ≤ 1000
 n1 : 1 ≤ noz.length
 n2 : noz.length ≤ 6
 w0 : 0 ≤ weir
 w1 : weir ≤ 40
 s0 : 0 ≤ spill
 s1 : spill ≤ 100
 nn : ∀ z ∈ noz,0 ≤ z.f0 ∧ z.f0 < rows.length ∧ 0 ≤ z.f1 ∧ z.f1 ≤ 40
theorem okB_iff {rows : List S126} {draw : Int} {noz : List S64} {weir spill : Int} : okB rows draw noz weir spill = true ↔ OkB rows draw noz weir spill := by
 constructor
 · intro h
   unfold okB at h
   simp only [Bool.and_eq_true,decide_eq_true_eq,List.all_eq_true] at h
   obtain ⟨ht,h2,h3,h4,h5⟩ := h
   have ht' := ht
   unfold okT at ht'
   simp only [Bool.and_eq_true,decide_eq_true_eq,List.all_eq_true] at ht'
   obtain ⟨h0,h1,hr⟩ := ht'
   refine ⟨by omega,by omega,ht,fun r hm => ?_,by omega,by omega,by omega,by omega,by omega,by omega,fun z hm => ?_⟩
   · have := hr r hm;unfold rowOk at this;simp only [Bool.and_eq_true,decide_eq_true_eq] at this;omega
   · have := h5 z hm;unfold nozOk at this;simp only [Bool.and_eq_true,decide_eq_true_eq] at this;omega
 · intro h
   unfold okB
   simp only [Bool.and_eq_true,decide_eq_true_eq,List.all_eq_true]
   have a1 := h.n1;have a2 := h.n2
   refine ⟨h.tab,by omega,⟨h.w0,h.w1⟩,⟨h.s0,h.s1⟩,fun z hz => ?_⟩
   have := h.nn z hz
   unfold nozOk;simp only [Bool.and_eq_true,decide_eq_true_eq];omega
def gvz (rows : List S126) (z : S64) : Int := (rd_T126 rows z.f0).f2
def pour (rows : List S126) (h : Int) (z : S64) : Int := gvz rows z * mx 0 (mn 5 (h - z.f1)) / 5
def gat (rows : List S126) (noz : List S64) (h : Int) : List Int := noz.map (pour rows h)
theorem gvz_in {rows : List S126} {draw : Int} {noz : List S64} {weir spill : Int} (h : OkB rows draw noz weir spill) {z : S64} (hz : z ∈ noz) : 1 ≤ gvz rows z ∧ gvz rows z ≤ 1000 := by
 have a := h.nn z hz
 exact h.rr _ (getD_mem z126 a.1 a.2.1)
theorem mm_cases (x : Int) : mx 0 (mn 5 x) = 0 ∨ mx 0 (mn 5 x) = 1 ∨ mx 0 (mn 5 x) = 2 ∨ mx 0 (mn 5 x) = 3 ∨ mx 0 (mn 5 x) = 4 ∨ mx 0 (mn 5 x) = 5 := by
 unfold mx mn;split <;> split <;> omega
theorem mm_swap (x : Int) : mn 5 (mx 0 x) = mx 0 (mn 5 x) := by unfold mx mn;(repeat' split) <;> omega
theorem pour_prog {g m : Int} (h0 : 0 ≤ g) (h1 : g ≤ 1000) (hm : m = 0 ∨ m = 1 ∨ m = 2 ∨ m = 3 ∨ m = 4 ∨ m = 5) : wrap64 (Int.tdiv (wrap64 (g * m)) 5) = g * m / 5 := by
 have : 0 ≤ g * m ∧ g * m ≤ 5000 := by rcases hm with rfl | rfl | rfl | rfl | rfl | rfl <;> omega
 rw [w64 (n := g * m) (by omega),Int.tdiv_eq_ediv_of_nonneg this.1,w64 (by omega)]
theorem pour_in {rows : List S126} {draw : Int} {noz : List S64} {weir spill : Int} (h : OkB rows draw noz weir spill) {z : S64} (hz : z ∈ noz) (x : Int) : 0 ≤ pour rows x z ∧ pour rows x z ≤ 1000 := by
 have a := gvz_in h hz
 unfold pour
 rcases mm_cases (x - z.f1) with e | e | e | e | e | e <;> rw [e] <;> omega
theorem rd_map (f : S64 → Int) {noz : List S64} {i : Int} (h0 : 0 ≤ i) (h1 : i < noz.length) : rd (noz.map f) i = f (rd_T64 noz i) := by
 unfold rd rd_T64
 rw [List.getD_eq_getElem?_getD,List.getD_eq_getElem?_getD,List.getElem?_map,List.getElem?_eq_getElem (show i.toNat < noz.length by omega)]
 rfl
theorem take_snoc {α β : Type} (d : α) (f : α → β) (l : List α) {i : Int} (h0 : 0 ≤ i) (h1 : i < l.length) : (l.take (i + 1).toNat).map f = (l.take i.toNat).map f ++ [f (l.getD i.toNat d)] := by
 rw [show (i + 1).toNat = i.toNat + 1 by omega,List.take_succ_eq_append_getElem (show i.toNat < l.length by omega),List.map_append,List.getD_eq_getElem?_getD,List.getElem?_eq_getElem (show i.toNat < l.length by omega)]
 rfl
set_option linter.unusedSimpArgs false
set_option linter.unusedSimpArgs false
set_option linter.unusedSimpArgs false
section
attribute [local go_sem] max2_int min2_int max_two min_two
set_option linter.unusedSimpArgs false
set_option linter.unusedSimpArgs false
end
set_option linter.unusedSimpArgs false
def fillK (n : Nat) : Nat := 50 * (n + 2) + 100
end Go.Proofs.YticlelgmmonloaaGreatDoor.C

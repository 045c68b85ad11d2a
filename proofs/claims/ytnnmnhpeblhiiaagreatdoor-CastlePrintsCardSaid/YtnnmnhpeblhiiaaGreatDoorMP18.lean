/- A part of the proof: the walks of the functions that it reaches. TIGHT. -/
import Derived.Test.YtnnmnhpeblhiiaaGreatDoorMP10
set_option linter.unusedVariables false
set_option linter.unusedSimpArgs false
namespace Go.Proofs.YtnnmnhpeblhiiaaGreatDoor.C
open Go.RowKit Go.Proofs.YtnnmnhpeblhiiaaGreatDoorW.PrintWords Go.Proofs.YtnnmnhpeblhiiaaGreatDoorW.PrintLast Go.Proofs.YtnnmnhpeblhiiaaGreatDoorW.PrintMore
set_option linter.unusedVariables false
set_option linter.unusedSimpArgs false
set_option maxHeartbeats 16000000
set_option maxRecDepth 100000
section
attribute [local go_sem] max2_int min2_int max_two min_two
mutual
def q1_Decimal.j0 : Nat → Int → Bool → Option (ByteArray)
 | 0,_,_ => none
 | k + 1,x0,x8 => if x8 = true then ((some (([(wrap64 (48 - x0)) % 256] : List Int) : List Int)).bind fun y930 => (if 1 + (strOfNums y930).size ≤ 9223372036854775807 then (some ((⟨#[45]⟩ : ByteArray) ++ (strOfNums y930))) else (none))) else (if x0 < 0 then ((q1_Decimal.f k (wrap64 (Int.tdiv x0 10))).bind fun t933 => ((some (([(wrap64 (48 - (Int.tmod x0 10))) % 256] : List Int) : List Int)).bind fun y934 => (if t933.size + (strOfNums y934).size ≤ 9223372036854775807 then (some (t933 ++ (strOfNums y934))) else (none)))) else (if x0 < 10 then (some (strOfNums (([(wrap64 (48 + x0)) % 256] : List Int)))) else ((q1_Decimal.f k (wrap64 (Int.tdiv x0 10))).bind fun t940 => ((some (([(wrap64 (48 + (Int.tmod x0 10))) % 256] : List Int) : List Int)).bind fun y941 => (if t940.size + (strOfNums y941).size ≤ 9223372036854775807 then (some (t940 ++ (strOfNums y941))) else (none))))))
def q1_Decimal.f : Nat → Int → Option (ByteArray)
 | 0,_ => none
 | k + 1,a0 => if a0 > (-10) then (q1_Decimal.j0 k a0 (decide (a0 < 0))) else (q1_Decimal.j0 k a0 false)
end
def q1_Decimal.T4 : Bool × List (List Nat × List Nat) := (true,[([],[]),([0],[0]),([1],[1]),([],[]),([3],[3]),([4],[4]),([5],[5]),([6],[6]),([7],[7]),([2,8],[2,8]),([9,2,0,1,2,3,4,5,6,7,8,9],[9])])
def q1_Decimal.B4 : List Nat := [0,1,3,0,8,24,56,120,248,511,1023]
theorem q1_Decimal.tab4 : rtab .any (opsOf Tryz.f125 4) = q1_Decimal.T4 := by kernel_rfl
theorem q1_Decimal.bits4 : waitsOk q1_Decimal.T4.2 q1_Decimal.B4 = true := by kernel_rfl
def q1_Decimal.T7 : Bool × List (List Nat × List Nat) := (true,[([],[]),([0],[0]),([1],[1]),([],[]),([3],[3]),([4],[4]),([5],[5]),([6],[6]),([7],[7]),([2,8],[2,8]),([9,2,0,1,2,3,4,5,6,7,8,9],[9])])
def q1_Decimal.B7 : List Nat := [0,1,3,0,8,24,56,120,248,511,1023]
theorem q1_Decimal.tab7 : rtab .any (opsOf Tryz.f125 7) = q1_Decimal.T7 := by kernel_rfl
theorem q1_Decimal.bits7 : waitsOk q1_Decimal.T7.2 q1_Decimal.B7 = true := by kernel_rfl
theorem q1_Decimal.calls (k : Nat) : ∀ (a0 : Int) (r : ByteArray) (w : World) (h : q1_Decimal.f k a0 = some r),
 Calls Tryz.prog 125 #[.int .i64 a0] w fun e w' => e = .returned (.string r) ∧ Below w.heap.size w w' := by
 induction k using Nat.strongRecOn with
 | _ k ih =>
 intro a0 r w h
 cases k with
 | zero => exact absurd h (by simp [q1_Decimal.f])
 | succ k =>
 simp only [q1_Decimal.f] at h
 have HB := am (Below.refl w.heap.size w)
 have H : (if a0 > (-10) then (q1_Decimal.j0 k a0 (decide (a0 < 0))) else (q1_Decimal.j0 k a0 false)) = some r := h
 clear h
 have HC2 := am H
 clear H
 go_enter Tryz.func125,Tryz.ntmps125
 go_upto_region 1 with (fail)
 go_cut [8] (fun v8 wc => ∃ (kq : Nat) (x8_1 : Bool),v8 = .bool x8_1 ∧ Aside0 (q1_Decimal.j0 kq a0 x8_1 = some r) ∧ Aside0 (kq ≤ k) ∧ Aside0 (Below w.heap.size w wc))
 case first =>
  have H := HC2.out
  clear HC2
  by_cases c3 : a0 > (-10)
  · rw [if_pos c3] at H
    have c3b0 : decide ((-10) < a0) = true := decide_eq_true c3
    clear c3
    (first | rw [c3b0] | (simp only [i64_w,i32_w];rw [c3b0]) | skip)
    replace H' := am H
    go_wp2
    go_meet
    case rel => exact ⟨_,(decide (a0 < 0)),(by first | rfl | (simp;done) | (simp [*];done)),H',⟨by first | omega | exact Nat.le_refl _⟩,⟨HB.out⟩⟩
  · rw [if_neg c3] at H
    have c3b0 : decide ((-10) < a0) = false := decide_eq_false c3
    clear c3
    (first | rw [c3b0] | (simp only [i64_w,i32_w];rw [c3b0]) | skip)
    replace H' := am H
    go_wp2
    go_meet
    case rel => exact ⟨_,(false),(by first | rfl | (simp;done) | (simp [*];done)),H',⟨by first | omega | exact Nat.le_refl _⟩,⟨HB.out⟩⟩
 case rest =>
  clear HC2
  obtain ⟨kq,x8_1,rfl,HA,HJ1,HB⟩ := hcut
  cases kq with
  | zero => exact absurd HA.out (by simp [q1_Decimal.j0])
  | succ kj1 =>
   have H := HA.out
   clear HA
   simp only [q1_Decimal.j0] at H
   by_cases c4 : x8_1 = true
   · subst c4
     replace H : ((some (([(wrap64 (48 - a0)) % 256] : List Int) : List Int)).bind fun y930 => (if 1 + (strOfNums y930).size ≤ 9223372036854775807 then (some ((⟨#[45]⟩ : ByteArray) ++ (strOfNums y930))) else (none))) = some r := by rw [if_pos rfl] at H;exact H
     obtain ⟨y930,hy930⟩ : ∃ y_ : List Int,y_ = (([(wrap64 (48 - a0)) % 256] : List Int)) := ⟨_,rfl⟩
     replace H : (if 1 + (strOfNums y930).size ≤ 9223372036854775807 then (some ((⟨#[45]⟩ : ByteArray) ++ (strOfNums y930))) else (none)) = some r := by first | (rw [hy930];with_reducible exact H) | (have H2_ := (Option.bind_some _ _).symm.trans H;rw [hy930];with_reducible exact H2_) | (have H2_ := (Option.bind_some _ _).symm.trans H;with_reducible exact H2_) | with_reducible exact H | (rw [hy930];exact H) | exact H
     have Ny930 := am hy930
     clear hy930
     by_cases c5 : 1 + (strOfNums y930).size ≤ 9223372036854775807
     case neg =>
      rw [if_neg c5] at H
      exact absurd H (by simp)
     rw [if_pos c5] at H
     have c5b0 := eq_true c5
     have c5b1 : decide (1 + (strOfNums y930).size ≤ 9223372036854775807) = true := decide_eq_true c5
     try have c5b2 : (9223372036854775807 < 1 + (strOfNums y930).size) = False := eq_false (Nat.not_lt.2 c5)
     obtain rfl := Option.some.inj H
     go_wp2_with (first | ((refine gate_dst (N := 12) rfl ?_);refine Kd.R_lit (Kd.int .u8) _ 5 ?hg (N := 12) ?hd (xs := ([(wrap64 (48 - a0)) % 256] : List Int)) (inner := [.int .u8 ((wrap64 (48 - a0)) % 256)]) (ok := fun _ => True) (okp := fun _ => True) ?hr ?hp (fun _ hk => hk) trivial (Below.refl _ _) (Nat.le_refl _) (by simp) ?_;(case hd => rfl);(case hg => rfl);(case hr => go_simp;try rfl);(case hp => exact (Reps.one (show Kd.M (Kd.int .u8) _ _ _ ((wrap64 (48 - a0)) % 256) [.int .u8 ((wrap64 (48 - a0)) % 256)] from rfl) (Reps.none _ _)));intro v931 w6 ho7 hb hg_ hnew_;clear hg_ hnew_;(first | rw [← Ny930.out] at ho7 | (simp only [Int.reduceToNat] at ho7;rw [← Ny930.out] at ho7));have HO932 := am (Kd.R_lower ho7 (below_size (HB.out)));replace HB := am (below_step (HB.out) hb);clear hb ho7;have hcv8 := own_string (P := Tryz.prog) Tryz.underlying97 Tryz.underlying5 Tryz.underlying9 (Kd.own_of_R HO932.out)))
     go_ret
     exact ⟨by first | rfl | (simp [*] <;> rfl),HB.out⟩
   · replace c4 := Bool.eq_false_iff.mpr c4
     subst c4
     replace H : (if a0 < 0 then ((q1_Decimal.f kj1 (wrap64 (Int.tdiv a0 10))).bind fun t933 => ((some (([(wrap64 (48 - (Int.tmod a0 10))) % 256] : List Int) : List Int)).bind fun y934 => (if t933.size + (strOfNums y934).size ≤ 9223372036854775807 then (some (t933 ++ (strOfNums y934))) else (none)))) else (if a0 < 10 then (some (strOfNums (([(wrap64 (48 + a0)) % 256] : List Int)))) else ((q1_Decimal.f kj1 (wrap64 (Int.tdiv a0 10))).bind fun t940 => ((some (([(wrap64 (48 + (Int.tmod a0 10))) % 256] : List Int) : List Int)).bind fun y941 => (if t940.size + (strOfNums y941).size ≤ 9223372036854775807 then (some (t940 ++ (strOfNums y941))) else (none)))))) = some r := by rw [if_neg (show ¬ (false = true) by decide)] at H;exact H
     by_cases c9 : a0 < 0
     · rw [if_pos c9] at H
       have c9b0 : decide (a0 < 0) = true := decide_eq_true c9
       clear c9
       replace H := obm H
       obtain ⟨t933,A100,H⟩ := H
       replace H : ((some (([(wrap64 (48 - (Int.tmod a0 10))) % 256] : List Int) : List Int)).bind fun y934 => (if t933.size + (strOfNums y934).size ≤ 9223372036854775807 then (some (t933 ++ (strOfNums y934))) else (none))) = some r := H
       have A10 := am A100
       clear A100
       obtain ⟨y934,hy934⟩ : ∃ y_ : List Int,y_ = (([(wrap64 (48 - (Int.tmod a0 10))) % 256] : List Int)) := ⟨_,rfl⟩
       replace H : (if t933.size + (strOfNums y934).size ≤ 9223372036854775807 then (some (t933 ++ (strOfNums y934))) else (none)) = some r := by first | (rw [hy934];with_reducible exact H) | (have H2_ := (Option.bind_some _ _).symm.trans H;rw [hy934];with_reducible exact H2_) | (have H2_ := (Option.bind_some _ _).symm.trans H;with_reducible exact H2_) | with_reducible exact H | (rw [hy934];exact H) | exact H
       have Ny934 := am hy934
       clear hy934
       by_cases c11 : t933.size + (strOfNums y934).size ≤ 9223372036854775807
       case neg =>
        rw [if_neg c11] at H
        exact absurd H (by simp)
       rw [if_pos c11] at H
       have c11b0 := eq_true c11
       have c11b1 : decide (t933.size + (strOfNums y934).size ≤ 9223372036854775807) = true := decide_eq_true c11
       try have c11b2 : (9223372036854775807 < t933.size + (strOfNums y934).size) = False := eq_false (Nat.not_lt.2 c11)
       obtain rfl := Option.some.inj H
       try go_wp2
       replace HB := am (below_drew1 HB.out)
       refine start_ (n := 11) (S := fun w' => True) (ds := []) (ba 11 0) (by kernel_rfl) rfl rfl trivial (fun hHeld => ?_);refine with_tabW q1_Decimal.tab4 q1_Decimal.bits4 (fun HT_ HW_ => ?_)
       generalize wc.drew = w12 at HB hHeld ⊢
       refine pure_ (i := 0) (N := some 17) (v := ?_) (a' := ?_) (ba 11 1) rfl rfl (any_of HT_.out (by kernel_rfl)) (fun _ _ _ h => h) (Or.inl ⟨by rfl,?_⟩) ?_ ?_
       rotate_left
       · intro w'
         go_simp
         with_reducible rfl
       rotate_left
       · simp only [Act.put,NRM]
         rfl
       refine pure_ (i := 1) (N := some 18) (v := ?_) (a' := ?_) (ba 11 3) rfl rfl (any_of HT_.out (by kernel_rfl)) (fun _ _ _ h => h) (Or.inl ⟨by rfl,?_⟩) ?_ ?_
       rotate_left
       · intro w'
         go_simp
         with_reducible rfl
       rotate_left
       · simp only [Act.put,NRM]
         rfl
       refine pure_ (i := 3) (N := some 20) (v := ?_) (a' := ?_) (ba 11 11) rfl rfl (any_of HT_.out (by kernel_rfl)) (fun _ _ _ h => h) (Or.inl ⟨by rfl,?_⟩) ?_ ?_
       rotate_left
       · intro w'
         go_simp
         with_reducible rfl
       rotate_left
       · simp only [Act.put,NRM]
         rfl
       refine pure_ (i := 4) (N := some 21) (v := ?_) (a' := ?_) (ba 11 27) rfl rfl (any_of HT_.out (by kernel_rfl)) (fun _ _ _ h => h) (Or.inl ⟨by rfl,?_⟩) ?_ ?_
       rotate_left
       · intro w'
         go_simp
         with_reducible rfl
       rotate_left
       · simp only [Act.put,NRM]
         rfl
       refine pure_ (i := 5) (N := some 22) (v := ?_) (a' := ?_) (ba 11 59) rfl rfl (any_of HT_.out (by kernel_rfl)) (fun _ _ _ h => h) (Or.inl ⟨by rfl,?_⟩) ?_ ?_
       rotate_left
       · intro w'
         go_simp
         with_reducible rfl
       rotate_left
       · simp only [Act.put,NRM]
         rfl
       refine pure_ (i := 6) (N := some 23) (v := ?_) (a' := ?_) (ba 11 123) rfl rfl (any_of HT_.out (by kernel_rfl)) (fun _ _ _ h => h) (Or.inl ⟨by rfl,?_⟩) ?_ ?_
       rotate_left
       · intro w'
         go_simp
         with_reducible rfl
       rotate_left
       · simp only [Act.put,NRM]
         rfl
       refine join_ (σ := Value) 2 (ba 11 511) (fun s_ => [(19,.string t933),(24,s_),(25,.string (strOfNums y934))]) (fun s_ w' => (Kd.R (Kd.int .u8) 5 w' w.heap.size (fun _ => True) s_ y934) ∧ (Below w.heap.size w w')) ?_ ?_
       rotate_left
       · intro hCont
         refine two_ (i := 2) (j := 7) (Ni := some 19) (Nj := some 24) (ba 11 127) (ba 11 251) rfl rfl rfl rfl (two_of HT_.out (by kernel_rfl)) (by decide) (by decide) (fun K hK => ?_) (fun K hK => ?_)
         · skip
           refine goes_ Tryz.func125 (by kernel_rfl) rfl #[.int .i64 (wrap64 (Int.tdiv a0 10))] (by rfl) rfl rfl (by (try simp only [List.map_toArray,List.map_cons,List.map_nil]);first | done | rfl | (simp only [List.length_drop,List.length_take];rfl)) ?_
           with_reducible refine (ih kj1 (by have := HJ1.out;omega) (wrap64 (Int.tdiv a0 10)) t933 _ A10.out).mono ?_
           rintro e w13 ⟨rfl,hb⟩
           refine ⟨_,rfl,?_⟩
           replace HB := am (below_step (HB.out) hb)
           (try clear hb)
           (try clear hb2)
           (try clear hk)
           (try clear hi)
           refine hK.out _ _ trivial (fun hHeld => ?_)
           clear hK K
           refine norm_ (a' := ?_) ?_ ?_
           rotate_left
           · show Act.put _ (some 19) _ = _
             simp only [Act.put,NRM]
             rfl
           refine one_ (i := 7) (N := some 24) (ba 11 255) rfl rfl (one_of HT_.out (by kernel_rfl)) (by decide) (fun K hK => ?_)
           refine Kd.R_lit_step (Kd.int .u8) _ 5 ?hg (N := 24) ?hd (xs := ([(wrap64 (48 - (Int.tmod a0 10))) % 256] : List Int)) (inner := [.int .u8 ((wrap64 (48 - (Int.tmod a0 10))) % 256)]) (ok := fun _ => True) (okp := fun _ => True) ?hr ?hp (fun _ hk => hk) trivial (Below.refl _ _) (Nat.le_refl _) (by simp) ?_;(case hd => rfl);(case hg => rfl);(case hr => go_simp;try rfl);(case hp => exact (Reps.one (show Kd.M (Kd.int .u8) _ _ _ ((wrap64 (48 - (Int.tmod a0 10))) % 256) [.int .u8 ((wrap64 (48 - (Int.tmod a0 10))) % 256)] from rfl) (Reps.none _ _)))
           intro v935 w14 ho15 hb hg_ hnew_
           clear hg_ hnew_
           (first | rw [← Ny934.out] at ho15 | (simp only [Int.reduceToNat] at ho15;rw [← Ny934.out] at ho15))
           have HO936 := am (Kd.R_lower ho15 (below_size (HB.out)))
           replace HB := am (below_step (HB.out) hb)
           clear hb ho15
           refine hK.out _ _ trivial (fun hHeld => ?_)
           clear hK K
           refine norm_ (a' := ?_) ?_ ?_
           rotate_left
           · show Act.put _ (some 24) _ = _
             simp only [Act.put,NRM]
             rfl
           refine one_ (i := 8) (N := some 25) (ba 11 511) rfl rfl (one_of HT_.out (by kernel_rfl)) (by decide) (fun K hK => ?_)
           have hcv16 := own_string (P := Tryz.prog) Tryz.underlying97 Tryz.underlying5 Tryz.underlying9 (Kd.own_of_R HO936.out)
           refine value_ (w1 := ?_) (v := ?_) (by rfl) rfl ?_ ?_
           rotate_left 2
           · go_simp
             constructor
             · rfl
             · rfl
           clear hcv16
           refine hK.out _ _ trivial (fun hHeld => ?_)
           clear hK K
           refine norm_ (a' := ?_) ?_ ?_
           rotate_left
           · show Act.put _ (some 25) _ = _
             simp only [Act.put,NRM]
             rfl
           exact norm_ (by simp only [putAll,Act.put,List.setIfInBounds_toArray,List.set_cons_zero,List.set_cons_succ]) (hCont (v935) _ ⟨HO936.out,(HB.out)⟩)
         · skip
           refine Kd.R_lit_step (Kd.int .u8) _ 5 ?hg (N := 24) ?hd (xs := ([(wrap64 (48 - (Int.tmod a0 10))) % 256] : List Int)) (inner := [.int .u8 ((wrap64 (48 - (Int.tmod a0 10))) % 256)]) (ok := fun _ => True) (okp := fun _ => True) ?hr ?hp (fun _ hk => hk) trivial (Below.refl _ _) (Nat.le_refl _) (by simp) ?_;(case hd => rfl);(case hg => rfl);(case hr => go_simp;try rfl);(case hp => exact (Reps.one (show Kd.M (Kd.int .u8) _ _ _ ((wrap64 (48 - (Int.tmod a0 10))) % 256) [.int .u8 ((wrap64 (48 - (Int.tmod a0 10))) % 256)] from rfl) (Reps.none _ _)))
           intro v935 w13 ho14 hb hg_ hnew_
           clear hg_ hnew_
           (first | rw [← Ny934.out] at ho14 | (simp only [Int.reduceToNat] at ho14;rw [← Ny934.out] at ho14))
           have HO936 := am (Kd.R_lower ho14 (below_size (HB.out)))
           replace HB := am (below_step (HB.out) hb)
           clear hb ho14
           refine hK.out _ _ trivial (fun hHeld => ?_)
           clear hK K
           refine norm_ (a' := ?_) ?_ ?_
           rotate_left
           · show Act.put _ (some 24) _ = _
             simp only [Act.put,NRM]
             rfl
           refine two_ (i := 2) (j := 8) (Ni := some 19) (Nj := some 25) (ba 11 255) (ba 11 507) rfl rfl rfl rfl (two_of HT_.out (by kernel_rfl)) (by decide) (by decide) (fun K hK => ?_) (fun K hK => ?_)
           · skip
             refine goes_ Tryz.func125 (by kernel_rfl) rfl #[.int .i64 (wrap64 (Int.tdiv a0 10))] (by rfl) rfl rfl (by (try simp only [List.map_toArray,List.map_cons,List.map_nil]);first | done | rfl | (simp only [List.length_drop,List.length_take];rfl)) ?_
             with_reducible refine (ih kj1 (by have := HJ1.out;omega) (wrap64 (Int.tdiv a0 10)) t933 _ A10.out).mono ?_
             rintro e w15 ⟨rfl,hb⟩
             refine ⟨_,rfl,?_⟩
             replace HO936 := am (Kd.R_below HO936.out hb)
             replace HB := am (below_step (HB.out) hb)
             (try clear hb)
             (try clear hb2)
             (try clear hk)
             (try clear hi)
             refine hK.out _ _ trivial (fun hHeld => ?_)
             clear hK K
             refine norm_ (a' := ?_) ?_ ?_
             rotate_left
             · show Act.put _ (some 19) _ = _
               simp only [Act.put,NRM]
               rfl
             refine one_ (i := 8) (N := some 25) (ba 11 511) rfl rfl (one_of HT_.out (by kernel_rfl)) (by decide) (fun K hK => ?_)
             have hcv16 := own_string (P := Tryz.prog) Tryz.underlying97 Tryz.underlying5 Tryz.underlying9 (Kd.own_of_R HO936.out)
             refine value_ (w1 := ?_) (v := ?_) (by rfl) rfl ?_ ?_
             rotate_left 2
             · go_simp
               constructor
               · rfl
               · rfl
             clear hcv16
             refine hK.out _ _ trivial (fun hHeld => ?_)
             clear hK K
             refine norm_ (a' := ?_) ?_ ?_
             rotate_left
             · show Act.put _ (some 25) _ = _
               simp only [Act.put,NRM]
               rfl
             exact norm_ (by simp only [putAll,Act.put,List.setIfInBounds_toArray,List.set_cons_zero,List.set_cons_succ]) (hCont (v935) _ ⟨HO936.out,(HB.out)⟩)
           · skip
             have hcv15 := own_string (P := Tryz.prog) Tryz.underlying97 Tryz.underlying5 Tryz.underlying9 (Kd.own_of_R HO936.out)
             refine value_ (w1 := ?_) (v := ?_) (by rfl) rfl ?_ ?_
             rotate_left 2
             · go_simp
               constructor
               · rfl
               · rfl
             clear hcv15
             refine hK.out _ _ trivial (fun hHeld => ?_)
             clear hK K
             refine norm_ (a' := ?_) ?_ ?_
             rotate_left
             · show Act.put _ (some 25) _ = _
               simp only [Act.put,NRM]
               rfl
             refine one_ (i := 2) (N := some 19) (ba 11 511) rfl rfl (one_of HT_.out (by kernel_rfl)) (by decide) (fun K hK => ?_)
             refine goes_ Tryz.func125 (by kernel_rfl) rfl #[.int .i64 (wrap64 (Int.tdiv a0 10))] (by rfl) rfl rfl (by (try simp only [List.map_toArray,List.map_cons,List.map_nil]);first | done | rfl | (simp only [List.length_drop,List.length_take];rfl)) ?_
             with_reducible refine (ih kj1 (by have := HJ1.out;omega) (wrap64 (Int.tdiv a0 10)) t933 _ A10.out).mono ?_
             rintro e w16 ⟨rfl,hb⟩
             refine ⟨_,rfl,?_⟩
             replace HO936 := am (Kd.R_below HO936.out hb)
             replace HB := am (below_step (HB.out) hb)
             (try clear hb)
             (try clear hb2)
             (try clear hk)
             (try clear hi)
             refine hK.out _ _ trivial (fun hHeld => ?_)
             clear hK K
             refine norm_ (a' := ?_) ?_ ?_
             rotate_left
             · show Act.put _ (some 19) _ = _
               simp only [Act.put,NRM]
               rfl
             exact norm_ (by simp only [putAll,Act.put,List.setIfInBounds_toArray,List.set_cons_zero,List.set_cons_succ]) (hCont (v935) _ ⟨HO936.out,(HB.out)⟩)
       rintro v935 w17 ⟨h0_,h1_⟩
       have n0_ : Aside0 (Kd.R (Kd.int .u8) 5 w17 w.heap.size (fun _ => True) v935 y934) := ⟨h0_⟩
       have n1_ : Aside0 (Below w.heap.size w w17) := ⟨h1_⟩
       clear HB
       clear h0_ h1_
       have HO936 := n0_
       have HB := n1_
       clear n0_ n1_
       have hHeld := trivial
       refine norm_ (a' := ?_) ?_ ?_
       rotate_left
       · simp only [putAll,Act.put,List.setIfInBounds_toArray,List.set_cons_zero,List.set_cons_succ]
         rfl
       refine pure_ (i := 9) (N := some 26) (v := ?_) (a' := ?_) (ba 11 1023) rfl rfl (any_of HT_.out (by kernel_rfl)) (fun _ _ _ h => h) (Or.inl ⟨by rfl,?_⟩) ?_ ?_
       rotate_left
       · intro w'
         go_simp
         with_reducible rfl
       rotate_left
       · simp only [Act.put,NRM]
         rfl
       refine pure_ (i := 10) (N := some 2) (v := ?_) (a' := ?_) (ba 11 2047) rfl rfl (any_of HT_.out (by kernel_rfl)) (fun _ _ _ h => h) (Or.inl ⟨by rfl,?_⟩) ?_ ?_
       rotate_left
       · intro w'
         go_simp
         with_reducible rfl
       rotate_left
       · simp only [Act.put,NRM]
         rfl
       refine done_ (done_of HT_.out (by kernel_rfl)) ?_
       try go_wp2
       go_ret
       exact ⟨by first | rfl | (simp [*] <;> rfl),HB.out⟩
     · rw [if_neg c9] at H
       have c9b0 : decide (a0 < 0) = false := decide_eq_false c9
       clear c9
       by_cases c18 : a0 < 10
       · rw [if_pos c18] at H
         have c18b0 : decide (a0 < 10) = true := decide_eq_true c18
         clear c18
         obtain ⟨y937,hy937⟩ : ∃ y_ : List Int,y_ = (([(wrap64 (48 + a0)) % 256] : List Int)) := ⟨_,rfl⟩
         replace H : (some (strOfNums y937)) = some r := by first | (rw [hy937];with_reducible exact H) | (have H2_ := (Option.bind_some _ _).symm.trans H;rw [hy937];with_reducible exact H2_) | (have H2_ := (Option.bind_some _ _).symm.trans H;with_reducible exact H2_) | with_reducible exact H | (rw [hy937];exact H) | exact H
         have Ny937 := am hy937
         clear hy937
         obtain rfl := Option.some.inj H
         go_wp2_with (first | ((refine gate_dst (N := 32) rfl ?_);refine Kd.R_lit (Kd.int .u8) _ 5 ?hg (N := 32) ?hd (xs := ([(wrap64 (48 + a0)) % 256] : List Int)) (inner := [.int .u8 ((wrap64 (48 + a0)) % 256)]) (ok := fun _ => True) (okp := fun _ => True) ?hr ?hp (fun _ hk => hk) trivial (Below.refl _ _) (Nat.le_refl _) (by simp) ?_;(case hd => rfl);(case hg => rfl);(case hr => go_simp;try rfl);(case hp => exact (Reps.one (show Kd.M (Kd.int .u8) _ _ _ ((wrap64 (48 + a0)) % 256) [.int .u8 ((wrap64 (48 + a0)) % 256)] from rfl) (Reps.none _ _)));intro v938 w19 ho20 hb hg_ hnew_;clear hg_ hnew_;(first | rw [← Ny937.out] at ho20 | (simp only [Int.reduceToNat] at ho20;rw [← Ny937.out] at ho20));have HO939 := am (Kd.R_lower ho20 (below_size (HB.out)));replace HB := am (below_step (HB.out) hb);clear hb ho20;have hcv21 := own_string (P := Tryz.prog) Tryz.underlying97 Tryz.underlying5 Tryz.underlying9 (Kd.own_of_R HO939.out)))
         go_ret
         exact ⟨by first | rfl | (simp [*] <;> rfl),HB.out⟩
       · rw [if_neg c18] at H
         have c18b0 : decide (a0 < 10) = false := decide_eq_false c18
         clear c18
         replace H := obm H
         obtain ⟨t940,A220,H⟩ := H
         replace H : ((some (([(wrap64 (48 + (Int.tmod a0 10))) % 256] : List Int) : List Int)).bind fun y941 => (if t940.size + (strOfNums y941).size ≤ 9223372036854775807 then (some (t940 ++ (strOfNums y941))) else (none))) = some r := H
         have A22 := am A220
         clear A220
         obtain ⟨y941,hy941⟩ : ∃ y_ : List Int,y_ = (([(wrap64 (48 + (Int.tmod a0 10))) % 256] : List Int)) := ⟨_,rfl⟩
         replace H : (if t940.size + (strOfNums y941).size ≤ 9223372036854775807 then (some (t940 ++ (strOfNums y941))) else (none)) = some r := by first | (rw [hy941];with_reducible exact H) | (have H2_ := (Option.bind_some _ _).symm.trans H;rw [hy941];with_reducible exact H2_) | (have H2_ := (Option.bind_some _ _).symm.trans H;with_reducible exact H2_) | with_reducible exact H | (rw [hy941];exact H) | exact H
         have Ny941 := am hy941
         clear hy941
         by_cases c23 : t940.size + (strOfNums y941).size ≤ 9223372036854775807
         case neg =>
          rw [if_neg c23] at H
          exact absurd H (by simp)
         rw [if_pos c23] at H
         have c23b0 := eq_true c23
         have c23b1 : decide (t940.size + (strOfNums y941).size ≤ 9223372036854775807) = true := decide_eq_true c23
         try have c23b2 : (9223372036854775807 < t940.size + (strOfNums y941).size) = False := eq_false (Nat.not_lt.2 c23)
         obtain rfl := Option.some.inj H
         try go_wp2
         replace HB := am (below_drew1 HB.out)
         refine start_ (n := 11) (S := fun w' => True) (ds := []) (ba 11 0) (by kernel_rfl) rfl rfl trivial (fun hHeld => ?_);refine with_tabW q1_Decimal.tab7 q1_Decimal.bits7 (fun HT_ HW_ => ?_)
         generalize wc.drew = w24 at HB hHeld ⊢
         refine pure_ (i := 0) (N := some 34) (v := ?_) (a' := ?_) (ba 11 1) rfl rfl (any_of HT_.out (by kernel_rfl)) (fun _ _ _ h => h) (Or.inl ⟨by rfl,?_⟩) ?_ ?_
         rotate_left
         · intro w'
           go_simp
           with_reducible rfl
         rotate_left
         · simp only [Act.put,NRM]
           rfl
         refine pure_ (i := 1) (N := some 35) (v := ?_) (a' := ?_) (ba 11 3) rfl rfl (any_of HT_.out (by kernel_rfl)) (fun _ _ _ h => h) (Or.inl ⟨by rfl,?_⟩) ?_ ?_
         rotate_left
         · intro w'
           go_simp
           with_reducible rfl
         rotate_left
         · simp only [Act.put,NRM]
           rfl
         refine pure_ (i := 3) (N := some 37) (v := ?_) (a' := ?_) (ba 11 11) rfl rfl (any_of HT_.out (by kernel_rfl)) (fun _ _ _ h => h) (Or.inl ⟨by rfl,?_⟩) ?_ ?_
         rotate_left
         · intro w'
           go_simp
           with_reducible rfl
         rotate_left
         · simp only [Act.put,NRM]
           rfl
         refine pure_ (i := 4) (N := some 38) (v := ?_) (a' := ?_) (ba 11 27) rfl rfl (any_of HT_.out (by kernel_rfl)) (fun _ _ _ h => h) (Or.inl ⟨by rfl,?_⟩) ?_ ?_
         rotate_left
         · intro w'
           go_simp
           with_reducible rfl
         rotate_left
         · simp only [Act.put,NRM]
           rfl
         refine pure_ (i := 5) (N := some 39) (v := ?_) (a' := ?_) (ba 11 59) rfl rfl (any_of HT_.out (by kernel_rfl)) (fun _ _ _ h => h) (Or.inl ⟨by rfl,?_⟩) ?_ ?_
         rotate_left
         · intro w'
           go_simp
           with_reducible rfl
         rotate_left
         · simp only [Act.put,NRM]
           rfl
         refine pure_ (i := 6) (N := some 40) (v := ?_) (a' := ?_) (ba 11 123) rfl rfl (any_of HT_.out (by kernel_rfl)) (fun _ _ _ h => h) (Or.inl ⟨by rfl,?_⟩) ?_ ?_
         rotate_left
         · intro w'
           go_simp
           with_reducible rfl
         rotate_left
         · simp only [Act.put,NRM]
           rfl
         refine join_ (σ := Value) 2 (ba 11 511) (fun s_ => [(36,.string t940),(41,s_),(42,.string (strOfNums y941))]) (fun s_ w' => (Kd.R (Kd.int .u8) 5 w' w.heap.size (fun _ => True) s_ y941) ∧ (Below w.heap.size w w')) ?_ ?_
         rotate_left
         · intro hCont
           refine two_ (i := 2) (j := 7) (Ni := some 36) (Nj := some 41) (ba 11 127) (ba 11 251) rfl rfl rfl rfl (two_of HT_.out (by kernel_rfl)) (by decide) (by decide) (fun K hK => ?_) (fun K hK => ?_)
           · skip
             refine goes_ Tryz.func125 (by kernel_rfl) rfl #[.int .i64 (wrap64 (Int.tdiv a0 10))] (by rfl) rfl rfl (by (try simp only [List.map_toArray,List.map_cons,List.map_nil]);first | done | rfl | (simp only [List.length_drop,List.length_take];rfl)) ?_
             with_reducible refine (ih kj1 (by have := HJ1.out;omega) (wrap64 (Int.tdiv a0 10)) t940 _ A22.out).mono ?_
             rintro e w25 ⟨rfl,hb⟩
             refine ⟨_,rfl,?_⟩
             replace HB := am (below_step (HB.out) hb)
             (try clear hb)
             (try clear hb2)
             (try clear hk)
             (try clear hi)
             refine hK.out _ _ trivial (fun hHeld => ?_)
             clear hK K
             refine norm_ (a' := ?_) ?_ ?_
             rotate_left
             · show Act.put _ (some 36) _ = _
               simp only [Act.put,NRM]
               rfl
             refine one_ (i := 7) (N := some 41) (ba 11 255) rfl rfl (one_of HT_.out (by kernel_rfl)) (by decide) (fun K hK => ?_)
             refine Kd.R_lit_step (Kd.int .u8) _ 5 ?hg (N := 41) ?hd (xs := ([(wrap64 (48 + (Int.tmod a0 10))) % 256] : List Int)) (inner := [.int .u8 ((wrap64 (48 + (Int.tmod a0 10))) % 256)]) (ok := fun _ => True) (okp := fun _ => True) ?hr ?hp (fun _ hk => hk) trivial (Below.refl _ _) (Nat.le_refl _) (by simp) ?_;(case hd => rfl);(case hg => rfl);(case hr => go_simp;try rfl);(case hp => exact (Reps.one (show Kd.M (Kd.int .u8) _ _ _ ((wrap64 (48 + (Int.tmod a0 10))) % 256) [.int .u8 ((wrap64 (48 + (Int.tmod a0 10))) % 256)] from rfl) (Reps.none _ _)))
             intro v942 w26 ho27 hb hg_ hnew_
             clear hg_ hnew_
             (first | rw [← Ny941.out] at ho27 | (simp only [Int.reduceToNat] at ho27;rw [← Ny941.out] at ho27))
             have HO943 := am (Kd.R_lower ho27 (below_size (HB.out)))
             replace HB := am (below_step (HB.out) hb)
             clear hb ho27
             refine hK.out _ _ trivial (fun hHeld => ?_)
             clear hK K
             refine norm_ (a' := ?_) ?_ ?_
             rotate_left
             · show Act.put _ (some 41) _ = _
               simp only [Act.put,NRM]
               rfl
             refine one_ (i := 8) (N := some 42) (ba 11 511) rfl rfl (one_of HT_.out (by kernel_rfl)) (by decide) (fun K hK => ?_)
             have hcv28 := own_string (P := Tryz.prog) Tryz.underlying97 Tryz.underlying5 Tryz.underlying9 (Kd.own_of_R HO943.out)
             refine value_ (w1 := ?_) (v := ?_) (by rfl) rfl ?_ ?_
             rotate_left 2
             · go_simp
               constructor
               · rfl
               · rfl
             clear hcv28
             refine hK.out _ _ trivial (fun hHeld => ?_)
             clear hK K
             refine norm_ (a' := ?_) ?_ ?_
             rotate_left
             · show Act.put _ (some 42) _ = _
               simp only [Act.put,NRM]
               rfl
             exact norm_ (by simp only [putAll,Act.put,List.setIfInBounds_toArray,List.set_cons_zero,List.set_cons_succ]) (hCont (v942) _ ⟨HO943.out,(HB.out)⟩)
           · skip
             refine Kd.R_lit_step (Kd.int .u8) _ 5 ?hg (N := 41) ?hd (xs := ([(wrap64 (48 + (Int.tmod a0 10))) % 256] : List Int)) (inner := [.int .u8 ((wrap64 (48 + (Int.tmod a0 10))) % 256)]) (ok := fun _ => True) (okp := fun _ => True) ?hr ?hp (fun _ hk => hk) trivial (Below.refl _ _) (Nat.le_refl _) (by simp) ?_;(case hd => rfl);(case hg => rfl);(case hr => go_simp;try rfl);(case hp => exact (Reps.one (show Kd.M (Kd.int .u8) _ _ _ ((wrap64 (48 + (Int.tmod a0 10))) % 256) [.int .u8 ((wrap64 (48 + (Int.tmod a0 10))) % 256)] from rfl) (Reps.none _ _)))
             intro v942 w25 ho26 hb hg_ hnew_
             clear hg_ hnew_
             (first | rw [← Ny941.out] at ho26 | (simp only [Int.reduceToNat] at ho26;rw [← Ny941.out] at ho26))
             have HO943 := am (Kd.R_lower ho26 (below_size (HB.out)))
             replace HB := am (below_step (HB.out) hb)
             clear hb ho26
             refine hK.out _ _ trivial (fun hHeld => ?_)
             clear hK K
             refine norm_ (a' := ?_) ?_ ?_
             rotate_left
             · show Act.put _ (some 41) _ = _
               simp only [Act.put,NRM]
               rfl
             refine two_ (i := 2) (j := 8) (Ni := some 36) (Nj := some 42) (ba 11 255) (ba 11 507) rfl rfl rfl rfl (two_of HT_.out (by kernel_rfl)) (by decide) (by decide) (fun K hK => ?_) (fun K hK => ?_)
             · skip
               refine goes_ Tryz.func125 (by kernel_rfl) rfl #[.int .i64 (wrap64 (Int.tdiv a0 10))] (by rfl) rfl rfl (by (try simp only [List.map_toArray,List.map_cons,List.map_nil]);first | done | rfl | (simp only [List.length_drop,List.length_take];rfl)) ?_
               with_reducible refine (ih kj1 (by have := HJ1.out;omega) (wrap64 (Int.tdiv a0 10)) t940 _ A22.out).mono ?_
               rintro e w27 ⟨rfl,hb⟩
               refine ⟨_,rfl,?_⟩
               replace HO943 := am (Kd.R_below HO943.out hb)
               replace HB := am (below_step (HB.out) hb)
               (try clear hb)
               (try clear hb2)
               (try clear hk)
               (try clear hi)
               refine hK.out _ _ trivial (fun hHeld => ?_)
               clear hK K
               refine norm_ (a' := ?_) ?_ ?_
               rotate_left
               · show Act.put _ (some 36) _ = _
                 simp only [Act.put,NRM]
                 rfl
               refine one_ (i := 8) (N := some 42) (ba 11 511) rfl rfl (one_of HT_.out (by kernel_rfl)) (by decide) (fun K hK => ?_)
               have hcv28 := own_string (P := Tryz.prog) Tryz.underlying97 Tryz.underlying5 Tryz.underlying9 (Kd.own_of_R HO943.out)
               refine value_ (w1 := ?_) (v := ?_) (by rfl) rfl ?_ ?_
               rotate_left 2
               · go_simp
                 constructor
                 · rfl
                 · rfl
               clear hcv28
               refine hK.out _ _ trivial (fun hHeld => ?_)
               clear hK K
               refine norm_ (a' := ?_) ?_ ?_
               rotate_left
               · show Act.put _ (some 42) _ = _
                 simp only [Act.put,NRM]
                 rfl
               exact norm_ (by simp only [putAll,Act.put,List.setIfInBounds_toArray,List.set_cons_zero,List.set_cons_succ]) (hCont (v942) _ ⟨HO943.out,(HB.out)⟩)
             · skip
               have hcv27 := own_string (P := Tryz.prog) Tryz.underlying97 Tryz.underlying5 Tryz.underlying9 (Kd.own_of_R HO943.out)
               refine value_ (w1 := ?_) (v := ?_) (by rfl) rfl ?_ ?_
               rotate_left 2
               · go_simp
                 constructor
                 · rfl
                 · rfl
               clear hcv27
               refine hK.out _ _ trivial (fun hHeld => ?_)
               clear hK K
               refine norm_ (a' := ?_) ?_ ?_
               rotate_left
               · show Act.put _ (some 42) _ = _
                 simp only [Act.put,NRM]
                 rfl
               refine one_ (i := 2) (N := some 36) (ba 11 511) rfl rfl (one_of HT_.out (by kernel_rfl)) (by decide) (fun K hK => ?_)
               refine goes_ Tryz.func125 (by kernel_rfl) rfl #[.int .i64 (wrap64 (Int.tdiv a0 10))] (by rfl) rfl rfl (by (try simp only [List.map_toArray,List.map_cons,List.map_nil]);first | done | rfl | (simp only [List.length_drop,List.length_take];rfl)) ?_
               with_reducible refine (ih kj1 (by have := HJ1.out;omega) (wrap64 (Int.tdiv a0 10)) t940 _ A22.out).mono ?_
               rintro e w28 ⟨rfl,hb⟩
               refine ⟨_,rfl,?_⟩
               replace HO943 := am (Kd.R_below HO943.out hb)
               replace HB := am (below_step (HB.out) hb)
               (try clear hb)
               (try clear hb2)
               (try clear hk)
               (try clear hi)
               refine hK.out _ _ trivial (fun hHeld => ?_)
               clear hK K
               refine norm_ (a' := ?_) ?_ ?_
               rotate_left
               · show Act.put _ (some 36) _ = _
                 simp only [Act.put,NRM]
                 rfl
               exact norm_ (by simp only [putAll,Act.put,List.setIfInBounds_toArray,List.set_cons_zero,List.set_cons_succ]) (hCont (v942) _ ⟨HO943.out,(HB.out)⟩)
         rintro v942 w29 ⟨h0_,h1_⟩
         have n0_ : Aside0 (Kd.R (Kd.int .u8) 5 w29 w.heap.size (fun _ => True) v942 y941) := ⟨h0_⟩
         have n1_ : Aside0 (Below w.heap.size w w29) := ⟨h1_⟩
         clear HB
         clear h0_ h1_
         have HO943 := n0_
         have HB := n1_
         clear n0_ n1_
         have hHeld := trivial
         refine norm_ (a' := ?_) ?_ ?_
         rotate_left
         · simp only [putAll,Act.put,List.setIfInBounds_toArray,List.set_cons_zero,List.set_cons_succ]
           rfl
         refine pure_ (i := 9) (N := some 43) (v := ?_) (a' := ?_) (ba 11 1023) rfl rfl (any_of HT_.out (by kernel_rfl)) (fun _ _ _ h => h) (Or.inl ⟨by rfl,?_⟩) ?_ ?_
         rotate_left
         · intro w'
           go_simp
           with_reducible rfl
         rotate_left
         · simp only [Act.put,NRM]
           rfl
         refine pure_ (i := 10) (N := some 2) (v := ?_) (a' := ?_) (ba 11 2047) rfl rfl (any_of HT_.out (by kernel_rfl)) (fun _ _ _ h => h) (Or.inl ⟨by rfl,?_⟩) ?_ ?_
         rotate_left
         · intro w'
           go_simp
           with_reducible rfl
         rotate_left
         · simp only [Act.put,NRM]
           rfl
         refine done_ (done_of HT_.out (by kernel_rfl)) ?_
         try go_wp2
         go_ret
         exact ⟨by first | rfl | (simp [*] <;> rfl),HB.out⟩
def q1_Row.l0 : Nat → ByteArray → List Int → Int → Option (ByteArray)
 | 0,_,_,_ => none
 | k + 1,x0,x1,x5 => if x5 < (x1.length : Int) then (if x0.size + 1 ≤ 9223372036854775807 then (if 0 ≤ x5 then ((q1_Decimal.f k (rd x1 x5)).bind fun t945 => (if (x0 ++ (⟨#[32]⟩ : ByteArray)).size + t945.size ≤ 9223372036854775807 then (q1_Row.l0 k ((x0 ++ (⟨#[32]⟩ : ByteArray)) ++ t945) x1 (wrap64 (x5 + 1))) else (none))) else (none)) else (none)) else (some x0)
def q1_Row.f (k : Nat) (a0 : ByteArray) (l1 : List Int) : Option (ByteArray) := q1_Row.l0 k a0 l1 0
theorem q1_Row.calls (k : Nat) (a0 : ByteArray) (A1 : Option Addr) (c1 : Nat) (l1 : List Int) (r : ByteArray) (w : World) (hr1 : Kd.C (Kd.int .i64) w A1 l1.length l1) (hc1 : l1.length ≤ c1) (h : q1_Row.f k a0 l1 = some r) :
 Calls Tryz.prog 93 #[.string a0,.slice A1 l1.length c1] w fun e w' => e = .returned (.string r) ∧ Below w.heap.size w w' := by
 have HR1 := am hr1
 have HC1 := am hc1
 clear hr1 hc1
 have HB := am (Below.refl w.heap.size w)
 have H : (q1_Row.l0 k a0 l1 0) = some r := h
 clear h
 replace H' := am H
 go_enter Tryz.func93,Tryz.ntmps93
 go_wp2
 go_loopg [0,5] k (fun kq v0 v5 w' => ∃ (x0_1 : ByteArray) (x5_1 : Int),v0 = .string x0_1 ∧ v5 = .int .i64 x5_1 ∧ Aside0 (q1_Row.l0 kq x0_1 l1 x5_1 = some r) ∧ Aside0 (kq ≤ k) ∧ Aside0 (Below w.heap.size w w'))
 case atStart => exact ⟨(a0),(0),(by first | rfl | (simp;done) | (simp [*];done)),(by first | rfl | (simp;done) | (simp [*];done)),H',⟨Nat.le_refl _⟩,⟨HB.out⟩⟩
 case round =>
  clear H'
  obtain ⟨x0_1,x5_1,rfl,rfl,HA,HK1,HB⟩ := hrel
  cases gk with
  | zero => exact absurd HA.out (by simp [q1_Row.l0])
  | succ k1 =>
   have H := HA.out
   clear HA
   simp only [q1_Row.l0] at H
   by_cases c3 : x5_1 < (l1.length : Int)
   case neg =>
    rw [if_neg c3] at H
    have c3b0 : decide (x5_1 < (l1.length : Int)) = false := decide_eq_false c3
    clear c3
    obtain rfl := Option.some.inj H
    go_wp2
    go_ret
    exact ⟨by first | rfl | (simp [*] <;> rfl),HB.out⟩
   rw [if_pos c3] at H
   have c3b0 : decide (x5_1 < (l1.length : Int)) = true := decide_eq_true c3
   clear c3
   by_cases c4 : x0_1.size + 1 ≤ 9223372036854775807
   case neg =>
    rw [if_neg c4] at H
    exact absurd H (by simp)
   rw [if_pos c4] at H
   have c4b0 := eq_true c4
   have c4b1 : decide (x0_1.size + 1 ≤ 9223372036854775807) = true := decide_eq_true c4
   try have c4b2 : (9223372036854775807 < x0_1.size + 1) = False := eq_false (Nat.not_lt.2 c4)
   by_cases c5 : 0 ≤ x5_1
   case neg =>
    rw [if_neg c5] at H
    exact absurd H (by simp)
   rw [if_pos c5] at H
   have c5b0 : decide (0 ≤ x5_1) = true := decide_eq_true c5
   clear c5
   replace H := obm H
   obtain ⟨t945,A60,H⟩ := H
   replace H : (if (x0_1 ++ (⟨#[32]⟩ : ByteArray)).size + t945.size ≤ 9223372036854775807 then (q1_Row.l0 k1 ((x0_1 ++ (⟨#[32]⟩ : ByteArray)) ++ t945) l1 (wrap64 (x5_1 + 1))) else (none)) = some r := H
   have A6 := am A60
   clear A60
   by_cases c7 : (x0_1 ++ (⟨#[32]⟩ : ByteArray)).size + t945.size ≤ 9223372036854775807
   case neg =>
    rw [if_neg c7] at H
    exact absurd H (by simp)
   rw [if_pos c7] at H
   have c7b0 := eq_true c7
   have c7b1 : decide ((x0_1 ++ (⟨#[32]⟩ : ByteArray)).size + t945.size ≤ 9223372036854775807) = true := decide_eq_true c7
   try have c7b2 : (9223372036854775807 < (x0_1 ++ (⟨#[32]⟩ : ByteArray)).size + t945.size) = False := eq_false (Nat.not_lt.2 c7)
   try (have c7s := c7;simp only [ByteArray.size_append,show (⟨#[32]⟩ : ByteArray).size = 1 from rfl] at c7s;replace c7s := eq_false (Nat.not_lt.2 c7s))
   replace H' := am H
   have p944 : 0 ≤ (x5_1 : Int) := of_decide_eq_true (by assumption)
   have q944 : x5_1 < (l1.length : Int) := of_decide_eq_true (by assumption)
   obtain ⟨ad944,e944,hx944_0⟩ := Kd.at_int HR1.out x5_1 p944 q944
   cases e944
   replace hx944_0 := (HB.out.cell (wbl hx944_0)).trans hx944_0
   replace p944 := eq_true p944
   replace q944 := eq_true q944
   go_wp2_with (first | ((with_reducible refine gate_callee (f := 125) rfl ?_);refine goesL_ (some 18) rfl rfl Tryz.func125 (by kernel_rfl) rfl #[.int .i64 (rd l1 x5_1)] rfl (by (try simp only [List.map_toArray,List.map_cons,List.map_nil]);first | done | rfl | (simp only [List.length_drop,List.length_take];rfl)) ?_;(with_reducible refine (q1_Decimal.calls k1 (rd l1 x5_1) t945 _ A6.out).mono ?_);rintro e w8 ⟨rfl,hb⟩;refine ⟨_,rfl,?_⟩;replace HB := am (below_step (HB.out) hb);(try clear hb);(try clear hb2);(try clear hk);(try clear hi)))
   go_roundg k1
   case measure => have := HK1.out;omega
   case rel => exact ⟨((x0_1 ++ (⟨#[32]⟩ : ByteArray)) ++ t945),(wrap64 (x5_1 + 1)),(by first | rfl | (simp;done) | (simp [*];done)),(by first | rfl | (simp;done) | (simp [*];done)),H',⟨by have := HK1.out;omega⟩,⟨HB.out⟩⟩
mutual
def q1_Sealed.l0 : Nat → List ByteArray → Int → ByteArray → Int → Int → Option (ByteArray)
 | 0,_,_,_,_,_ => none
 | k + 1,x0,x1,x5,x6,x7 => if x7 < (x0.length : Int) then (q1_Sealed.l1 k x0 x1 x5 x6 x7 0) else (if x1 = 0 then (none) else (if x5.size + 4 ≤ 9223372036854775807 then ((q1_Decimal.f k (wrap64 (Int.tdiv (Int.tmod x6 x1) 100))).bind fun t946 => (if (x5 ++ (⟨#[101,110,100,32]⟩ : ByteArray)).size + t946.size ≤ 9223372036854775807 then ((q1_Decimal.f k (Int.tmod (wrap64 (Int.tdiv (Int.tmod x6 x1) 10)) 10)).bind fun t947 => (if ((x5 ++ (⟨#[101,110,100,32]⟩ : ByteArray)) ++ t946).size + t947.size ≤ 9223372036854775807 then ((q1_Decimal.f k (Int.tmod (Int.tmod x6 x1) 10)).bind fun t948 => (if (((x5 ++ (⟨#[101,110,100,32]⟩ : ByteArray)) ++ t946) ++ t947).size + t948.size ≤ 9223372036854775807 then (if ((((x5 ++ (⟨#[101,110,100,32]⟩ : ByteArray)) ++ t946) ++ t947) ++ t948).size + 1 ≤ 9223372036854775807 then (some (((((x5 ++ (⟨#[101,110,100,32]⟩ : ByteArray)) ++ t946) ++ t947) ++ t948) ++ (⟨#[10]⟩ : ByteArray))) else (none)) else (none))) else (none))) else (none))) else (none)))
def q1_Sealed.l1 : Nat → List ByteArray → Int → ByteArray → Int → Int → Int → Option (ByteArray)
 | 0,_,_,_,_,_,_ => none
 | k + 1,x0,x1,x5,x6,x7,x8 => if 0 ≤ x7 then (if x7 < (x0.length : Int) then (if x8 < ((rdOf ByteArray.empty x0 x7).size : Int) then (if 0 ≤ x8 then (q1_Sealed.l1 k x0 x1 x5 (wrap64 (x6 + (wrap64 ((wrap64 ((wrap64 (bt (rdOf ByteArray.empty x0 x7) x8)) * (wrap64 (x8 + 1)))) * (wrap64 (x7 + 1)))))) x7 (wrap64 (x8 + 1))) else (none)) else (if x5.size + (rdOf ByteArray.empty x0 x7).size ≤ 9223372036854775807 then (if (x5 ++ (rdOf ByteArray.empty x0 x7)).size + 1 ≤ 9223372036854775807 then (q1_Sealed.l0 k x0 x1 ((x5 ++ (rdOf ByteArray.empty x0 x7)) ++ (⟨#[10]⟩ : ByteArray)) x6 (wrap64 (x7 + 1))) else (none)) else (none))) else (none)) else (none)
end
def q1_Sealed.f (k : Nat) (l0 : List ByteArray) (a1 : Int) : Option (ByteArray) := q1_Sealed.l0 k l0 a1 (⟨#[]⟩ : ByteArray) 0 0
theorem q1_Sealed.calls (k : Nat) (A0 : Option Addr) (c0 : Nat) (l0 : List ByteArray) (a1 : Int) (r : ByteArray) (w : World) (hr0 : Kd.C Kd.string w A0 l0.length l0) (hc0 : l0.length ≤ c0) (h : q1_Sealed.f k l0 a1 = some r) :
 Calls Tryz.prog 94 #[.slice A0 l0.length c0,.int .i64 a1] w fun e w' => e = .returned (.string r) ∧ Below w.heap.size w w' := by
 have HR0 := am hr0
 have HC0 := am hc0
 clear hr0 hc0
 have HB := am (Below.refl w.heap.size w)
 have H : (q1_Sealed.l0 k l0 a1 (⟨#[]⟩ : ByteArray) 0 0) = some r := h
 clear h
 replace H' := am H
 go_enter Tryz.func94,Tryz.ntmps94
 go_wp2
 go_loopg [5,6,7] k (fun kq v5 v6 v7 w' => ∃ (x5_1 : ByteArray) (x6_1 : Int) (x7_1 : Int),v5 = .string x5_1 ∧ v6 = .int .i64 x6_1 ∧ v7 = .int .i64 x7_1 ∧ Aside0 (q1_Sealed.l0 kq l0 a1 x5_1 x6_1 x7_1 = some r) ∧ Aside0 (kq ≤ k) ∧ Aside0 (Below w.heap.size w w'))
 case atStart => exact ⟨((⟨#[]⟩ : ByteArray)),(0),(0),(by first | rfl | (simp;done) | (simp [*];done)),(by first | rfl | (simp;done) | (simp [*];done)),(by first | rfl | (simp;done) | (simp [*];done)),H',⟨Nat.le_refl _⟩,⟨HB.out⟩⟩
 case round =>
  clear H'
  obtain ⟨x5_1,x6_1,x7_1,rfl,rfl,rfl,HA,HK1,HB⟩ := hrel
  cases gk with
  | zero => exact absurd HA.out (by simp [q1_Sealed.l0])
  | succ k1 =>
   have H := HA.out
   clear HA
   simp only [q1_Sealed.l0] at H
   by_cases c3 : x7_1 < (l0.length : Int)
   case neg =>
    rw [if_neg c3] at H
    have c3b0 : decide (x7_1 < (l0.length : Int)) = false := decide_eq_false c3
    clear c3
    by_cases c11 : a1 = 0
    · rw [if_pos c11] at H
      exact absurd H (by simp)
    · rw [if_neg c11] at H
      have c11b0 : (a1 == 0) = false := beq_eq_false_iff_ne.mpr c11
      have c11b1 : (a1 != 0) = true := bne_iff_ne.mpr c11
      by_cases c12 : x5_1.size + 4 ≤ 9223372036854775807
      case neg =>
       rw [if_neg c12] at H
       exact absurd H (by simp)
      rw [if_pos c12] at H
      have c12b0 := eq_true c12
      have c12b1 : decide (x5_1.size + 4 ≤ 9223372036854775807) = true := decide_eq_true c12
      try have c12b2 : (9223372036854775807 < x5_1.size + 4) = False := eq_false (Nat.not_lt.2 c12)
      replace H := obm H
      obtain ⟨t946,A130,H⟩ := H
      replace H : (if (x5_1 ++ (⟨#[101,110,100,32]⟩ : ByteArray)).size + t946.size ≤ 9223372036854775807 then ((q1_Decimal.f k1 (Int.tmod (wrap64 (Int.tdiv (Int.tmod x6_1 a1) 10)) 10)).bind fun t947 => (if ((x5_1 ++ (⟨#[101,110,100,32]⟩ : ByteArray)) ++ t946).size + t947.size ≤ 9223372036854775807 then ((q1_Decimal.f k1 (Int.tmod (Int.tmod x6_1 a1) 10)).bind fun t948 => (if (((x5_1 ++ (⟨#[101,110,100,32]⟩ : ByteArray)) ++ t946) ++ t947).size + t948.size ≤ 9223372036854775807 then (if ((((x5_1 ++ (⟨#[101,110,100,32]⟩ : ByteArray)) ++ t946) ++ t947) ++ t948).size + 1 ≤ 9223372036854775807 then (some (((((x5_1 ++ (⟨#[101,110,100,32]⟩ : ByteArray)) ++ t946) ++ t947) ++ t948) ++ (⟨#[10]⟩ : ByteArray))) else (none)) else (none))) else (none))) else (none)) = some r := H
      have A13 := am A130
      clear A130
      by_cases c14 : (x5_1 ++ (⟨#[101,110,100,32]⟩ : ByteArray)).size + t946.size ≤ 9223372036854775807
      case neg =>
       rw [if_neg c14] at H
       exact absurd H (by simp)
      rw [if_pos c14] at H
      have c14b0 := eq_true c14
      have c14b1 : decide ((x5_1 ++ (⟨#[101,110,100,32]⟩ : ByteArray)).size + t946.size ≤ 9223372036854775807) = true := decide_eq_true c14
      try have c14b2 : (9223372036854775807 < (x5_1 ++ (⟨#[101,110,100,32]⟩ : ByteArray)).size + t946.size) = False := eq_false (Nat.not_lt.2 c14)
      try (have c14s := c14;simp only [ByteArray.size_append,show (⟨#[101,110,100,32]⟩ : ByteArray).size = 4 from rfl] at c14s;replace c14s := eq_false (Nat.not_lt.2 c14s))
      replace H := obm H
      obtain ⟨t947,A150,H⟩ := H
      replace H : (if ((x5_1 ++ (⟨#[101,110,100,32]⟩ : ByteArray)) ++ t946).size + t947.size ≤ 9223372036854775807 then ((q1_Decimal.f k1 (Int.tmod (Int.tmod x6_1 a1) 10)).bind fun t948 => (if (((x5_1 ++ (⟨#[101,110,100,32]⟩ : ByteArray)) ++ t946) ++ t947).size + t948.size ≤ 9223372036854775807 then (if ((((x5_1 ++ (⟨#[101,110,100,32]⟩ : ByteArray)) ++ t946) ++ t947) ++ t948).size + 1 ≤ 9223372036854775807 then (some (((((x5_1 ++ (⟨#[101,110,100,32]⟩ : ByteArray)) ++ t946) ++ t947) ++ t948) ++ (⟨#[10]⟩ : ByteArray))) else (none)) else (none))) else (none)) = some r := H
      have A15 := am A150
      clear A150
      by_cases c16 : ((x5_1 ++ (⟨#[101,110,100,32]⟩ : ByteArray)) ++ t946).size + t947.size ≤ 9223372036854775807
      case neg =>
       rw [if_neg c16] at H
       exact absurd H (by simp)
      rw [if_pos c16] at H
      have c16b0 := eq_true c16
      have c16b1 : decide (((x5_1 ++ (⟨#[101,110,100,32]⟩ : ByteArray)) ++ t946).size + t947.size ≤ 9223372036854775807) = true := decide_eq_true c16
      try have c16b2 : (9223372036854775807 < ((x5_1 ++ (⟨#[101,110,100,32]⟩ : ByteArray)) ++ t946).size + t947.size) = False := eq_false (Nat.not_lt.2 c16)
      try (have c16s := c16;simp only [ByteArray.size_append,show (⟨#[101,110,100,32]⟩ : ByteArray).size = 4 from rfl] at c16s;replace c16s := eq_false (Nat.not_lt.2 c16s))
      replace H := obm H
      obtain ⟨t948,A170,H⟩ := H
      replace H : (if (((x5_1 ++ (⟨#[101,110,100,32]⟩ : ByteArray)) ++ t946) ++ t947).size + t948.size ≤ 9223372036854775807 then (if ((((x5_1 ++ (⟨#[101,110,100,32]⟩ : ByteArray)) ++ t946) ++ t947) ++ t948).size + 1 ≤ 9223372036854775807 then (some (((((x5_1 ++ (⟨#[101,110,100,32]⟩ : ByteArray)) ++ t946) ++ t947) ++ t948) ++ (⟨#[10]⟩ : ByteArray))) else (none)) else (none)) = some r := H
      have A17 := am A170
      clear A170
      by_cases c18 : (((x5_1 ++ (⟨#[101,110,100,32]⟩ : ByteArray)) ++ t946) ++ t947).size + t948.size ≤ 9223372036854775807
      case neg =>
       rw [if_neg c18] at H
       exact absurd H (by simp)
      rw [if_pos c18] at H
      have c18b0 := eq_true c18
      have c18b1 : decide ((((x5_1 ++ (⟨#[101,110,100,32]⟩ : ByteArray)) ++ t946) ++ t947).size + t948.size ≤ 9223372036854775807) = true := decide_eq_true c18
      try have c18b2 : (9223372036854775807 < (((x5_1 ++ (⟨#[101,110,100,32]⟩ : ByteArray)) ++ t946) ++ t947).size + t948.size) = False := eq_false (Nat.not_lt.2 c18)
      try (have c18s := c18;simp only [ByteArray.size_append,show (⟨#[101,110,100,32]⟩ : ByteArray).size = 4 from rfl] at c18s;replace c18s := eq_false (Nat.not_lt.2 c18s))
      by_cases c19 : ((((x5_1 ++ (⟨#[101,110,100,32]⟩ : ByteArray)) ++ t946) ++ t947) ++ t948).size + 1 ≤ 9223372036854775807
      case neg =>
       rw [if_neg c19] at H
       exact absurd H (by simp)
      rw [if_pos c19] at H
      have c19b0 := eq_true c19
      have c19b1 : decide (((((x5_1 ++ (⟨#[101,110,100,32]⟩ : ByteArray)) ++ t946) ++ t947) ++ t948).size + 1 ≤ 9223372036854775807) = true := decide_eq_true c19
      try have c19b2 : (9223372036854775807 < ((((x5_1 ++ (⟨#[101,110,100,32]⟩ : ByteArray)) ++ t946) ++ t947) ++ t948).size + 1) = False := eq_false (Nat.not_lt.2 c19)
      try (have c19s := c19;simp only [ByteArray.size_append,show (⟨#[101,110,100,32]⟩ : ByteArray).size = 4 from rfl] at c19s;replace c19s := eq_false (Nat.not_lt.2 c19s))
      obtain rfl := Option.some.inj H
      go_wp2_with (first | ((with_reducible refine gate_callee (f := 125) rfl ?_);refine goesL_ (some 53) rfl rfl Tryz.func125 (by kernel_rfl) rfl #[.int .i64 (wrap64 (Int.tdiv (Int.tmod x6_1 a1) 100))] rfl (by (try simp only [List.map_toArray,List.map_cons,List.map_nil]);first | done | rfl | (simp only [List.length_drop,List.length_take];rfl)) ?_;(with_reducible refine (q1_Decimal.calls k1 (wrap64 (Int.tdiv (Int.tmod x6_1 a1) 100)) t946 _ A13.out).mono ?_);rintro e w20 ⟨rfl,hb⟩;refine ⟨_,rfl,?_⟩;replace HB := am (below_step (HB.out) hb);(try clear hb);(try clear hb2);(try clear hk);(try clear hi)) | ((with_reducible refine gate_callee (f := 125) rfl ?_);refine goesL_ (some 58) rfl rfl Tryz.func125 (by kernel_rfl) rfl #[.int .i64 (Int.tmod (wrap64 (Int.tdiv (Int.tmod x6_1 a1) 10)) 10)] rfl (by (try simp only [List.map_toArray,List.map_cons,List.map_nil]);first | done | rfl | (simp only [List.length_drop,List.length_take];rfl)) ?_;(with_reducible refine (q1_Decimal.calls k1 (Int.tmod (wrap64 (Int.tdiv (Int.tmod x6_1 a1) 10)) 10) t947 _ A15.out).mono ?_);rintro e w21 ⟨rfl,hb⟩;refine ⟨_,rfl,?_⟩;replace HB := am (below_step (HB.out) hb);(try clear hb);(try clear hb2);(try clear hk);(try clear hi)) | ((with_reducible refine gate_callee (f := 125) rfl ?_);refine goesL_ (some 62) rfl rfl Tryz.func125 (by kernel_rfl) rfl #[.int .i64 (Int.tmod (Int.tmod x6_1 a1) 10)] rfl (by (try simp only [List.map_toArray,List.map_cons,List.map_nil]);first | done | rfl | (simp only [List.length_drop,List.length_take];rfl)) ?_;(with_reducible refine (q1_Decimal.calls k1 (Int.tmod (Int.tmod x6_1 a1) 10) t948 _ A17.out).mono ?_);rintro e w22 ⟨rfl,hb⟩;refine ⟨_,rfl,?_⟩;replace HB := am (below_step (HB.out) hb);(try clear hb);(try clear hb2);(try clear hk);(try clear hi)))
      go_ret
      exact ⟨by first | rfl | (simp [*] <;> rfl),HB.out⟩
   rw [if_pos c3] at H
   have c3b0 : decide (x7_1 < (l0.length : Int)) = true := decide_eq_true c3
   clear c3
   replace H' := am H
   go_wp2
   go_loopg [6,8] k1 (fun kq v6 v8 w' => ∃ (x6_2 : Int) (x8_2 : Int),v6 = .int .i64 x6_2 ∧ v8 = .int .i64 x8_2 ∧ Aside0 (q1_Sealed.l1 kq l0 a1 x5_1 x6_2 x7_1 x8_2 = some r) ∧ Aside0 (kq ≤ k1) ∧ Aside0 (Below w.heap.size w w'))
   case atStart => exact ⟨(x6_1),(0),(by first | rfl | (simp;done) | (simp [*];done)),(by first | rfl | (simp;done) | (simp [*];done)),H',⟨Nat.le_refl _⟩,⟨HB.out⟩⟩
   case round =>
    clear H'
    obtain ⟨x6_2,x8_2,rfl,rfl,HA,HK2,HB⟩ := hrel
    cases gk with
    | zero => exact absurd HA.out (by simp [q1_Sealed.l1])
    | succ k2 =>
     have H := HA.out
     clear HA
     simp only [q1_Sealed.l1] at H
     by_cases c4 : 0 ≤ x7_1
     case neg =>
      rw [if_neg c4] at H
      exact absurd H (by simp)
     rw [if_pos c4] at H
     have c4b0 : decide (0 ≤ x7_1) = true := decide_eq_true c4
     clear c4
     by_cases c5 : x7_1 < (l0.length : Int)
     case neg =>
      rw [if_neg c5] at H
      exact absurd H (by simp)
     rw [if_pos c5] at H
     have c5b0 : decide (x7_1 < (l0.length : Int)) = true := decide_eq_true c5
     clear c5
     by_cases c6 : x8_2 < ((rdOf ByteArray.empty l0 x7_1).size : Int)
     · rw [if_pos c6] at H
       have c6b0 : decide (x8_2 < ((rdOf ByteArray.empty l0 x7_1).size : Int)) = true := decide_eq_true c6
       clear c6
       by_cases c7 : 0 ≤ x8_2
       case neg =>
        rw [if_neg c7] at H
        exact absurd H (by simp)
       rw [if_pos c7] at H
       have c7b0 : decide (0 ≤ x8_2) = true := decide_eq_true c7
       clear c7
       replace H' := am H
       have p949 : 0 ≤ (x7_1 : Int) := of_decide_eq_true (by assumption)
       have q949 : x7_1 < (l0.length : Int) := of_decide_eq_true (by assumption)
       obtain ⟨ad949,e949,hx949_0⟩ := Kd.at_string HR0.out x7_1 p949 q949
       cases e949
       replace hx949_0 := (HB.out.cell (wbl hx949_0)).trans hx949_0
       replace p949 := eq_true p949
       replace q949 := eq_true q949
       have p950 : 0 ≤ (x7_1 : Int) := of_decide_eq_true (by assumption)
       have q950 : x7_1 < (l0.length : Int) := of_decide_eq_true (by assumption)
       obtain ⟨ad950,e950,hx950_0⟩ := Kd.at_string HR0.out x7_1 p950 q950
       obtain rfl : ad949 = ad950 := (by injection e950)
       replace hx950_0 := (HB.out.cell (wbl hx950_0)).trans hx950_0
       replace p950 := eq_true p950
       replace q950 := eq_true q950
       have p8 : 0 ≤ (x8_2 : Int) := of_decide_eq_true (by assumption)
       have q8 : x8_2 < ((rdOf ByteArray.empty l0 x7_1).size : Int) := of_decide_eq_true (by assumption)
       have hx8 := bt_at (rdOf ByteArray.empty l0 x7_1) x8_2
       replace p8 := eq_true p8
       replace q8 := eq_true q8
       go_wp2
       go_roundg k2
       case measure => have := HK1.out;have := HK2.out;omega
       case rel => exact ⟨(wrap64 (x6_2 + (wrap64 ((wrap64 ((wrap64 (bt (rdOf ByteArray.empty l0 x7_1) x8_2)) * (wrap64 (x8_2 + 1)))) * (wrap64 (x7_1 + 1)))))),(wrap64 (x8_2 + 1)),(by first | rfl | (simp;done) | (simp [*];done)),(by first | rfl | (simp;done) | (simp [*];done)),H',⟨by have := HK1.out;have := HK2.out;omega⟩,⟨HB.out⟩⟩
     · rw [if_neg c6] at H
       have c6b0 : decide (x8_2 < ((rdOf ByteArray.empty l0 x7_1).size : Int)) = false := decide_eq_false c6
       clear c6
       by_cases c9 : x5_1.size + (rdOf ByteArray.empty l0 x7_1).size ≤ 9223372036854775807
       case neg =>
        rw [if_neg c9] at H
        exact absurd H (by simp)
       rw [if_pos c9] at H
       have c9b0 := eq_true c9
       have c9b1 : decide (x5_1.size + (rdOf ByteArray.empty l0 x7_1).size ≤ 9223372036854775807) = true := decide_eq_true c9
       try have c9b2 : (9223372036854775807 < x5_1.size + (rdOf ByteArray.empty l0 x7_1).size) = False := eq_false (Nat.not_lt.2 c9)
       by_cases c10 : (x5_1 ++ (rdOf ByteArray.empty l0 x7_1)).size + 1 ≤ 9223372036854775807
       case neg =>
        rw [if_neg c10] at H
        exact absurd H (by simp)
       rw [if_pos c10] at H
       have c10b0 := eq_true c10
       have c10b1 : decide ((x5_1 ++ (rdOf ByteArray.empty l0 x7_1)).size + 1 ≤ 9223372036854775807) = true := decide_eq_true c10
       try have c10b2 : (9223372036854775807 < (x5_1 ++ (rdOf ByteArray.empty l0 x7_1)).size + 1) = False := eq_false (Nat.not_lt.2 c10)
       try (have c10s := c10;simp only [ByteArray.size_append] at c10s;replace c10s := eq_false (Nat.not_lt.2 c10s))
       replace H' := am H
       have p949 : 0 ≤ (x7_1 : Int) := of_decide_eq_true (by assumption)
       have q949 : x7_1 < (l0.length : Int) := of_decide_eq_true (by assumption)
       obtain ⟨ad949,e949,hx949_0⟩ := Kd.at_string HR0.out x7_1 p949 q949
       cases e949
       replace hx949_0 := (HB.out.cell (wbl hx949_0)).trans hx949_0
       replace p949 := eq_true p949
       replace q949 := eq_true q949
       have p951 : 0 ≤ (x7_1 : Int) := of_decide_eq_true (by assumption)
       have q951 : x7_1 < (l0.length : Int) := of_decide_eq_true (by assumption)
       obtain ⟨ad951,e951,hx951_0⟩ := Kd.at_string HR0.out x7_1 p951 q951
       obtain rfl : ad949 = ad951 := (by injection e951)
       replace hx951_0 := (HB.out.cell (wbl hx951_0)).trans hx951_0
       replace p951 := eq_true p951
       replace q951 := eq_true q951
       go_wp2
       go_roundg k2
       case measure => have := HK1.out;have := HK2.out;omega
       case rel => exact ⟨((x5_1 ++ (rdOf ByteArray.empty l0 x7_1)) ++ (⟨#[10]⟩ : ByteArray)),(x6_2),(wrap64 (x7_1 + 1)),(by first | rfl | (simp;done) | (simp [*];done)),(by first | rfl | (simp;done) | (simp [*];done)),(by first | rfl | (simp;done) | (simp [*];done)),H',⟨by have := HK1.out;have := HK2.out;omega⟩,⟨HB.out⟩⟩
end
end Go.Proofs.YtnnmnhpeblhiiaaGreatDoor.C

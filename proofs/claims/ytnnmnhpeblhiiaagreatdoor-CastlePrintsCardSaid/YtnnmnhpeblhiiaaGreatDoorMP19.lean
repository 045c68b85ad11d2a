/- A part of the proof: the walks of the functions that it reaches. TIGHT. -/
import Derived.Test.YtnnmnhpeblhiiaaGreatDoorMP18
import Derived.Test.YtnnmnhpeblhiiaaGreatDoorMP9
set_option linter.unusedVariables false
set_option linter.unusedSimpArgs false
namespace Go.Proofs.YtnnmnhpeblhiiaaGreatDoor.C
open Go.RowKit Go.Proofs.YtnnmnhpeblhiiaaGreatDoorW.PrintWords Go.Proofs.YtnnmnhpeblhiiaaGreatDoorW.PrintLast Go.Proofs.YtnnmnhpeblhiiaaGreatDoorW.PrintMore
set_option linter.unusedVariables false
set_option linter.unusedSimpArgs false
set_option maxHeartbeats 16000000
set_option maxRecDepth 100000
section
attribute [local go_sem] max2_int min2_int max_two min_two
def q4_Print.l0 : Nat → List ByteArray → Int → List (S126) → Int → List (S48) → Int → Int → Option (ByteArray)
 | 0,_,_,_,_,_,_,_ => none
 | k + 1,x3,x4,x953000,x953001,x953002,x953003,x953004 => if x4 < (x953002.length : Int) then (if 0 ≤ x4 then ((q1_Row.f k (⟨#[110,111,122,122,108,101]⟩ : ByteArray) (([(rd_T48 x953002 x4).f0,(rd_T48 x953002 x4).f1] : List Int))).bind fun t965 => (if x3.length < 8796093022208 then (q4_Print.l0 k (x3 ++ [t965]) (wrap64 (x4 + 1)) x953000 x953001 x953002 x953003 x953004) else (none))) else (none)) else ((q1_Sealed.f k x3 127).bind fun t969 => (some t969))
def q4_Print.f (k : Nat) (l0_0 : List (S126)) (a0_1 : Int) (l0_2 : List (S48)) (a0_3 : Int) (a0_4 : Int) : Option (ByteArray) := (q1_Row.f k (⟨#[99,97,115,116,108,101]⟩ : ByteArray) (([a0_3,a0_4] : List Int))).bind fun t956 => (q4_Print.l0 k (([t956] : List ByteArray)) 0 l0_0 a0_1 l0_2 a0_3 a0_4)
def q4_Print.T5 : Bool × List (List Nat × List Nat) := (true,[([],[]),([],[]),([1],[1]),([],[]),([2,3],[2,3]),([4],[4]),([5],[5]),([],[]),([7],[7]),([],[]),([8,9],[8,9]),([10],[10]),([11],[11]),([6,12],[6,12]),([13],[13]),([14],[14]),([0,15,14],[0,15]),([16,16,0,1,2,3,4,5,6,7,8,9,10,11,12,13,14,15,16],[0,16])])
def q4_Print.B5 : List Nat := [0,0,2,0,14,30,62,0,128,0,896,1920,3968,8190,16382,32766,65535,131071]
theorem q4_Print.tab5 : rtab .any (opsOf Tryz.f51 5) = q4_Print.T5 := by kernel_rfl
theorem q4_Print.bits5 : waitsOk q4_Print.T5.2 q4_Print.B5 = true := by kernel_rfl
theorem q4_Print.calls (k : Nat) (A0_0 : Option Addr) (c0_0 : Nat) (l0_0 : List (S126)) (a0_1 : Int) (A0_2 : Option Addr) (c0_2 : Nat) (l0_2 : List (S48)) (a0_3 : Int) (a0_4 : Int) (r : ByteArray) (w : World) (hr0_0 : Kd.C k126 w A0_0 l0_0.length l0_0) (hc0_0 : l0_0.length ≤ c0_0) (hr0_2 : Kd.C k48 w A0_2 l0_2.length l0_2) (hc0_2 : l0_2.length ≤ c0_2) (h : q4_Print.f k l0_0 a0_1 l0_2 a0_3 a0_4 = some r) :
 Calls Tryz.prog 51 #[.agg #[.slice A0_0 l0_0.length c0_0,.int .i64 a0_1,.slice A0_2 l0_2.length c0_2,.int .i64 a0_3,.int .i64 a0_4]] w fun e w' => e = .returned (.string r) ∧ Below w.heap.size w w' := by
 have hu27 := Tryz.underlying27
 have HR0_0 := am hr0_0
 have HC0_0 := am hc0_0
 clear hr0_0 hc0_0
 have HR0_2 := am hr0_2
 have HC0_2 := am hc0_2
 clear hr0_2 hc0_2
 have HB := am (Below.refl w.heap.size w)
 have H : ((q1_Row.f k (⟨#[99,97,115,116,108,101]⟩ : ByteArray) (([a0_3,a0_4] : List Int))).bind fun t956 => (q4_Print.l0 k (([t956] : List ByteArray)) 0 l0_0 a0_1 l0_2 a0_3 a0_4)) = some r := h
 clear h
 obtain ⟨y953,hy953⟩ : ∃ y_ : List Int,y_ = (([a0_3,a0_4] : List Int)) := ⟨_,rfl⟩
 replace H : ((q1_Row.f k (⟨#[99,97,115,116,108,101]⟩ : ByteArray) y953).bind fun t956 => (q4_Print.l0 k (([t956] : List ByteArray)) 0 l0_0 a0_1 l0_2 a0_3 a0_4)) = some r := by first | (rw [hy953];with_reducible exact H) | (have H2_ := (Option.bind_some _ _).symm.trans H;rw [hy953];with_reducible exact H2_) | (have H2_ := (Option.bind_some _ _).symm.trans H;with_reducible exact H2_) | with_reducible exact H | (rw [hy953];exact H) | exact H
 have Ny953 := am hy953
 clear hy953
 replace H := obm H
 obtain ⟨t956,A20,H⟩ := H
 replace H : (q4_Print.l0 k (([t956] : List ByteArray)) 0 l0_0 a0_1 l0_2 a0_3 a0_4) = some r := H
 have A2 := am A20
 clear A20
 obtain ⟨y957,hy957⟩ : ∃ y_ : List ByteArray,y_ = (([t956] : List ByteArray)) := ⟨_,rfl⟩
 replace H : (q4_Print.l0 k y957 0 l0_0 a0_1 l0_2 a0_3 a0_4) = some r := by first | (rw [hy957];with_reducible exact H) | (have H2_ := (Option.bind_some _ _).symm.trans H;rw [hy957];with_reducible exact H2_) | (have H2_ := (Option.bind_some _ _).symm.trans H;with_reducible exact H2_) | with_reducible exact H | (rw [hy957];exact H) | exact H
 have Ny957 := am hy957
 clear hy957
 replace H' := am H
 go_enter Tryz.func51,Tryz.ntmps51
 go_wp2_with (first | ((refine gate_dst (N := 1) rfl ?_);refine box_event rfl (N := 1) rfl (cs := #[.slice A0_0 l0_0.length c0_0,.int .i64 a0_1,.slice A0_2 l0_2.length c0_2,.int .i64 a0_3,.int .i64 a0_4]) (t := 27) ?hr ?_;(case hr => go_simp;try rfl);intro gb952 hg w3 hbox hb;have BK952 := am (hbox);have GW952 := am (ge_new (HB.out) hg);have GE952 := am (ge_new (HB.out) hg);replace HB := am (below_step (HB.out) hb);clear hb hbox hg;obtain ⟨hcz4_0,hcz4_1,hcz4_2,hcz4_3,hcz4_4⟩ := cO5 BK952.out) | ((refine gate_dst (N := 9) rfl ?_);refine Kd.R_lit (Kd.int .i64) _ 3 ?hg (N := 9) ?hd (xs := ([a0_3,a0_4] : List Int)) (inner := [.int .i64 a0_3,.int .i64 a0_4]) (ok := fun _ => True) (okp := fun _ => True) ?hr ?hp (fun _ hk => hk) trivial (Below.refl _ _) (Nat.le_refl _) (by simp) ?_;(case hd => rfl);(case hg => rfl);(case hr => go_simp;try rfl);(case hp => exact (Reps.one (show Kd.M (Kd.int .i64) _ _ _ a0_3 [.int .i64 a0_3] from rfl) (Reps.one (show Kd.M (Kd.int .i64) _ _ _ a0_4 [.int .i64 a0_4] from rfl) (Reps.none _ _))));intro v954 w5 ho6 hb hg_ hnew_;clear hg_ hnew_;(first | rw [← Ny953.out] at ho6 | (simp only [Int.reduceToNat] at ho6;rw [← Ny953.out] at ho6));have HO955 := am (Kd.R_lower ho6 (below_size (HB.out)));replace BK952 := (kmv hb BK952);replace HB := am (below_step (HB.out) hb);clear hb ho6;obtain ⟨Ao7,co7,eo7⟩ := Kd.R_slice HO955.out;subst eo7) | ((with_reducible refine gate_callee (f := 93) rfl ?_);refine goesL_ (some 10) rfl rfl Tryz.func93 (by kernel_rfl) rfl #[.string (⟨#[99,97,115,116,108,101]⟩ : ByteArray),.slice Ao7 y953.length co7] rfl (by (try simp only [List.map_toArray,List.map_cons,List.map_nil]);first | done | rfl | (simp only [List.length_drop,List.length_take];rfl)) ?_;(with_reducible refine (q1_Row.calls k (⟨#[99,97,115,116,108,101]⟩ : ByteArray) _ _ y953 t956 _ ?side1 ?side2 A2.out).mono ?_);(case side1 => repeat (first | exact (Kd.R_reads' HO955.out).2.2 | (with_reducible refine Kd.C_alloc ?_ _) | (with_reducible refine Kd.C_drewN ?_ _) | (with_reducible refine Kd.C_drew ?_)));(case side2 => exact (Kd.R_reads' HO955.out).2.1);rintro e w8 ⟨rfl,hb⟩;refine ⟨_,rfl,?_⟩;replace HO955 := am (Kd.R_below HO955.out hb);replace BK952 := (kmv hb BK952);replace HB := am (below_step (HB.out) hb);(try clear hb);(try clear hb2);(try clear hk);(try clear hi)) | ((refine gate_dst (N := 11) rfl ?_);refine Kd.R_lit Kd.string _ 9 ?hg (N := 11) ?hd (xs := ([t956] : List ByteArray)) (inner := [.string t956]) (ok := fun _ => True) (okp := fun _ => True) ?hr ?hp (fun _ hk => hk) trivial (Below.refl _ _) (Nat.le_refl _) (by simp) ?_;(case hd => rfl);(case hg => rfl);(case hr => go_simp;try rfl);(case hp => exact (Reps.one (show Kd.M Kd.string _ _ _ t956 [.string t956] from rfl) (Reps.none _ _)));intro v958 w9 ho10 hb hg_ hnew_;clear hg_ hnew_;(first | rw [← Ny957.out] at ho10 | (simp only [Int.reduceToNat] at ho10;rw [← Ny957.out] at ho10));have HO959 := am (Kd.R_lower ho10 (below_size (HB.out)));replace HO955 := am (Kd.R_below HO955.out hb);replace BK952 := (kmv hb BK952);replace HB := am (below_step (HB.out) hb);clear hb ho10))
 go_loopg [3,4] k (fun kq v3 v4 w' => ∃ (x3_1 : List ByteArray) (x4_1 : Int),v4 = .int .i64 x4_1 ∧ Aside0 (q4_Print.l0 kq x3_1 x4_1 l0_0 a0_1 l0_2 a0_3 a0_4 = some r) ∧ Aside0 (kq ≤ k) ∧ Aside0 (Kd.R Kd.string 9 w' w.heap.size (fun _ => True) v3 x3_1) ∧ Aside0 (w'.heap[gb952]? = some (.cells #[(.slice A0_0 l0_0.length c0_0),.int .i64 a0_1,(.slice A0_2 l0_2.length c0_2),.int .i64 a0_3,.int .i64 a0_4] 27 (0,0))) ∧ Aside0 (Below w.heap.size w w'))
 case atStart => exact ⟨(y957),(0),(by first | rfl | (simp;done) | (simp [*];done)),H',⟨Nat.le_refl _⟩,⟨by (with_reducible repeat (first | apply Kd.R_alloc | apply Kd.R_drewN | apply Kd.R_drew));exact HO959.out⟩,⟨BK952.out⟩,⟨HB.out⟩⟩
 case round =>
  clear H'
  obtain ⟨x3_1,x4_1,rfl,HA,HK1,HO_3,BK952,HB⟩ := hrel
  cases gk with
  | zero => exact absurd HA.out (by simp [q4_Print.l0])
  | succ k1 =>
   have H := HA.out
   clear HA
   simp only [q4_Print.l0] at H
   by_cases c11 : x4_1 < (l0_2.length : Int)
   case neg =>
    rw [if_neg c11] at H
    have c11b0 : decide (x4_1 < (l0_2.length : Int)) = false := decide_eq_false c11
    clear c11
    replace H := obm H
    obtain ⟨t969,A220,H⟩ := H
    replace H : (some t969) = some r := H
    have A22 := am A220
    clear A220
    obtain rfl := Option.some.inj H
    obtain ⟨hcz23_0,hcz23_1,hcz23_2,hcz23_3,hcz23_4⟩ := cO5 BK952.out
    obtain ⟨Ao24,co24,eo24⟩ := Kd.R_slice HO_3.out
    subst eo24
    go_wp2_with (first | ((with_reducible refine gate_callee (f := 94) rfl ?_);refine goesL_ (some 37) rfl rfl Tryz.func94 (by kernel_rfl) rfl #[.slice Ao24 x3_1.length co24,.int .i64 127] rfl (by (try simp only [List.map_toArray,List.map_cons,List.map_nil]);first | done | rfl | (simp only [List.length_drop,List.length_take];rfl)) ?_;(with_reducible refine (q1_Sealed.calls k1 _ _ x3_1 127 t969 _ ?side1 ?side2 A22.out).mono ?_);(case side1 => repeat (first | exact (Kd.R_reads' HO_3.out).2.2 | (with_reducible refine Kd.C_alloc ?_ _) | (with_reducible refine Kd.C_drewN ?_ _) | (with_reducible refine Kd.C_drew ?_)));(case side2 => exact (Kd.R_reads' HO_3.out).2.1);rintro e w25 ⟨rfl,hb⟩;refine ⟨_,rfl,?_⟩;replace HO_3 := am (Kd.R_below HO_3.out hb);replace BK952 := (kmv hb BK952);replace HB := am (below_step (HB.out) hb);(try clear hb);(try clear hb2);(try clear hk);(try clear hi)))
    go_ret
    exact ⟨by first | rfl | (simp [*] <;> rfl),HB.out⟩
   rw [if_pos c11] at H
   have c11b0 : decide (x4_1 < (l0_2.length : Int)) = true := decide_eq_true c11
   clear c11
   by_cases c12 : 0 ≤ x4_1
   case neg =>
    rw [if_neg c12] at H
    exact absurd H (by simp)
   rw [if_pos c12] at H
   have c12b0 : decide (0 ≤ x4_1) = true := decide_eq_true c12
   clear c12
   obtain ⟨y962,hy962⟩ : ∃ y_ : List Int,y_ = (([(rd_T48 l0_2 x4_1).f0,(rd_T48 l0_2 x4_1).f1] : List Int)) := ⟨_,rfl⟩
   replace H : ((q1_Row.f k1 (⟨#[110,111,122,122,108,101]⟩ : ByteArray) y962).bind fun t965 => (if x3_1.length < 8796093022208 then (q4_Print.l0 k1 (x3_1 ++ [t965]) (wrap64 (x4_1 + 1)) l0_0 a0_1 l0_2 a0_3 a0_4) else (none))) = some r := by first | (rw [hy962];with_reducible exact H) | (have H2_ := (Option.bind_some _ _).symm.trans H;rw [hy962];with_reducible exact H2_) | (have H2_ := (Option.bind_some _ _).symm.trans H;with_reducible exact H2_) | with_reducible exact H | (rw [hy962];exact H) | exact H
   have Ny962 := am hy962
   clear hy962
   replace H := obm H
   obtain ⟨t965,A130,H⟩ := H
   replace H : (if x3_1.length < 8796093022208 then (q4_Print.l0 k1 (x3_1 ++ [t965]) (wrap64 (x4_1 + 1)) l0_0 a0_1 l0_2 a0_3 a0_4) else (none)) = some r := H
   have A13 := am A130
   clear A130
   by_cases c14 : x3_1.length < 8796093022208
   case neg =>
    rw [if_neg c14] at H
    exact absurd H (by simp)
   rw [if_pos c14] at H
   have LMc14 := am c14
   clear c14
   obtain ⟨y966,hy966⟩ : ∃ y_ : List ByteArray,y_ = (x3_1 ++ [t965]) := ⟨_,rfl⟩
   replace H : (q4_Print.l0 k1 y966 (wrap64 (x4_1 + 1)) l0_0 a0_1 l0_2 a0_3 a0_4) = some r := by first | (rw [hy966];with_reducible exact H) | (have H2_ := (Option.bind_some _ _).symm.trans H;rw [hy966];with_reducible exact H2_) | (have H2_ := (Option.bind_some _ _).symm.trans H;with_reducible exact H2_) | with_reducible exact H | (rw [hy966];exact H) | exact H
   have Ny966 := am hy966
   clear hy966
   replace H' := am H
   obtain ⟨hcz15_0,hcz15_1,hcz15_2,hcz15_3,hcz15_4⟩ := cO5 BK952.out
   try go_wp2
   replace HO_3 := am (Kd.R_drew HO_3.out)
   replace BK952 := am (blk_drew BK952.out)
   replace HB := am (below_drew1 HB.out)
   have p960 : 0 ≤ (x4_1 : Int) := of_decide_eq_true (by assumption)
   have q960 : x4_1 < (l0_2.length : Int) := of_decide_eq_true (by assumption)
   obtain ⟨ad960,e960,hx960_0,hx960_1⟩ := at_T48 HR0_2.out x4_1 p960 q960
   have hw960_1 := hx960_1
   have hw960_0 := hx960_0
   cases e960
   replace hx960_0 := (HB.out.cell (wbl hx960_0)).trans hx960_0
   replace hx960_1 := (HB.out.cell (wbl hx960_1)).trans hx960_1
   replace p960 := eq_true p960
   replace q960 := eq_true q960
   have p961 : 0 ≤ (x4_1 : Int) := of_decide_eq_true (by assumption)
   have q961 : x4_1 < (l0_2.length : Int) := of_decide_eq_true (by assumption)
   obtain ⟨ad961,e961,hx961_0,hx961_1⟩ := at_T48 HR0_2.out x4_1 p961 q961
   have hw961_1 := hx961_1
   have hw961_0 := hx961_0
   obtain rfl : ad960 = ad961 := (by injection e961)
   replace hx961_0 := (HB.out.cell (wbl hx961_0)).trans hx961_0
   replace hx961_1 := (HB.out.cell (wbl hx961_1)).trans hx961_1
   replace p961 := eq_true p961
   replace q961 := eq_true q961
   refine start_ (n := 18) (S := fun w' => w'.cell? ⟨gb952,0,none⟩ = some (.slice A0_0 l0_0.length c0_0) ∧ w'.cell? ⟨gb952,1,none⟩ = some (.int .i64 a0_1) ∧ w'.cell? ⟨gb952,2,none⟩ = some (.slice (some ad960) l0_2.length c0_2) ∧ w'.cell? ⟨gb952,3,none⟩ = some (.int .i64 a0_3) ∧ w'.cell? ⟨gb952,4,none⟩ = some (.int .i64 a0_4) ∧ w'.cell? (ad960.add ((x4_1).toNat * 2)) = some (.int .i64 ((rd_T48 l0_2 x4_1).f0)) ∧ w'.cell? ⟨(ad960.add ((x4_1).toNat * 2)).block,(ad960.add ((x4_1).toNat * 2)).off + 1,none⟩ = some (.int .i64 ((rd_T48 l0_2 x4_1).f1)) ∧ w'.cell? (ad960.add ((x4_1).toNat * 2)) = some (.int .i64 ((rd_T48 l0_2 x4_1).f0)) ∧ w'.cell? ⟨(ad960.add ((x4_1).toNat * 2)).block,(ad960.add ((x4_1).toNat * 2)).off + 1,none⟩ = some (.int .i64 ((rd_T48 l0_2 x4_1).f1))) (ds := []) (ba 18 0) (by kernel_rfl) rfl rfl ⟨(blk_cell BK952.out 0).trans rfl,(blk_cell BK952.out 1).trans rfl,(blk_cell BK952.out 2).trans rfl,(blk_cell BK952.out 3).trans rfl,(blk_cell BK952.out 4).trans rfl,((HB.out.cell (wbl hw960_0)).trans hw960_0),((HB.out.cell (wbl hw960_1)).trans hw960_1),((HB.out.cell (wbl hw961_0)).trans hw961_0),((HB.out.cell (wbl hw961_1)).trans hw961_1)⟩ (fun hHeld => ?_);refine with_tabW q4_Print.tab5 q4_Print.bits5 (fun HT_ HW_ => ?_)
   generalize wr.drew = w16 at HO_3 BK952 HB hx960_0 hx960_1 hx961_0 hx961_1 hHeld ⊢
   refine pure_ (i := 0) (N := some 19) (v := ?_) (a' := ?_) (ba 18 1) rfl rfl (any_of HT_.out (by kernel_rfl)) (fun _ _ _ h => h) (Or.inl ⟨by rfl,?_⟩) ?_ ?_
   rotate_left
   · intro w'
     go_simp
     with_reducible rfl
   rotate_left
   · simp only [Act.put,NRM]
     rfl
   refine pure_ (i := 1) (N := some 20) (v := ?_) (a' := ?_) (ba 18 3) rfl rfl (any_of HT_.out (by kernel_rfl)) (fun _ _ _ h => h) (Or.inl ⟨by rfl,?_⟩) ?_ ?_
   rotate_left
   · intro w'
     go_simp
     with_reducible rfl
   rotate_left
   · simp only [Act.put,NRM]
     rfl
   refine pure_ (i := 3) (N := some 22) (v := ?_) (a' := ?_) (ba 18 11) rfl rfl (any_of HT_.out (by kernel_rfl)) (fun _ _ _ h => h) (Or.inl ⟨by rfl,?_⟩) ?_ ?_
   rotate_left
   · intro w'
     go_simp
     with_reducible rfl
   rotate_left
   · simp only [Act.put,NRM]
     rfl
   refine pure_ (i := 7) (N := some 26) (v := ?_) (a' := ?_) (ba 18 139) rfl rfl (any_of HT_.out (by kernel_rfl)) (fun _ _ _ h => h) (Or.inl ⟨by rfl,?_⟩) ?_ ?_
   rotate_left
   · intro w'
     go_simp
     with_reducible rfl
   rotate_left
   · simp only [Act.put,NRM]
     rfl
   refine pure_ (i := 9) (N := some 28) (v := ?_) (a' := ?_) (ba 18 651) rfl rfl (any_of HT_.out (by kernel_rfl)) (fun _ _ _ h => h) (Or.inl ⟨by rfl,?_⟩) ?_ ?_
   rotate_left
   · intro w'
     go_simp
     with_reducible rfl
   rotate_left
   · simp only [Act.put,NRM]
     rfl
   refine take_ (i := 2) (N := some 21) (v := ?_) (a' := ?_) (ba 18 655) rfl rfl (take_ofW HT_.out HW_.out (by kernel_rfl)) (fun _ _ _ h => h) (Or.inl ⟨by rfl,?_⟩) hHeld ?_ ?_
   rotate_left
   · rintro w' ⟨s0,s1,s2,s3,s4,s5,s6,s7,s8⟩
     go_simp
     with_reducible rfl
   rotate_left
   · simp only [Act.put,NRM]
     rfl
   refine pure_ (i := 4) (N := some 23) (v := ?_) (a' := ?_) (ba 18 671) rfl rfl (any_of HT_.out (by kernel_rfl)) (fun _ _ _ h => h) (Or.inl ⟨by rfl,?_⟩) ?_ ?_
   rotate_left
   · intro w'
     go_simp
     with_reducible rfl
   rotate_left
   · simp only [Act.put,NRM]
     rfl
   refine pure_ (i := 5) (N := some 24) (v := ?_) (a' := ?_) (ba 18 703) rfl rfl (any_of HT_.out (by kernel_rfl)) (fun _ _ _ h => h) (Or.inl ⟨by rfl,?_⟩) ?_ ?_
   rotate_left
   · intro w'
     go_simp
     with_reducible rfl
   rotate_left
   · simp only [Act.put,NRM]
     rfl
   refine take_ (i := 6) (N := some 25) (v := ?_) (a' := ?_) (ba 18 767) rfl rfl (take_ofW HT_.out HW_.out (by kernel_rfl)) (fun _ _ _ h => h) (Or.inl ⟨by rfl,?_⟩) hHeld ?_ ?_
   rotate_left
   · rintro w' ⟨s0,s1,s2,s3,s4,s5,s6,s7,s8⟩
     go_simp
     with_reducible rfl
   rotate_left
   · simp only [Act.put,NRM]
     rfl
   refine take_ (i := 8) (N := some 27) (v := ?_) (a' := ?_) (ba 18 1023) rfl rfl (take_ofW HT_.out HW_.out (by kernel_rfl)) (fun _ _ _ h => h) (Or.inl ⟨by rfl,?_⟩) hHeld ?_ ?_
   rotate_left
   · rintro w' ⟨s0,s1,s2,s3,s4,s5,s6,s7,s8⟩
     go_simp
     with_reducible rfl
   rotate_left
   · simp only [Act.put,NRM]
     rfl
   refine pure_ (i := 10) (N := some 29) (v := ?_) (a' := ?_) (ba 18 2047) rfl rfl (any_of HT_.out (by kernel_rfl)) (fun _ _ _ h => h) (Or.inl ⟨by rfl,?_⟩) ?_ ?_
   rotate_left
   · intro w'
     go_simp
     with_reducible rfl
   rotate_left
   · simp only [Act.put,NRM]
     rfl
   refine pure_ (i := 11) (N := some 30) (v := ?_) (a' := ?_) (ba 18 4095) rfl rfl (any_of HT_.out (by kernel_rfl)) (fun _ _ _ h => h) (Or.inl ⟨by rfl,?_⟩) ?_ ?_
   rotate_left
   · intro w'
     go_simp
     with_reducible rfl
   rotate_left
   · simp only [Act.put,NRM]
     rfl
   refine take_ (i := 12) (N := some 31) (v := ?_) (a' := ?_) (ba 18 8191) rfl rfl (take_ofW HT_.out HW_.out (by kernel_rfl)) (fun _ _ _ h => h) (Or.inl ⟨by rfl,?_⟩) hHeld ?_ ?_
   rotate_left
   · rintro w' ⟨s0,s1,s2,s3,s4,s5,s6,s7,s8⟩
     go_simp
     with_reducible rfl
   rotate_left
   · simp only [Act.put,NRM]
     rfl
   refine one_ (i := 13) (N := some 32) (ba 18 16383) rfl rfl (one_of HT_.out (by kernel_rfl)) (by decide) (fun K hK => ?_)
   refine Kd.R_lit_step (Kd.int .i64) _ 3 ?hg (N := 32) ?hd (xs := ([(rd_T48 l0_2 x4_1).f0,(rd_T48 l0_2 x4_1).f1] : List Int)) (inner := [.int .i64 ((rd_T48 l0_2 x4_1).f0),.int .i64 ((rd_T48 l0_2 x4_1).f1)]) (ok := fun _ => True) (okp := fun _ => True) ?hr ?hp (fun _ hk => hk) trivial (Below.refl _ _) (Nat.le_refl _) (by simp) ?_;(case hd => rfl);(case hg => rfl);(case hr => go_simp;try rfl);(case hp => exact (Reps.one (show Kd.M (Kd.int .i64) _ _ _ ((rd_T48 l0_2 x4_1).f0) [.int .i64 ((rd_T48 l0_2 x4_1).f0)] from rfl) (Reps.one (show Kd.M (Kd.int .i64) _ _ _ ((rd_T48 l0_2 x4_1).f1) [.int .i64 ((rd_T48 l0_2 x4_1).f1)] from rfl) (Reps.none _ _))))
   intro v963 w17 ho18 hb hg_ hnew_
   clear hg_ hnew_
   (first | rw [← Ny962.out] at ho18 | (simp only [Int.reduceToNat] at ho18;rw [← Ny962.out] at ho18))
   have HO964 := am (Kd.R_lower ho18 (below_size (HB.out)))
   replace HO_3 := am (Kd.R_below HO_3.out hb)
   replace BK952 := (kmv hb BK952)
   replace HB := am (below_step (HB.out) hb)
   clear hb ho18
   obtain ⟨Ao19,co19,eo19⟩ := Kd.R_slice HO964.out
   (first | subst eo19 | (injection eo19 with f1_ f2_ f3_;have f4_ := f1_.symm;have f5_ := f3_.symm;clear f1_ f2_ f3_;subst f4_;subst f5_))
   refine hK.out _ _ ⟨(blk_cell BK952.out 0).trans rfl,(blk_cell BK952.out 1).trans rfl,(blk_cell BK952.out 2).trans rfl,(blk_cell BK952.out 3).trans rfl,(blk_cell BK952.out 4).trans rfl,((HB.out.cell (wbl hw960_0)).trans hw960_0),((HB.out.cell (wbl hw960_1)).trans hw960_1),((HB.out.cell (wbl hw961_0)).trans hw961_0),((HB.out.cell (wbl hw961_1)).trans hw961_1)⟩ (fun hHeld => ?_)
   clear hK K
   refine norm_ (a' := ?_) ?_ ?_
   rotate_left
   · show Act.put _ (some 32) _ = _
     simp only [Act.put,NRM]
     rfl
   refine one_ (i := 14) (N := some 33) (ba 18 32767) rfl rfl (one_of HT_.out (by kernel_rfl)) (by decide) (fun K hK => ?_)
   refine goes_ Tryz.func93 (by kernel_rfl) rfl #[.string (⟨#[110,111,122,122,108,101]⟩ : ByteArray),.slice Ao19 y962.length co19] (by rfl) rfl rfl (by (try simp only [List.map_toArray,List.map_cons,List.map_nil]);first | done | rfl | (simp only [List.length_drop,List.length_take];rfl)) ?_
   with_reducible refine (q1_Row.calls k1 (⟨#[110,111,122,122,108,101]⟩ : ByteArray) _ _ y962 t965 _ ?side1 ?side2 A13.out).mono ?_
   (case side1 => repeat (first | exact (Kd.R_reads' HO964.out).2.2 | (with_reducible refine Kd.C_alloc ?_ _) | (with_reducible refine Kd.C_drewN ?_ _) | (with_reducible refine Kd.C_drew ?_)))
   (case side2 => exact (Kd.R_reads' HO964.out).2.1)
   rintro e w20 ⟨rfl,hb⟩
   refine ⟨_,rfl,?_⟩
   replace HO_3 := am (Kd.R_below HO_3.out hb)
   replace HO964 := am (Kd.R_below HO964.out hb)
   replace BK952 := (kmv hb BK952)
   replace HB := am (below_step (HB.out) hb)
   (try clear hb)
   (try clear hb2)
   (try clear hk)
   (try clear hi)
   refine hK.out _ _ ⟨(blk_cell BK952.out 0).trans rfl,(blk_cell BK952.out 1).trans rfl,(blk_cell BK952.out 2).trans rfl,(blk_cell BK952.out 3).trans rfl,(blk_cell BK952.out 4).trans rfl,((HB.out.cell (wbl hw960_0)).trans hw960_0),((HB.out.cell (wbl hw960_1)).trans hw960_1),((HB.out.cell (wbl hw961_0)).trans hw961_0),((HB.out.cell (wbl hw961_1)).trans hw961_1)⟩ (fun hHeld => ?_)
   clear hK K
   refine norm_ (a' := ?_) ?_ ?_
   rotate_left
   · show Act.put _ (some 33) _ = _
     simp only [Act.put,NRM]
     rfl
   refine one_ (i := 15) (N := some 34) (ba 18 65535) rfl rfl (one_of HT_.out (by kernel_rfl)) (by decide) (fun K hK => ?_)
   refine value_ (w1 := ?_) (v := ?_) (by rfl) rfl ?_ ?_
   rotate_left 2
   · go_simp
     constructor
     · rfl
     · rfl
   refine hK.out _ _ ⟨(blk_cell (blk_alloc BK952.out _) 0).trans rfl,(blk_cell (blk_alloc BK952.out _) 1).trans rfl,(blk_cell (blk_alloc BK952.out _) 2).trans rfl,(blk_cell (blk_alloc BK952.out _) 3).trans rfl,(blk_cell (blk_alloc BK952.out _) 4).trans rfl,(World.cell?_alloc_lt _ _ _ (World.block_lt_of_cell? _ _ (((HB.out.cell (wbl hw960_0)).trans hw960_0)))).trans (((HB.out.cell (wbl hw960_0)).trans hw960_0)),(World.cell?_alloc_lt _ _ _ (World.block_lt_of_cell? _ _ (((HB.out.cell (wbl hw960_1)).trans hw960_1)))).trans (((HB.out.cell (wbl hw960_1)).trans hw960_1)),(World.cell?_alloc_lt _ _ _ (World.block_lt_of_cell? _ _ (((HB.out.cell (wbl hw961_0)).trans hw961_0)))).trans (((HB.out.cell (wbl hw961_0)).trans hw961_0)),(World.cell?_alloc_lt _ _ _ (World.block_lt_of_cell? _ _ (((HB.out.cell (wbl hw961_1)).trans hw961_1)))).trans (((HB.out.cell (wbl hw961_1)).trans hw961_1))⟩ (fun hHeld => ?_)
   clear hK K
   refine norm_ (a' := ?_) ?_ ?_
   rotate_left
   · show Act.put _ (some 34) _ = _
     simp only [Act.put,NRM]
     rfl
   refine one_ (i := 16) (N := some 35) (ba 18 131071) rfl rfl (one_of HT_.out (by kernel_rfl)) (by decide) (fun K hK => ?_)
   refine Kd.R_append_step Kd.string (w0 := w) w.heap.size (by rfl) (.tmp 19) (.tmp 34) 130 9 (.string ⟨#[]⟩) 16 rfl Tryz.underlying130 info9 rfl (by decide) (by omega) u3 x3_1 t965 [.string t965] (fun _ => True) (fun _ => False) rfl rfl ?aP (fun _ hk => hk.elim) ?aF ?aO ?aB ?aS ?aL ?_
   (case aP => exact rfl)
   (case aB => exact (HB.out))
   (case aF => exact (fun _ _ => trivial))
   (case aO => exact HO_3.out)
   (case aS => exact (below_size (HB.out)))
   (case aL => have := LMc14.out;omega)
   intro v967 w21 ho hb hg hat
   rw [← Ny966.out] at ho
   have n0_ := am (blk_grown (g := gb952) (o := .cells #[.slice A0_0 l0_0.length c0_0,.int .i64 a0_1,.slice (some ad960) l0_2.length c0_2,.int .i64 a0_3,.int .i64 a0_4] 27 (0,0)) BK952.out hg (Kd.R_ne HO_3.out BK952.out (by decide)))
   have n1_ := am (Kd.R_over' HO964.out (Kd.R_typed HO_3.out) (by decide) hg)
   have n2_ := am (hb)
   have n3_ := am (ho)
   clear BK952
   clear HO964
   clear HB
   clear HO_3
   have BK952 := n0_
   have HO964 := n1_
   have HB := n2_
   have HO968 := n3_
   clear n0_ n1_ n2_ n3_
   clear ho hb hg hat
   refine hK.out _ _ ⟨(blk_cell BK952.out 0).trans rfl,(blk_cell BK952.out 1).trans rfl,(blk_cell BK952.out 2).trans rfl,(blk_cell BK952.out 3).trans rfl,(blk_cell BK952.out 4).trans rfl,((HB.out.cell (wbl hw960_0)).trans hw960_0),((HB.out.cell (wbl hw960_1)).trans hw960_1),((HB.out.cell (wbl hw961_0)).trans hw961_0),((HB.out.cell (wbl hw961_1)).trans hw961_1)⟩ (fun hHeld => ?_)
   clear hK K
   refine norm_ (a' := ?_) ?_ ?_
   rotate_left
   · show Act.put _ (some 35) _ = _
     simp only [Act.put,NRM]
     rfl
   refine pure_ (i := 17) (N := some 3) (v := ?_) (a' := ?_) (ba 18 262143) rfl rfl (any_of HT_.out (by kernel_rfl)) (fun _ _ _ h => h) (Or.inl ⟨by rfl,?_⟩) ?_ ?_
   rotate_left
   · intro w'
     go_simp
     with_reducible rfl
   rotate_left
   · simp only [Act.put,NRM]
     rfl
   refine done_ (done_of HT_.out (by kernel_rfl)) ?_
   try go_wp2
   go_roundg k1
   case measure => have := HK1.out;omega
   case rel => exact ⟨(y966),(wrap64 (x4_1 + 1)),(by first | rfl | (simp;done) | (simp [*];done)),H',⟨by have := HK1.out;omega⟩,⟨by (with_reducible repeat (first | apply Kd.R_alloc | apply Kd.R_drewN | apply Kd.R_drew));exact HO968.out⟩,⟨BK952.out⟩,⟨HB.out⟩⟩
end
end Go.Proofs.YtnnmnhpeblhiiaaGreatDoor.C
namespace Go.Abs
open Go.RowKit Go.Proofs.YtnnmnhpeblhiiaaGreatDoorW.PrintWords Go.Proofs.YtnnmnhpeblhiiaaGreatDoorW.PrintMore
set_option linter.unusedVariables false
set_option linter.unusedSimpArgs false
set_option maxHeartbeats 16000000
set_option maxRecDepth 100000
noncomputable def capOk (k : Nat) (s : St) (v : AV) : Bool:=
 match v with
 | .nilSlice=>true
 | .slice _ _ n c=>Nat.ble n c
 | .opn b n=>match s.heap.get b with
  | some (.cells _ (some k') cs)=>Nat.beq k' k && Nat.ble 1 k && Nat.ble (n * k) cs.length
  | some (.ro _ (some k') cs)=>Nat.beq k' k && Nat.ble 1 k && Nat.ble (n * k) cs.length
  | _=>false
 | _=>false
theorem capOk_le {e : Env} {s : St} {w : World} (hs : Sim e s w) {k n m c : Nat} {v : AV} {A : Option Addr} (h : capOk k s v = true) (hx : conc e v = some (.slice A m c)) : m≤c:=by
 unfold capOk at h
 split at h
 ·simp only [conc,Option.some.injEq,Value.slice.injEq] at hx;omega
 ·simp only [conc,Option.map_eq_some_iff,Value.slice.injEq] at hx
  obtain ⟨p,_,_,rfl,rfl⟩:=hx
  exact Nat.le_of_ble_eq_true h
 ·simp only [conc,Option.map_eq_some_iff,Value.slice.injEq] at hx
  obtain ⟨p,hp,_,rfl,rfl⟩:=hx
  have key : ∀ {n' k' : Nat} {cs : List AV} {vs rest : List Value},(Nat.beq k' k && Nat.ble 1 k && Nat.ble (n' * k) cs.length) = true→concL e cs = some vs→(vs ++ rest).length = p.2 * k'→n'≤p.2:=by
   intro n' k' cs vs rest h h1 h2
   simp only [Bool.and_eq_true,Nat.beq_eq,Nat.ble_eq] at h
   obtain ⟨⟨rfl,h3⟩,h4⟩:=h
   rw [List.length_append,concL_length h1] at h2
   exact Nat.le_of_mul_le_mul_right (by omega : n' * k'≤p.2 * k') (by omega)
  split at h
  ·rename_i hb
   obtain ⟨b,q,ob,he,_,vs,rest,h1,rfl,h2⟩:=hs.at_ _ _ hb
   rw [hp] at he;cases he
   exact key h h1 h2
  ·rename_i hb
   obtain ⟨b,q,ob,he,_,vs,rest,h1,rfl,h2⟩:=hs.at_ _ _ hb
   rw [hp] at he;cases he
   exact key h h1 (h2 _ rfl)
  ·cases h
 ·cases h
theorem first_cells {e : Env} {s : St} {w : World} (hs : Sim e s w) {m n c : Nat} {v : AV} {cs : List AV} {A : Option Addr} (h : firstA m v s = some cs) (hx : conc e v = some (.slice A n c)) (hm : 0 < m) :
  ∃ ad vs,A = some ad∧concL e cs = some vs∧∀ i u,vs[i]? = some u→w.cell? (ad.add i) = some u:=by
 have cell : ∀ {g o : Nat} {t : TypeId} {vs rest us : List Value},w.heap[g]? = some (.cells (vs ++ rest).toArray t (0,0))→(∀ i u,us[i]? = some u→vs[o + i]? = some u)→∀ i u,us[i]? = some u→w.cell? ((⟨g,o,none⟩ : Addr).add i) = some u:=by
  intro g o t vs rest us hg hus i u hu
  have h1:=hus i u hu
  have h2 : o + i < vs.length:=(List.getElem?_eq_some_iff.1 h1).1
  rw [addr_add]
  simp only [World.cell?,hg]
  simp only [Option.isSome_none,Bool.false_eq_true,if_false,List.getElem?_toArray]
  rw [List.getElem?_append_left h2];exact h1
 unfold firstA at h
 split at h
 ·split at h
  ·omega
  ·cases h
 ·simp only [Option.bind_eq_some_iff] at h
  obtain ⟨ds,hg,h⟩:=h
  split at h
  ·simp only [Option.some.injEq] at h;subst h
   obtain ⟨g,q,t,vs,rest,he,hb,hvs⟩:=rd_at hs hg
   simp only [conc,he,Option.map_some,Option.some.injEq,Value.slice.injEq] at hx
   obtain ⟨rfl,_,_⟩:=hx
   refine ⟨_,_,rfl,concL_take (concL_drop hvs _) _,cell hb fun i u hu=>?_⟩
   rw [List.getElem?_take] at hu
   split at hu
   ·rw [List.getElem?_drop] at hu;exact hu
   ·cases hu
  ·cases h
 ·simp only [Option.bind_eq_some_iff] at h
  obtain ⟨ds,hg,h⟩:=h
  split at h
  ·simp only [Option.some.injEq] at h;subst h
   obtain ⟨g,q,t,vs,rest,he,hb,hvs⟩:=rd_at hs hg
   simp only [conc,he,Option.map_some,Option.some.injEq,Value.slice.injEq] at hx
   obtain ⟨rfl,_,_⟩:=hx
   refine ⟨_,_,rfl,concL_take hvs _,cell hb fun i u hu=>?_⟩
   rw [List.getElem?_take] at hu
   split at hu
   ·rw [Nat.zero_add];exact hu
   ·cases hu
  ·cases h
 ·cases h
noncomputable def rdG {α : Type} (sz : Nat) (dec : List AV→Option (List α)) (s : St) (v : AV) : Option (List α):=
 if capOk sz s v then (lenSl v).bind fun n=>if Nat.ble n 1000000 then (firstA (n * sz) v s).bind fun cs=>(dec cs).bind fun xs=>if Nat.beq xs.length n then some xs else none else none else none
theorem rdG_ok {α : Type} {d : Kd α} {e : Env} {s : St} {w : World} (hs : Sim e s w) {dec : List AV→Option (List α)} (hsz : 0 < d.sz)
  (hdec : ∀ cs xs vs,dec cs = some xs→concL e cs = some vs→∀ j p,xs[j]? = some p→d.K w p ((vs.drop (j * d.sz)).take d.sz))
  {v : AV} {xs : List α} {x : Value} (h : rdG d.sz dec s v = some xs) (hx : conc e v = some x) : ∃ A c,x = .slice A xs.length c∧xs.length≤c∧d.C w A xs.length xs:=by
 unfold rdG at h
 split at h
 case isFalse=>cases h
 rename_i hcap
 simp only [Option.bind_eq_some_iff] at h
 obtain ⟨n,hn,h⟩:=h
 split at h
 case isFalse=>cases h
 rename_i hle
 simp only [Option.bind_eq_some_iff] at h
 obtain ⟨cs,hcs,xs',hxs,h⟩:=h
 split at h
 case isFalse=>cases h
 rename_i hlen
 cases h
 have hlen : xs.length = n:=Nat.eq_of_beq_eq_true hlen
 subst hlen
 obtain ⟨_,A,c,rfl⟩:=lenSl_run hn hx
 refine ⟨A,c,rfl,capOk_le hs (n:=0) hcap hx,rfl,by have:=Nat.le_of_ble_eq_true hle;omega,fun h0=>?_⟩
 obtain ⟨ad,vs,rfl,hvs,hcell⟩:=first_cells hs hcs hx (Nat.mul_pos h0 hsz)
 refine ⟨ad,rfl,fun j p hj=>⟨_,d.K_len (hdec cs xs vs hxs hvs j p hj),hdec cs xs vs hxs hvs j p hj,fun i u hu=>?_⟩⟩
 rw [List.getElem?_take] at hu
 split at hu
 ·rw [List.getElem?_drop] at hu
  exact hcell _ u hu
 ·cases hu
def intsA : List AV→Option (List Int)
 | []=>some []
 | .int .i64 a :: l=>(intsA l).map (a :: ·)
 | _=>none
theorem intsA_eq : ∀ {cs : List AV} {xs : List Int},intsA cs = some xs→cs = xs.map (.int .i64)
 | [],_,h=>by cases h;rfl
 | a :: l,xs,h=>by
  unfold intsA at h
  split at h
  ·cases ‹_ :: _ = []›
  ·rename_i heq;cases heq
   simp only [Option.map_eq_some_iff] at h
   obtain ⟨ys,h1,rfl⟩:=h
   rw [intsA_eq h1];rfl
  ·cases h
theorem concL_ints (e : Env) : ∀ xs : List Int,concL e (xs.map (.int .i64)) = some (xs.map (Value.int .i64))
 | []=>rfl
 | x :: xs=>by simp [concL,conc,concL_ints e xs]
noncomputable def rdInts : St→AV→Option (List Int):=rdG 1 intsA
theorem rdInts_ok {e : Env} {s : St} {w : World} (hs : Sim e s w) {v : AV} {xs : List Int} {x : Value} (h : rdInts s v = some xs) (hx : conc e v = some x) : ∃ A c,x = .slice A xs.length c∧xs.length≤c∧(Kd.int .i64).C w A xs.length xs:=by
 refine rdG_ok (d:=Kd.int .i64) hs (by show 0 < 1;omega) (fun cs xs vs h1 h2 j p hj=>?_) h hx
 rw [intsA_eq h1,concL_ints] at h2;cases h2
 show ((xs.map (Value.int .i64)).drop (j * 1)).take 1 = [.int .i64 p]
 have : (xs.map (Value.int .i64))[j * 1]? = some (.int .i64 p):=by simp [hj]
 rw [List.drop_eq_getElem?_toList_append]
 rw [this];rfl
noncomputable def eachA {α : Type} (f : AV→Option α) : List AV→Option (List α)
 | []=>some []
 | v :: l=>(f v).bind fun x=>(eachA f l).map (x :: ·)
theorem eachA_at {α : Type} {f : AV→Option α} : ∀ {cs : List AV} {xs : List α},eachA f cs = some xs→∀ {e : Env} {vs : List Value},concL e cs = some vs→∀ j p,xs[j]? = some p→∃ v y,f v = some p∧conc e v = some y∧(vs.drop (j * 1)).take 1 = [y]
 | [],_,h,e,vs,hv,j,p,hj=>by cases h;simp at hj
 | c :: cs,xs,h,e,vs,hv,j,p,hj=>by
  simp only [eachA,Option.bind_eq_some_iff,Option.map_eq_some_iff] at h
  obtain ⟨x,hx,ys,hys,rfl⟩:=h
  obtain ⟨y,zs,hy,hzs,rfl⟩:=concL_cons hv
  cases j with
  | zero=>cases hj;exact ⟨c,y,hx,hy,by simp⟩
  | succ j =>
   obtain ⟨v,y',h1,h2,h3⟩:=eachA_at hys hzs j p (by simpa using hj)
   exact ⟨v,y',h1,h2,by rw [show (j + 1) * 1 = j * 1 + 1 by omega];exact h3⟩
noncomputable def rdLists (s : St) : AV→Option (List (List Int)):=rdG 1 (eachA (rdInts s)) s
theorem rdLists_ok {e : Env} {s : St} {w : World} (hs : Sim e s w) {v : AV} {xs : List (List Int)} {x : Value} (h : rdLists s v = some xs) (hx : conc e v = some x) : ∃ A c,x = .slice A xs.length c∧xs.length≤c∧(Kd.slice 3 (Kd.int .i64)).C w A xs.length xs:=by
 refine rdG_ok (d:=Kd.slice 3 (Kd.int .i64)) hs (by show 0 < 1;omega) (fun cs xs vs h1 h2 j p hj=>?_) h hx
 obtain ⟨v,y,h3,h4,h5⟩:=eachA_at h1 h2 j p hj
 obtain ⟨A,c,rfl,h6,h7⟩:=rdInts_ok hs h3 h4
 exact ⟨A,c,h5,h6,h7⟩
theorem grow {e : Env} {s : St} {w w' : World} (h : Sim e s w) (hb : Below w.heap.size w w') : Sim e s w'∧Goes e s w e s w':=by
 refine ⟨⟨fun n x hx=>?_,h.inj,fun n b q hn=>Nat.lt_of_lt_of_le (h.bound n b q hn) hb.size⟩,⟨Env.le.refl e,fun _ h=>.inl h,fun _ _ h=>h,fun _ _ h=>h,fun b hb' _=>hb.block b hb',hb.size,hb.os,hb.tape,hb.output,fun _ _=>rfl,fun _ h=>h,Nat.le_refl _⟩⟩
 obtain ⟨b,q,ob,he,hw,hr⟩:=h.at_ n x hx
 exact ⟨b,q,ob,he,(hb.block b (h.bound n b q he)).trans hw,hr⟩
def RwBelow (e : Env) (s : St) (B : Nat) : Prop:=∀ n x b q,s.heap.get n = some x→x.rw→e n = some (b,q)→b < B
theorem addAt {e0 e : Env} {s0 s : St} {w0 w : World} (hg : Goes e0 s0 w0 e s w) (h : Sim e s w) (hr : RwBelow e s w0.heap.size) {g q : Nat} {blk : Blk} {ob : Obj} (hfree : e s.next = none) (h0 : w0.heap.size≤g) (hlt : g < w.heap.size)
  (hro : ¬ blk.rw∨∀ n x q,s.heap.get n = some x→e n ≠ some (g,q)) (hob : w.heap[g]? = some ob) (hb : BlkRel (e.upd s.next (g,q)) q blk ob) :
  Sim (e.upd s.next (g,q)) (s.add blk) w∧Goes e0 s0 w0 (e.upd s.next (g,q)) (s.add blk) w∧(¬ blk.rw→RwBelow (e.upd s.next (g,q)) (s.add blk) w0.heap.size):=by
 have hle:=Env.le_upd (g,q) hfree
 refine ⟨⟨?_,?_,?_⟩,⟨hg.le.trans hle,?_,?_,?_,hg.frame,hg.size,hg.os,hg.tape,hg.output,?_,?_,Nat.le_trans hg.next (Nat.le_succ _)⟩,?_⟩
 ·intro m x hx
  simp only [St.add,Tr.get_set] at hx
  split at hx
  ·subst m;cases hx;exact ⟨g,q,ob,Env.upd_self ..,hob,hb⟩
  ·obtain ⟨b',q',ob',he',hb',hr'⟩:=h.at_ m x hx
   exact ⟨b',q',ob',hle _ _ he',hb',hr'.le hle⟩
 ·intro m k b' q1 q2 x y hm hmr hk em ek
  simp only [St.add,Tr.get_set] at hm hk
  by_cases e1 : m = s.next<;>by_cases e2 : k = s.next
  ·rw [e1,e2]
  ·subst e1;rw [Env.upd_self] at em;cases em;rw [Env.upd_ne _ _ e2] at ek;rw [if_neg e2] at hk;rw [if_pos rfl] at hm;cases hm
   rcases hro with hro | hro
   ·exact absurd hmr hro
   ·exact absurd ek (hro _ _ _ hk)
  ·subst e2;rw [Env.upd_self] at ek;cases ek;rw [Env.upd_ne _ _ e1] at em;rw [if_neg e1] at hm
   exact absurd (hr m _ _ _ hm hmr em) (by omega)
  ·rw [if_neg e1] at hm;rw [if_neg e2] at hk;rw [Env.upd_ne _ _ e1] at em;rw [Env.upd_ne _ _ e2] at ek
   exact h.inj m k b' q1 q2 _ _ hm hmr hk em ek
 ·intro m b' q' hm
  by_cases e1 : m = s.next
  ·subst e1;rw [Env.upd_self] at hm;cases hm;exact hlt
  ·rw [Env.upd_ne _ _ e1] at hm;exact h.bound m b' q' hm
 ·intro m hm
  by_cases e1 : m = s.next
  ·exact .inr ⟨by rw [e1];exact hg.next,by simp only [St.add];omega⟩
  ·rw [Env.upd_ne _ _ e1] at hm
   rcases hg.rng m hm with h1 | ⟨h1,h2⟩
   ·exact .inl h1
   ·exact .inr ⟨h1,Nat.lt_succ_of_lt h2⟩
 ·rintro b' hb' ⟨m,x,q',hx,hxr,hm⟩
  simp only [St.add,Tr.get_set] at hx
  by_cases e1 : m = s.next
  ·subst e1;rw [Env.upd_self] at hm;cases hm;omega
  ·rw [if_neg e1] at hx;rw [Env.upd_ne _ _ e1] at hm;exact hg.own b' hb' ⟨m,x,q',hx,hxr,hm⟩
 ·rintro b' hb' ⟨m,x,q',hx,hm⟩
  simp only [St.add,Tr.get_set] at hx
  by_cases e1 : m = s.next
  ·subst e1;rw [Env.upd_self] at hm;cases hm;omega
  ·rw [if_neg e1] at hx;rw [Env.upd_ne _ _ e1] at hm;exact hg.met b' hb' ⟨m,x,q',hx,hm⟩
 ·intro m hm
  simp only [St.add,List.mem_cons,not_or] at hm ⊢
  rw [Tr.get_set,if_neg hm.1];exact hg.log m hm.2
 ·intro m hm;exact List.mem_cons_of_mem _ (hg.logs m hm)
 ·intro hro m x b' q' hx hxr hm
  simp only [St.add,Tr.get_set] at hx
  by_cases e1 : m = s.next
  ·subst e1;rw [if_pos rfl] at hx;cases hx;exact absurd hxr hro
  ·rw [if_neg e1] at hx;rw [Env.upd_ne _ _ e1] at hm;exact hr m x b' q' hx hxr hm
theorem rwBelow {e : Env} {s : St} {w : World} (h : Sim e s w) : RwBelow e s w.heap.size:=fun n x b q _ _ he=>h.bound n b q he
theorem endsC {P : Program} {f : FuncId} {xs : Array Value} {w : World} {R : Ending→World→Prop} (h : Calls P f xs w R) (c : Frame) (cs : List Frame) :
  ∃ e w',R e w'∧∀ v,e = .returned v→Steps P (lone (Frame.enter P f xs .normal) (c :: cs) w) (lone (c.finish v) cs w'):=by
 obtain ⟨e,w',fr,hR,hc,_,hl⟩:=h (c :: cs)
 refine ⟨e,w',hR,fun v hv=>?_⟩
 subst hv
 exact Steps.trans hc (.one (step_leave_returned hl))
theorem row_of {d : Kd Int} {e base n : Nat} {w : World} {ok : Nat→Prop} {v : Value} {xs : List Int} (h : (Kd.int .i64).R e w base ok v xs) (hx : xs ≠ []) :
  ∃ g cap rest,v = .slice (some ⟨g,0,none⟩) xs.length cap∧base≤g∧g < w.heap.size∧w.heap[g]? = some (.cells (xs.map (Value.int .i64) ++ rest).toArray e (0,0))∧(xs.map (Value.int .i64) ++ rest).length = cap * 1:=by
 obtain ⟨_,inner,ho,hr⟩:=h
 obtain ⟨h1,h2⟩:=ho
 rcases h2 with ⟨_,h2⟩ | ⟨g,cap,cur,rfl,h3,h4,h5,h6,h7,h8⟩
 ·exact absurd (List.length_eq_zero_iff.1 h2) hx
 have hin : inner = xs.map (Value.int .i64):=by
  apply List.ext_getElem?
  intro j
  have hl : inner.length = xs.length * 1:=h1
  cases hj : xs[j]? with
  | none =>
   rw [List.getElem?_map,hj,List.getElem?_eq_none];· rfl
   have:=List.getElem?_eq_none_iff.1 hj;omega
  | some p =>
   have h9 : (inner.drop (j * 1)).take 1 = [.int .i64 p]:=hr.2 j p hj
   rw [List.getElem?_map,hj]
   have : ((inner.drop (j * 1)).take 1)[0]? = some (Value.int .i64 p):=by rw [h9];rfl
   rw [List.getElem?_take,if_pos (by omega),List.getElem?_drop] at this
   simpa using this
 have hsz : (Kd.int .i64).sz = 1:=rfl
 rw [hsz] at h7 h8
 refine ⟨g,cap,cur.toList.drop (xs.length * 1),rfl,h3,(Array.getElem?_eq_some_iff.1 h4).1,?_,?_⟩
 ·rw [h4,← hin,← h8,List.take_append_drop]
 ·rw [← hin,← h8,List.take_append_drop,Array.length_toList];exact h7
noncomputable def addInts (t : TypeId) : List (List Int)→St→List AV × St
 | [],s=>([],s)
 | l :: r,s=>let q:=addInts t r (s.add (.ro t (some 1) (l.map (.int .i64))));(.opn s.next l.length :: q.1,q.2)
theorem addInts_next (t : TypeId) : ∀ (l : List (List Int)) (s : St),(addInts t l s).2.next = s.next + l.length
 | [],s=>rfl
 | x :: r,s=>by
  show (addInts t r _).2.next = _
  rw [addInts_next t r];simp only [St.add,List.length_cons];omega
theorem addInts_ok {e0 : Env} {s0 : St} {w0 w : World} {t : TypeId} {ok : Nat→Prop} : ∀ {l : List (List Int)} {vs : List Value} {e : Env} {s : St},Goes e0 s0 w0 e s w→Sim e s w→RwBelow e s w0.heap.size→Free e s.next (s.next + l.length)→
  vs.length = l.length→(∀ (j : Nat) (xs : List Int),l[j]? = some xs→xs ≠ []∧∃ v,vs[j]? = some v∧(Kd.int .i64).R t w w0.heap.size ok v xs)→
  ∃ e',Goes e0 s0 w0 e' (addInts t l s).2 w∧Sim e' (addInts t l s).2 w∧RwBelow e' (addInts t l s).2 w0.heap.size∧e.le e'∧concL e' (addInts t l s).1 = some vs∧∀ n,s.next + l.length≤n→e n = none→e' n = none
 | [],vs,e,s,hg,hs,hr,hf,hl,h=>by
  obtain rfl : vs = []:=List.length_eq_zero_iff.1 hl
  exact ⟨e,hg,hs,hr,Env.le.refl e,rfl,fun _ _ h=>h⟩
 | x :: r,vs,e,s,hg,hs,hr,hf,hl,h=>by
  obtain ⟨v,vs,rfl⟩ : ∃ v vs',vs = v :: vs':=by cases vs with | nil=>simp at hl | cons a b=>exact ⟨a,b,rfl⟩
  obtain ⟨hx,v',hv',hR⟩:=h 0 x rfl
  cases hv'
  obtain ⟨g,cap,rest,rfl,h1,h2,h3,h4⟩:=row_of (d:=Kd.int .i64) (n:=0) hR hx
  have hfree : e s.next = none:=hf _ (Nat.le_refl _) (by simp only [List.length_cons];omega)
  have hle:=Env.le_upd (g,cap) hfree
  obtain ⟨q1,q2,q3⟩:=addAt (q:=cap) (blk:=.ro t (some 1) (x.map (.int .i64))) hg hs hr hfree h1 h2 (.inl fun z=>z) h3 ⟨_,rest,concL_ints _ x,rfl,fun m hm=>by cases hm;exact h4⟩
  obtain ⟨e',p1,p2,p3,p4,p5,p6⟩:=addInts_ok (l:=r) (vs:=vs) (s:=s.add (.ro t (some 1) (x.map (.int .i64)))) q2 q1 (q3 fun z=>z) (fun n a b=>by
   rw [Env.upd_ne _ _ (by simp only [St.add] at a;omega)]
   exact hf n (by simp only [St.add] at a;omega) (by simp only [St.add] at b;simp only [List.length_cons];omega)) (by simpa using hl) (fun j xs hj=>h (j + 1) xs (by simpa using hj))
  refine ⟨e',p1,p2,p3,hle.trans p4,?_,fun n a b=>p6 n (by simp only [St.add,List.length_cons] at a ⊢;omega) ?_⟩
  ·simp only [addInts,concL,conc,p4 _ _ (Env.upd_self e s.next (g,cap)),Option.map_some,Option.bind_some,p5]
  ·rw [Env.upd_ne _ _ (by simp only [List.length_cons] at a;omega)];exact b
end Go.Abs
namespace Go.Proofs.YtnnmnhpeblhiiaaGreatDoor.C
open Go.RowKit Go.Proofs.YtnnmnhpeblhiiaaGreatDoorW.PrintWords Go.Proofs.YtnnmnhpeblhiiaaGreatDoorW.PrintLast Go.Proofs.YtnnmnhpeblhiiaaGreatDoorW.PrintMore
set_option linter.unusedVariables false
set_option linter.unusedSimpArgs false
set_option maxHeartbeats 16000000
set_option maxRecDepth 100000
section
attribute [local go_sem] max2_int min2_int max_two min_two
def nz_sum.l0 : Nat → Int → List Int → Int → Int → Option (Int)
 | 0,_,_,_,_ => none
 | k + 1,x3,x6,x7,x8 => if x8 < x7 then (if 0 ≤ x8 then (if x8 < (x6.length : Int) then (nz_sum.l0 k (wrap64 (x3 + (rd x6 x8))) x6 x7 (wrap64 (x8 + 1))) else (none)) else (none)) else (some x3)
def nz_sum.f (k : Nat) (l0 : List Int) : Option (Int) := nz_sum.l0 k 0 l0 (l0.length : Int) 0
theorem nz_sum.calls (k : Nat) (A0 : Option Addr) (c0 : Nat) (l0 : List Int) (r : Int) (w : World) (hr0 : Kd.C (Kd.int .i64) w A0 l0.length l0) (hc0 : l0.length ≤ c0) (h : nz_sum.f k l0 = some r) :
 Calls Tryz.prog 141 #[.slice A0 l0.length c0] w fun e w' => e = .returned (.int .i64 r) ∧ Drawn0 w w' := by
 have HR0 := am hr0
 have HC0 := am hc0
 clear hr0 hc0
 have H : (nz_sum.l0 k 0 l0 (l0.length : Int) 0) = some r := h
 clear h
 replace H' := am H
 go_enter Tryz.func141,Tryz.ntmps141
 go_wp2
 go_loopg [3,8] k (fun kq v3 v8 w' => ∃ (x3_1 : Int) (x8_1 : Int),v3 = .int .i64 x3_1 ∧ v8 = .int .i64 x8_1 ∧ Aside0 (nz_sum.l0 kq x3_1 l0 (l0.length : Int) x8_1 = some r) ∧ Aside0 (kq ≤ k) ∧ Drawn0 w w')
 case atStart => exact ⟨(0),(0),(by first | rfl | (simp;done) | (simp [*];done)),(by first | rfl | (simp;done) | (simp [*];done)),H',⟨Nat.le_refl _⟩,by repeat (first | exact Drawn0.refl _ | apply Drawn0.step)⟩
 case round =>
  clear H'
  obtain ⟨x3_1,x8_1,rfl,rfl,HA,HK1,⟨m1,rfl⟩⟩ := hrel
  cases gk with
  | zero => exact absurd HA.out (by simp [nz_sum.l0])
  | succ k1 =>
   have H := HA.out
   clear HA
   simp only [nz_sum.l0] at H
   by_cases c2 : x8_1 < (l0.length : Int)
   case neg =>
    rw [if_neg c2] at H
    have c2b0 : decide (x8_1 < (l0.length : Int)) = false := decide_eq_false c2
    clear c2
    obtain rfl := Option.some.inj H
    go_wp2
    go_ret
    exact ⟨by first | rfl | (simp;done) | (simp [*];done),by repeat (first | exact Drawn0.refl _ | apply Drawn0.step)⟩
   rw [if_pos c2] at H
   have c2b0 : decide (x8_1 < (l0.length : Int)) = true := decide_eq_true c2
   clear c2
   by_cases c3 : 0 ≤ x8_1
   case neg =>
    rw [if_neg c3] at H
    exact absurd H (by simp)
   rw [if_pos c3] at H
   have c3b0 : decide (0 ≤ x8_1) = true := decide_eq_true c3
   clear c3
   by_cases c4 : x8_1 < (l0.length : Int)
   case neg =>
    rw [if_neg c4] at H
    exact absurd H (by simp)
   rw [if_pos c4] at H
   have c4b0 : decide (x8_1 < (l0.length : Int)) = true := decide_eq_true c4
   clear c4
   replace H' := am H
   have p143 : 0 ≤ (x8_1 : Int) := of_decide_eq_true (by assumption)
   have q143 : x8_1 < (l0.length : Int) := of_decide_eq_true (by assumption)
   obtain ⟨ad143,e143,hx143_0⟩ := Kd.at_int HR0.out x8_1 p143 q143
   cases e143
   replace p143 := eq_true p143
   replace q143 := eq_true q143
   go_wp2
   go_roundg k1
   case measure => have := HK1.out;omega
   case rel => exact ⟨(wrap64 (x3_1 + (rd l0 x8_1))),(wrap64 (x8_1 + 1)),(by first | rfl | (simp;done) | (simp [*];done)),(by first | rfl | (simp;done) | (simp [*];done)),H',⟨by have := HK1.out;omega⟩,by repeat (first | exact Drawn0.refl _ | apply Drawn0.step)⟩
def nz_gives.l0 : Nat → List Int → List Int → Int → Int → List (S126) → Int → Option (Int)
 | 0,_,_,_,_,_,_ => none
 | k + 1,x5,x8,x9,x10,x145000,x145001 => if x10 < x9 then (if 0 ≤ x10 then (if x10 < (x8.length : Int) then (if 0 ≤ (rd x8 x10) then (if (rd x8 x10) < (x145000.length : Int) then (if x5.length < 17592186044416 then (nz_gives.l0 k (x5 ++ [(rd_T126 x145000 (rd x8 x10)).f2]) x8 x9 (wrap64 (x10 + 1)) x145000 x145001) else (none)) else (none)) else (none)) else (none)) else (none)) else ((nz_sum.f k x5).bind fun t150 => (some t150))
def nz_gives.f (k : Nat) (l0_0 : List (S126)) (a0_1 : Int) (l1 : List Int) : Option (Int) := nz_gives.l0 k ([] : List Int) l1 (l1.length : Int) 0 l0_0 a0_1
theorem nz_gives.calls (k : Nat) (A0_0 : Option Addr) (c0_0 : Nat) (l0_0 : List (S126)) (a0_1 : Int) (A1 : Option Addr) (c1 : Nat) (l1 : List Int) (r : Int) (w : World) (hr0_0 : Kd.C k126 w A0_0 l0_0.length l0_0) (hc0_0 : l0_0.length ≤ c0_0) (hr1 : Kd.C (Kd.int .i64) w A1 l1.length l1) (hc1 : l1.length ≤ c1) (h : nz_gives.f k l0_0 a0_1 l1 = some r) :
 Calls Tryz.prog 130 #[.agg #[.slice A0_0 l0_0.length c0_0,.int .i64 a0_1],.slice A1 l1.length c1] w fun e w' => e = .returned (.int .i64 r) ∧ Below w.heap.size w w' := by
 have hu24 := Tryz.underlying24
 have HR0_0 := am hr0_0
 have HC0_0 := am hc0_0
 clear hr0_0 hc0_0
 have HR1 := am hr1
 have HC1 := am hc1
 clear hr1 hc1
 have HB := am (Below.refl w.heap.size w)
 have H : (nz_gives.l0 k ([] : List Int) l1 (l1.length : Int) 0 l0_0 a0_1) = some r := h
 clear h
 replace H' := am H
 go_enter Tryz.func130,Tryz.ntmps130
 go_wp2_with (first | ((refine gate_dst (N := 2) rfl ?_);refine box_event rfl (N := 2) rfl (cs := #[.slice A0_0 l0_0.length c0_0,.int .i64 a0_1]) (t := 24) ?hr ?_;(case hr => go_simp;try rfl);intro gb144 hg w3 hbox hb;have BK144 := am (hbox);have GW144 := am (ge_new (HB.out) hg);have GE144 := am (ge_new (HB.out) hg);replace HB := am (below_step (HB.out) hb);clear hb hbox hg))
 go_loopg [5,10] k (fun kq v5 v10 w' => ∃ (x5_1 : List Int) (x10_1 : Int),v10 = .int .i64 x10_1 ∧ Aside0 (nz_gives.l0 kq x5_1 l1 (l1.length : Int) x10_1 l0_0 a0_1 = some r) ∧ Aside0 (kq ≤ k) ∧ Aside0 (Kd.R (Kd.int .i64) 3 w' w.heap.size (fun _ => True) v5 x5_1) ∧ Aside0 (w'.heap[gb144]? = some (.cells #[(.slice A0_0 l0_0.length c0_0),.int .i64 a0_1] 24 (0,0))) ∧ Aside0 (Below w.heap.size w w'))
 case atStart => exact ⟨(([] : List Int)),(0),(by first | rfl | (simp;done) | (simp [*];done)),H',⟨Nat.le_refl _⟩,⟨by first | exact Kd.R_nil _ _ _ _ _ | exact Kd.N_nil _ _ _ _ _ | exact Kd.V_nil _ _ _ _ _ | exact Kd.Q_nil _ _ _ _ _ | exact Kd.S_nil _ _ _ _ _⟩,⟨BK144.out⟩,⟨HB.out⟩⟩
 case round =>
  clear H'
  obtain ⟨x5_1,x10_1,rfl,HA,HK1,HO_5,BK144,HB⟩ := hrel
  cases gk with
  | zero => exact absurd HA.out (by simp [nz_gives.l0])
  | succ k1 =>
   have H := HA.out
   clear HA
   simp only [nz_gives.l0] at H
   by_cases c4 : x10_1 < (l1.length : Int)
   case neg =>
    rw [if_neg c4] at H
    have c4b0 : decide (x10_1 < (l1.length : Int)) = false := decide_eq_false c4
    clear c4
    replace H := obm H
    obtain ⟨t150,A120,H⟩ := H
    replace H : (some t150) = some r := H
    have A12 := am A120
    clear A120
    obtain rfl := Option.some.inj H
    obtain ⟨Ao13,co13,eo13⟩ := Kd.R_slice HO_5.out
    subst eo13
    go_wp2_with (first | ((with_reducible refine gate_callee (f := 141) rfl ?_);refine goesL_ (some 25) rfl rfl Tryz.func141 (by kernel_rfl) rfl #[.slice Ao13 x5_1.length co13] rfl (by (try simp only [List.map_toArray,List.map_cons,List.map_nil]);first | done | rfl | (simp only [List.length_drop,List.length_take];rfl)) ?_;(refine (nz_sum.calls k1 _ _ x5_1 t150 _ ?side1 ?side2 A12.out).mono ?_);(case side1 => repeat (first | exact (Kd.R_reads' HO_5.out).2.2 | (with_reducible refine Kd.C_alloc ?_ _) | (with_reducible refine Kd.C_drewN ?_ _) | (with_reducible refine Kd.C_drew ?_)));(case side2 => exact (Kd.R_reads' HO_5.out).2.1);rintro e w' ⟨rfl,⟨nd,rfl⟩⟩;refine ⟨_,rfl,?_⟩))
    go_ret
    exact ⟨by first | rfl | (simp [*] <;> rfl),pw_below_drewN HB.out _⟩
   rw [if_pos c4] at H
   have c4b0 : decide (x10_1 < (l1.length : Int)) = true := decide_eq_true c4
   clear c4
   by_cases c5 : 0 ≤ x10_1
   case neg =>
    rw [if_neg c5] at H
    exact absurd H (by simp)
   rw [if_pos c5] at H
   have c5b0 : decide (0 ≤ x10_1) = true := decide_eq_true c5
   clear c5
   by_cases c6 : x10_1 < (l1.length : Int)
   case neg =>
    rw [if_neg c6] at H
    exact absurd H (by simp)
   rw [if_pos c6] at H
   have c6b0 : decide (x10_1 < (l1.length : Int)) = true := decide_eq_true c6
   clear c6
   by_cases c7 : 0 ≤ (rd l1 x10_1)
   case neg =>
    rw [if_neg c7] at H
    exact absurd H (by simp)
   rw [if_pos c7] at H
   have c7b0 : decide (0 ≤ (rd l1 x10_1)) = true := decide_eq_true c7
   clear c7
   by_cases c8 : (rd l1 x10_1) < (l0_0.length : Int)
   case neg =>
    rw [if_neg c8] at H
    exact absurd H (by simp)
   rw [if_pos c8] at H
   have c8b0 : decide ((rd l1 x10_1) < (l0_0.length : Int)) = true := decide_eq_true c8
   clear c8
   by_cases c9 : x5_1.length < 17592186044416
   case neg =>
    rw [if_neg c9] at H
    exact absurd H (by simp)
   rw [if_pos c9] at H
   have LMc9 := am c9
   clear c9
   obtain ⟨y147,hy147⟩ : ∃ y_ : List Int,y_ = (x5_1 ++ [(rd_T126 l0_0 (rd l1 x10_1)).f2]) := ⟨_,rfl⟩
   replace H : (nz_gives.l0 k1 y147 l1 (l1.length : Int) (wrap64 (x10_1 + 1)) l0_0 a0_1) = some r := by first | (rw [hy147];with_reducible exact H) | (have H2_ := (Option.bind_some _ _).symm.trans H;rw [hy147];with_reducible exact H2_) | (have H2_ := (Option.bind_some _ _).symm.trans H;with_reducible exact H2_) | with_reducible exact H | (rw [hy147];exact H) | exact H
   have Ny147 := am hy147
   clear hy147
   replace H' := am H
   have p145 : 0 ≤ (x10_1 : Int) := of_decide_eq_true (by assumption)
   have q145 : x10_1 < (l1.length : Int) := of_decide_eq_true (by assumption)
   obtain ⟨ad145,e145,hx145_0⟩ := Kd.at_int HR1.out x10_1 p145 q145
   cases e145
   replace hx145_0 := (HB.out.cell (wbl hx145_0)).trans hx145_0
   replace p145 := eq_true p145
   replace q145 := eq_true q145
   obtain ⟨hcz10_0,hcz10_1⟩ := cO2 BK144.out
   have p146 : 0 ≤ ((rd l1 x10_1) : Int) := of_decide_eq_true (by assumption)
   have q146 : (rd l1 x10_1) < (l0_0.length : Int) := of_decide_eq_true (by assumption)
   obtain ⟨ad146,e146,hx146_0,hx146_1,hx146_2⟩ := at_T126 HR0_0.out (rd l1 x10_1) p146 q146
   cases e146
   replace hx146_0 := (HB.out.cell (wbl hx146_0)).trans hx146_0
   replace hx146_1 := (HB.out.cell (wbl hx146_1)).trans hx146_1
   replace hx146_2 := (HB.out.cell (wbl hx146_2)).trans hx146_2
   replace p146 := eq_true p146
   replace q146 := eq_true q146
   go_wp2_with (first | ((with_reducible refine gate_builtin (b := .append) (xs := #[.tmp 14,.tmp 21]) rfl ?_);at_builtin;refine Kd.R_append (Kd.int .i64) (w0 := w) w.heap.size rfl (.tmp 14) (.tmp 21) 28 3 (.int .i64 0) 8 rfl Tryz.underlying28 info3 rfl (by decide) (by omega) u5 x5_1 ((rd_T126 l0_0 (rd l1 x10_1)).f2) [.int .i64 ((rd_T126 l0_0 (rd l1 x10_1)).f2)] (fun _ => True) (fun _ => False) rfl rfl ?aP (fun _ hk => hk.elim) ?aF ?aO ?aB ?aS ?aL ?_;(case aP => exact rfl);(case aB => exact (HB.out));(case aF => exact (fun _ _ => trivial));(case aO => exact HO_5.out);(case aS => exact (below_size (HB.out)));(case aL => have := LMc9.out;omega);intro v148 w11 ho hb hg hat;rw [← Ny147.out] at ho;have n0_ := am (blk_grown (g := gb144) (o := .cells #[.slice (some ad146) l0_0.length c0_0,.int .i64 a0_1] 24 (0,0)) BK144.out hg (Kd.R_ne HO_5.out BK144.out (by decide)));have n1_ := am (hb);have n2_ := am (ho);clear BK144;clear HB;clear HO_5;have BK144 := n0_;have HB := n1_;have HO149 := n2_;clear n0_ n1_ n2_;clear ho hb hg hat))
   go_roundg k1
   case measure => have := HK1.out;omega
   case rel => exact ⟨(y147),(wrap64 (x10_1 + 1)),(by first | rfl | (simp;done) | (simp [*];done)),H',⟨by have := HK1.out;omega⟩,⟨by (with_reducible repeat (first | apply Kd.R_alloc | apply Kd.R_drewN | apply Kd.R_drew));exact HO149.out⟩,⟨BK144.out⟩,⟨HB.out⟩⟩
end
def Pred_isSet (g : Nat) (q : Int → Option Bool) (w : World) (xs : List Int) : Prop := ∀ (x : Int) (b : Bool) (W : World) , x ∈ xs → q x = some b → Below w.heap.size w W → 
 Calls Tryz.prog 139 #[.int .i64 x,.pointer (some ⟨g,0,none⟩)] W fun e W' => e = .returned (.bool b) ∧ Below W.heap.size W W'
theorem idx_isSet (g : Nat) (q : Int → Option Bool) (A : Option Addr) (c : Nat) (xs : List Int) (r : Int) (w : World) (hr : Kd.C (Kd.int .i64) w A xs.length xs) (hp : Pred_isSet g q w xs) (h : idxM q xs 0 = some r) :
 Calls Tryz.prog 105 #[.slice A xs.length c,.func (.func 139) #[] #[.pointer (some ⟨g,0,none⟩)]] w fun e w' => e = .returned (.int .i64 r) ∧ Below w.heap.size w w' := by
 have HR := am hr
 have HP := am hp
 have HQ := am (show idxM q (xs.drop (0 : Int).toNat) 0 = some r from h)
 have hm : xs.length ≤ 9223372036854775807 := Kd.C_max hr
 clear hr hp h
 go_enter Tryz.func105,Tryz.ntmps105
 go_wp2
 go_loopw [5,8] (fun v5 v8 w' => ∃ i : Int,0 ≤ i ∧ i ≤ xs.length ∧ v8 = .int .i64 i ∧ Aside0 (idxM q (xs.drop i.toNat) i = some r) ∧ Aside0 (Below w.heap.size w w')) (fun _ v8 _ => xs.length - (intOf v8).toNat)
 case atStart => exact ⟨0,by omega,by omega,rfl,HQ,⟨Below.refl _ _⟩⟩
 case round =>
  clear HQ
  obtain ⟨i,p1,hi,rfl,HQ,HB⟩ := hrel
  by_cases hlt : i < (xs.length : Int)
  case neg =>
   go_wp2
   go_ret
   exact ⟨ret_int_eq (idxM_end (by omega) HQ.out),HB.out⟩
  obtain ⟨ad,e1,hx0⟩ := Kd.at_int HR.out i p1 hlt
  cases e1
  replace hx0 := (HB.out.cell (wbl hx0)).trans hx0
  rcases idxM_step (0 : Int) p1 hlt HQ.out with ⟨hq,he⟩ | ⟨hq,hn⟩
  · have H1 := am hq
    have X1 := am (getD_mem (0 : Int) p1 hlt)
    have H2 := am he
    clear hq he
    go_wp2_with (go_at_call 139;refine (HP.out (xs.getD i.toNat (0 : Int)) _ _ X1.out H1.out HB.out).mono ?_;rintro e W' ⟨rfl,hb⟩)
    go_ret
    exact ⟨ret_int_eq H2.out,below_then HB.out HB.out.size hb⟩
  · have H1 := am hq
    have X1 := am (getD_mem (0 : Int) p1 hlt)
    have H2 := am hn
    clear hq hn
    go_wp2_with (go_at_call 139;refine (HP.out (xs.getD i.toNat (0 : Int)) _ _ X1.out H1.out HB.out).mono ?_;rintro e W' ⟨rfl,hb⟩)
    go_roundw
    case rel => exact ⟨i + 1,by omega,by omega,by go_num,H2,⟨below_then HB.out HB.out.size hb⟩⟩
    case measure => simp [intOf];omega
theorem any_isSet (g : Nat) (q : Int → Option Bool) (A : Option Addr) (c : Nat) (xs : List Int) (r : Bool) (w : World) (hr : Kd.C (Kd.int .i64) w A xs.length xs) (hp : Pred_isSet g q w xs) (h : anyM q xs = some r) :
 Calls Tryz.prog 65 #[.slice A xs.length c,.func (.func 139) #[] #[.pointer (some ⟨g,0,none⟩)]] w fun e w' => e = .returned (.bool r) ∧ Below w.heap.size w w' := by
 obtain ⟨j,hj,hd⟩ := idxM_of_anyM q xs 0 r (by omega) h
 have H1 := am hj
 have H2 := am hd
 have HR := am hr
 have HP := am hp
 clear hr hp h hj hd
 go_enter Tryz.func65,Tryz.ntmps65
 go_wp2_with (go_at_call 105;refine (idx_isSet g q _ _ xs j _ HR.out HP.out H1.out).mono ?_;rintro e W' ⟨rfl,hb⟩)
 go_ret
 exact ⟨ret_bool_eq H2.out,hb⟩
section
attribute [local go_sem] max2_int min2_int max_two min_two
def cmp_isNaN_int.f (a0 : Int) : Option (Bool) := some (a0 != a0)
theorem cmp_isNaN_int.calls (a0 : Int) (r : Bool) (w : World) (h : cmp_isNaN_int.f a0 = some r) :
 Calls Tryz.prog 156 #[.int .i64 a0] w fun e w' => e = .returned (.bool r) ∧ Drawn0 w w' := by
 have H : (some (a0 != a0)) = some r := h
 clear h
 obtain rfl := Option.some.inj H
 go_enter Tryz.func156,Tryz.ntmps156
 go_wp2
 go_ret
 exact ⟨by first | rfl | (simp;done) | (simp [*];done),by repeat (first | exact Drawn0.refl _ | apply Drawn0.step)⟩
def cmp_Less_int.f (a0 : Int) (a1 : Int) : Option (Bool) := (cmp_isNaN_int.f a0).bind fun t138 => (if t138 = true then ((cmp_isNaN_int.f a1).bind fun t139 => (if t139 = true then (some (decide (a0 < a1))) else (some true))) else (some (decide (a0 < a1))))
theorem cmp_Less_int.calls (a0 : Int) (a1 : Int) (r : Bool) (w : World) (h : cmp_Less_int.f a0 a1 = some r) :
 Calls Tryz.prog 147 #[.int .i64 a0,.int .i64 a1] w fun e w' => e = .returned (.bool r) ∧ Drawn0 w w' := by
 have H : ((cmp_isNaN_int.f a0).bind fun t138 => (if t138 = true then ((cmp_isNaN_int.f a1).bind fun t139 => (if t139 = true then (some (decide (a0 < a1))) else (some true))) else (some (decide (a0 < a1))))) = some r := h
 clear h
 replace H := obm H
 obtain ⟨t138,A30,H⟩ := H
 replace H : (if t138 = true then ((cmp_isNaN_int.f a1).bind fun t139 => (if t139 = true then (some (decide (a0 < a1))) else (some true))) else (some (decide (a0 < a1)))) = some r := H
 have A3 := am A30
 clear A30
 by_cases c4 : t138 = true
 case neg =>
  replace c4 := Bool.eq_false_iff.mpr c4
  subst c4
  replace H : (some (decide (a0 < a1))) = some r := by rw [if_neg (show ¬ (false = true) by decide)] at H;exact H
  obtain rfl := Option.some.inj H
  go_enter Tryz.func147,Tryz.ntmps147
  go_wp2_with (first | ((with_reducible refine gate_callee (f := 156) rfl ?_);refine goesL_ (some 6) rfl rfl Tryz.func156 (by kernel_rfl) rfl #[.int .i64 a0] rfl (by (try simp only [List.map_toArray,List.map_cons,List.map_nil]);first | done | rfl | (simp only [List.length_drop,List.length_take];rfl)) ?_;(refine (cmp_isNaN_int.calls a0 false _ A3.out).mono ?_);rintro e w' ⟨rfl,⟨nd,rfl⟩⟩;refine ⟨_,rfl,?_⟩))
  go_ret
  exact ⟨by first | rfl | (simp;done) | (simp [*];done),by repeat (first | exact Drawn0.refl _ | apply Drawn0.step)⟩
 subst c4
 replace H : ((cmp_isNaN_int.f a1).bind fun t139 => (if t139 = true then (some (decide (a0 < a1))) else (some true))) = some r := by rw [if_pos rfl] at H;exact H
 replace H := obm H
 obtain ⟨t139,A50,H⟩ := H
 replace H : (if t139 = true then (some (decide (a0 < a1))) else (some true)) = some r := H
 have A5 := am A50
 clear A50
 by_cases c6 : t139 = true
 · subst c6
   replace H : (some (decide (a0 < a1))) = some r := by rw [if_pos rfl] at H;exact H
   obtain rfl := Option.some.inj H
   go_enter Tryz.func147,Tryz.ntmps147
   go_wp2_with (first | ((with_reducible refine gate_callee (f := 156) rfl ?_);refine goesL_ (some 6) rfl rfl Tryz.func156 (by kernel_rfl) rfl #[.int .i64 a0] rfl (by (try simp only [List.map_toArray,List.map_cons,List.map_nil]);first | done | rfl | (simp only [List.length_drop,List.length_take];rfl)) ?_;(refine (cmp_isNaN_int.calls a0 true _ A3.out).mono ?_);rintro e w' ⟨rfl,⟨nd,rfl⟩⟩;refine ⟨_,rfl,?_⟩) | (go_at_call 156;(refine (cmp_isNaN_int.calls a1 true _ A5.out).mono ?_);rintro e w' ⟨rfl,⟨nd,rfl⟩⟩))
   go_ret
   exact ⟨by first | rfl | (simp;done) | (simp [*];done),by repeat (first | exact Drawn0.refl _ | apply Drawn0.step)⟩
 · replace c6 := Bool.eq_false_iff.mpr c6
   subst c6
   replace H : (some true) = some r := by rw [if_neg (show ¬ (false = true) by decide)] at H;exact H
   obtain rfl := Option.some.inj H
   go_enter Tryz.func147,Tryz.ntmps147
   go_wp2_with (first | ((with_reducible refine gate_callee (f := 156) rfl ?_);refine goesL_ (some 6) rfl rfl Tryz.func156 (by kernel_rfl) rfl #[.int .i64 a0] rfl (by (try simp only [List.map_toArray,List.map_cons,List.map_nil]);first | done | rfl | (simp only [List.length_drop,List.length_take];rfl)) ?_;(refine (cmp_isNaN_int.calls a0 true _ A3.out).mono ?_);rintro e w' ⟨rfl,⟨nd,rfl⟩⟩;refine ⟨_,rfl,?_⟩) | (go_at_call 156;(refine (cmp_isNaN_int.calls a1 false _ A5.out).mono ?_);rintro e w' ⟨rfl,⟨nd,rfl⟩⟩))
   go_ret
   exact ⟨by first | rfl | (simp;done) | (simp [*];done),by repeat (first | exact Drawn0.refl _ | apply Drawn0.step)⟩
end
end Go.Proofs.YtnnmnhpeblhiiaaGreatDoor.C

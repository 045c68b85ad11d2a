/- A part of the proof: the walks of the functions that it reaches. TIGHT. -/
import Derived.Test.YtnnmnhpeblhiiaaGreatDoorLFound2
import Derived.Test.YtnnmnhpeblhiiaaGreatDoorLFound3
set_option linter.unusedVariables false
set_option linter.unusedSimpArgs false
namespace Go.Proofs.YtnnmnhpeblhiiaaGreatDoor.C
open Go.RowKit Go.Proofs.YtnnmnhpeblhiiaaGreatDoorW.PrintWords Go.Proofs.YtnnmnhpeblhiiaaGreatDoorW.PrintLast Go.Proofs.YtnnmnhpeblhiiaaGreatDoorW.PrintMore
set_option linter.unusedVariables false
set_option linter.unusedSimpArgs false
set_option maxHeartbeats 16000000
set_option maxRecDepth 100000
section
attribute [local go_sem] max2_int min2_int max_two min_two
attribute [local go_sem high] eqA44
mutual
def l4_CastleFound.j0 : Nat → Int → List (S54) → Bool → List (S126) → Int → List (S48) → Int → Int → Int → Int → Option (Bool)
 | 0,_,_,_,_,_,_,_,_,_,_ => none
 | k + 1,x1,x2,x59,x625000,x625001,x625002,x625003,x625004,x626000,x626001 => if x59 = true then ((l4_known.f).bind fun t632 => (some t632)) else ((ca_Lowered.f k x625000 x625001 x625002 x625003 x625004 x1 x2).bind fun bt633 => ((q4_With.f x625000 x625001 x625002 x625003 x625004 x626000 x626001).bind fun t646 => ((ca_Shares.f k x625000 x625001 t646 x625003 x625004 x1).bind fun bt649 => (if bt633.2 = 0 then (if bt649.2.2 = 0 then (l4_CastleFound.j1 k x2 bt633.1 bt649.1 ((bt649.1.length : Int) != (x2.length : Int)) x626000 x626001) else (l4_CastleFound.j1 k x2 bt633.1 bt649.1 true x626000 x626001)) else (l4_CastleFound.j1 k x2 bt633.1 bt649.1 true x626000 x626001)))))
def l4_CastleFound.j1 : Nat → List (S54) → List (S44) → List Int → Bool → Int → Int → Option (Bool)
 | 0,_,_,_,_,_,_ => none
 | k + 1,x2,x9,x11,x89,x626000,x626001 => if x89 = true then (none) else (l4_CastleFound.l0 k x2 x9 x11 true 0 x626000 x626001)
def l4_CastleFound.l0 : Nat → List (S54) → List (S44) → List Int → Bool → Int → Int → Int → Option (Bool)
 | 0,_,_,_,_,_,_,_ => none
 | k + 1,x2,x9,x11,x14,x15,x626000,x626001 => if x15 < (x11.length : Int) then (if x14 = true then (if 0 ≤ x15 then (if x15 < (x2.length : Int) then (if (rd x11 x15) ≥ ((rd_T54 x2 x15).f0) then (l4_CastleFound.l0 k x2 x9 x11 (decide ((rd x11 x15) ≤ ((rd_T54 x2 x15).f1))) (wrap64 (x15 + 1)) x626000 x626001) else (l4_CastleFound.l0 k x2 x9 x11 false (wrap64 (x15 + 1)) x626000 x626001)) else (none)) else (none)) else (l4_CastleFound.l0 k x2 x9 x11 false (wrap64 (x15 + 1)) x626000 x626001)) else (l4_CastleFound.l1 k x9 x14 false 0 x626000 x626001)
def l4_CastleFound.l1 : Nat → List (S44) → Bool → Bool → Int → Int → Int → Option (Bool)
 | 0,_,_,_,_,_,_ => none
 | k + 1,x9,x14,x16,x17,x626000,x626001 => if x17 < (x9.length : Int) then (if x16 = true then (l4_CastleFound.l1 k x9 x14 true (wrap64 (x17 + 1)) x626000 x626001) else (if 0 ≤ x17 then (l4_CastleFound.l1 k x9 x14 (((rd_T44 x9 x17).f0) == x626000 && (((rd_T44 x9 x17).f1) == x626001)) (wrap64 (x17 + 1)) x626000 x626001) else (none))) else (if (x16 == x14) = true then ((l4_known.f).bind fun t659 => (some t659)) else (none))
end
def l4_CastleFound.f (k : Nat) (l0_0 : List (S126)) (a0_1 : Int) (l0_2 : List (S48)) (a0_3 : Int) (a0_4 : Int) (a1 : Int) (l2 : List (S54)) (a3_0 : Int) (a3_1 : Int) : Option (Bool) := (l4_short.f l0_0 a0_1 l0_2 a0_3 a0_4).bind fun t626 => (if t626 = true then (if (l2.length : Int) > 8 then (l4_CastleFound.j0 k a1 l2 true l0_0 a0_1 l0_2 a0_3 a0_4 a3_0 a3_1) else ((q4_Basin.f k l0_0 a0_1 l0_2 a0_3 a0_4).bind fun t627 => (if t627 = true then ((q4_Cups.f a1).bind fun t628 => (if t628 = true then ((q4_Counts.f k l0_0 a0_1 l0_2 a0_3 a0_4 l2).bind fun t629 => (if t629 = true then ((q4_Change.f l0_0 a0_1 l0_2 a0_3 a0_4 a3_0 a3_1).bind fun t630 => (if t630 = true then (if 0 ≤ a3_0 then (if a3_0 < (l0_2.length : Int) then (l4_CastleFound.j0 k a1 l2 (a3_1 == ((rd_T48 l0_2 a3_0).f1)) l0_0 a0_1 l0_2 a0_3 a0_4 a3_0 a3_1) else (none)) else (none)) else (l4_CastleFound.j0 k a1 l2 true l0_0 a0_1 l0_2 a0_3 a0_4 a3_0 a3_1))) else (l4_CastleFound.j0 k a1 l2 true l0_0 a0_1 l0_2 a0_3 a0_4 a3_0 a3_1))) else (l4_CastleFound.j0 k a1 l2 true l0_0 a0_1 l0_2 a0_3 a0_4 a3_0 a3_1))) else (l4_CastleFound.j0 k a1 l2 true l0_0 a0_1 l0_2 a0_3 a0_4 a3_0 a3_1)))) else (l4_CastleFound.j0 k a1 l2 true l0_0 a0_1 l0_2 a0_3 a0_4 a3_0 a3_1))
def l4_CastleFound.T1 : Bool × List (List Nat × List Nat) := (true,[([],[]),([0],[0]),([1],[1]),([2,1],[2]),([3],[3]),([4,3],[3,4]),([5,3],[3,5]),([3,6],[3,6]),([7,3],[7]),([8],[8]),([9,8,8],[8,9]),([10,8],[8,10]),([8,11],[8,11]),([12,10],[12]),([13],[13]),([14,13,13],[13,14]),([15,13],[13,15]),([13,16],[13,16]),([17,15],[17]),([18],[18]),([18],[18]),([19,20,18,18],[18,19,20]),([21,18],[18,21]),([18,22],[18,22]),([23,21],[23]),([24],[24]),([24],[24]),([25,26,24,24],[24,25,26]),([27,24],[24,27]),([24,28],[24,28]),([29,27],[29]),([30],[30]),([31,30],[30,31]),([30],[30]),([33,30],[30,33]),([30],[30]),([35,30],[30,35]),([34,36,30],[30,34,36]),([37,30],[30,37]),([38,30],[30,38]),([32,39,30],[30,32,39]),([30,40],[30,40])])
def l4_CastleFound.B1 : List Nat := [0,1,3,7,15,31,63,127,255,511,1023,2047,4095,8191,16383,32767,65535,131071,262143,524287,524287,2097151,4194303,8388607,16777215,33554431,33554431,134217727,268435455,536870911,1073741823,2147483647,4294967295,2147483647,10737418239,2147483647,36507222015,130996502527,268435455999,543313362943,1099511627775,2199023255551]
theorem l4_CastleFound.tab1 : rtab .any (opsOf Tryz.f4 1) = l4_CastleFound.T1 := by kernel_rfl
theorem l4_CastleFound.bits1 : waitsOk l4_CastleFound.T1.2 l4_CastleFound.B1 = true := by kernel_rfl
def l4_CastleFound.T11 : Bool × List (List Nat × List Nat) := (true,[([],[]),([0],[0]),([1],[1]),([1],[1]),([2,3,1],[1,2,3]),([4,1],[1,4]),([1],[1]),([1],[1]),([6,7,1],[1,6,7]),([8,1],[1,8]),([9,1],[1,9]),([5,10,1],[1,5,10]),([1,11],[1,11]),([12,1],[12]),([13],[13]),([13],[13]),([14,15,13],[13,14,15]),([16,13],[13,16]),([13],[13]),([13],[13]),([18,19,13],[13,18,19]),([20,13],[13,20]),([21,13],[13,21]),([17,22,13],[13,17,22]),([13,23],[13,23]),([24,13,0,1,2,3,4,5,6,7,8,9,10,11,12,13,14,15,16,17,18,19,20,21,22,23,24],[0,24])])
def l4_CastleFound.B11 : List Nat := [0,1,3,3,15,31,3,3,195,451,963,2047,4095,8191,16383,16383,65535,131071,16383,16383,802815,1851391,3948543,8388607,16777215,33554431]
theorem l4_CastleFound.tab11 : rtab .any (opsOf Tryz.f4 11) = l4_CastleFound.T11 := by kernel_rfl
theorem l4_CastleFound.bits11 : waitsOk l4_CastleFound.T11.2 l4_CastleFound.B11 = true := by kernel_rfl
def l4_CastleFound.T16 : Bool × List (List Nat × List Nat) := (true,[([],[]),([0],[0]),([1],[1]),([1],[1]),([2,3,1],[1,2,3]),([4,1],[1,4]),([1],[1]),([5,6,1],[1,5,6]),([1,7],[1,7]),([8,1,0,1,2,3,4,5,6,7,8],[0,8])])
def l4_CastleFound.B16 : List Nat := [0,1,3,3,15,31,3,127,255,511]
theorem l4_CastleFound.tab16 : rtab .any (opsOf Tryz.f4 16) = l4_CastleFound.T16 := by kernel_rfl
theorem l4_CastleFound.bits16 : waitsOk l4_CastleFound.T16.2 l4_CastleFound.B16 = true := by kernel_rfl
theorem l4_CastleFound.j1_dead {k_ : Nat} {y0_} {y1_} {y2_} {y4_} {y5_} {r_ : Bool} : l4_CastleFound.j1 k_ y0_ y1_ y2_ true y4_ y5_ ≠ some r_ := by cases k_ <;> simp [l4_CastleFound.j1]
theorem l4_CastleFound.calls (k : Nat) (A0_0 : Option Addr) (c0_0 : Nat) (l0_0 : List (S126)) (a0_1 : Int) (A0_2 : Option Addr) (c0_2 : Nat) (l0_2 : List (S48)) (a0_3 : Int) (a0_4 : Int) (a1 : Int) (A2 : Option Addr) (c2 : Nat) (l2 : List (S54)) (a3_0 : Int) (a3_1 : Int) (r : Bool) (w : World) (hr0_0 : Kd.C k126 w A0_0 l0_0.length l0_0) (hc0_0 : l0_0.length ≤ c0_0) (hr0_2 : Kd.C k48 w A0_2 l0_2.length l0_2) (hc0_2 : l0_2.length ≤ c0_2) (hr2 : Kd.C k54 w A2 l2.length l2) (hc2 : l2.length ≤ c2) (h : l4_CastleFound.f k l0_0 a0_1 l0_2 a0_3 a0_4 a1 l2 a3_0 a3_1 = some r) :
 Calls Tryz.prog 4 #[.agg #[.slice A0_0 l0_0.length c0_0,.int .i64 a0_1,.slice A0_2 l0_2.length c0_2,.int .i64 a0_3,.int .i64 a0_4],.int .i64 a1,.slice A2 l2.length c2,.agg #[.int .i64 a3_0,.int .i64 a3_1]] w fun e w' => e = .returned (.bool r) ∧ Below w.heap.size w w' := by
 have hu27 := Tryz.underlying27
 have hu44 := Tryz.underlying44
 have HR0_0 := am hr0_0
 have HC0_0 := am hc0_0
 clear hr0_0 hc0_0
 have HR0_2 := am hr0_2
 have HC0_2 := am hc0_2
 clear hr0_2 hc0_2
 have HR2 := am hr2
 have HC2 := am hc2
 clear hr2 hc2
 have HB := am (Below.refl w.heap.size w)
 have H : ((l4_short.f l0_0 a0_1 l0_2 a0_3 a0_4).bind fun t626 => (if t626 = true then (if (l2.length : Int) > 8 then (l4_CastleFound.j0 k a1 l2 true l0_0 a0_1 l0_2 a0_3 a0_4 a3_0 a3_1) else ((q4_Basin.f k l0_0 a0_1 l0_2 a0_3 a0_4).bind fun t627 => (if t627 = true then ((q4_Cups.f a1).bind fun t628 => (if t628 = true then ((q4_Counts.f k l0_0 a0_1 l0_2 a0_3 a0_4 l2).bind fun t629 => (if t629 = true then ((q4_Change.f l0_0 a0_1 l0_2 a0_3 a0_4 a3_0 a3_1).bind fun t630 => (if t630 = true then (if 0 ≤ a3_0 then (if a3_0 < (l0_2.length : Int) then (l4_CastleFound.j0 k a1 l2 (a3_1 == ((rd_T48 l0_2 a3_0).f1)) l0_0 a0_1 l0_2 a0_3 a0_4 a3_0 a3_1) else (none)) else (none)) else (l4_CastleFound.j0 k a1 l2 true l0_0 a0_1 l0_2 a0_3 a0_4 a3_0 a3_1))) else (l4_CastleFound.j0 k a1 l2 true l0_0 a0_1 l0_2 a0_3 a0_4 a3_0 a3_1))) else (l4_CastleFound.j0 k a1 l2 true l0_0 a0_1 l0_2 a0_3 a0_4 a3_0 a3_1))) else (l4_CastleFound.j0 k a1 l2 true l0_0 a0_1 l0_2 a0_3 a0_4 a3_0 a3_1)))) else (l4_CastleFound.j0 k a1 l2 true l0_0 a0_1 l0_2 a0_3 a0_4 a3_0 a3_1))) = some r := h
 clear h
 have HC5 := am H
 clear H
 go_enter Tryz.func4,Tryz.ntmps4
 go_upto_region 1 with (first | ((refine gate_dst (N := 4) rfl ?_);(try (refine gate_guard (by rfl) ?_;dsimp only));refine box_event rfl (N := 4) rfl (cs := #[.slice A0_0 l0_0.length c0_0,.int .i64 a0_1,.slice A0_2 l0_2.length c0_2,.int .i64 a0_3,.int .i64 a0_4]) (t := 27) ?hr ?_;(case hr => go_simp;try rfl);intro gb624 hg w6 hbox hb;have BK624 := am (hbox);have GW624 := am (ge_new (HB.out) hg);have GE624 := am (ge_new (HB.out) hg);replace HB := am (below_step (HB.out) hb);clear hb hbox hg) | ((refine gate_dst (N := 7) rfl ?_);(try (refine gate_guard (by rfl) ?_;dsimp only));refine box_event rfl (N := 7) rfl (cs := #[.int .i64 a3_0,.int .i64 a3_1]) (t := 44) ?hr ?_;(case hr => go_simp;try rfl);intro gb625 hg w7 hbox hb;have BK625 := am (hbox);have GW625 := am (ge_new (HB.out) hg);have GE625 := am (ge_new (HB.out) hg);have NB624_625 := am (ne_new BK624.out hg);have NB625_624 := am (ne_new2 BK624.out hg);replace BK624 := (kmv hb BK624);replace HB := am (below_step (HB.out) hb);clear hb hbox hg))
 (try simp only [Act.put,List.setIfInBounds_toArray,List.set_cons_zero,List.set_cons_succ])
 go_cut [59] (fun v59 wc => ∃ (kq : Nat) (x59_4 : Bool),v59 = .bool x59_4 ∧ Aside0 (l4_CastleFound.j0 kq a1 l2 x59_4 l0_0 a0_1 l0_2 a0_3 a0_4 a3_0 a3_1 = some r) ∧ Aside0 (kq ≤ k) ∧ Aside0 (wc.heap[gb624]? = some (.cells #[(.slice A0_0 l0_0.length c0_0),.int .i64 a0_1,(.slice A0_2 l0_2.length c0_2),.int .i64 a0_3,.int .i64 a0_4] 27 (0,0))) ∧ Aside0 (wc.heap[gb625]? = some (.cells #[.int .i64 a3_0,.int .i64 a3_1] 44 (0,0))) ∧ Aside0 (Below w.heap.size w wc))
 case first =>
  as_aux_lemma =>
   have H := HC5.out
   clear HC5
   replace H := obm H
   obtain ⟨t626,A80,H⟩ := H
   replace H : (if t626 = true then (if (l2.length : Int) > 8 then (l4_CastleFound.j0 k a1 l2 true l0_0 a0_1 l0_2 a0_3 a0_4 a3_0 a3_1) else ((q4_Basin.f k l0_0 a0_1 l0_2 a0_3 a0_4).bind fun t627 => (if t627 = true then ((q4_Cups.f a1).bind fun t628 => (if t628 = true then ((q4_Counts.f k l0_0 a0_1 l0_2 a0_3 a0_4 l2).bind fun t629 => (if t629 = true then ((q4_Change.f l0_0 a0_1 l0_2 a0_3 a0_4 a3_0 a3_1).bind fun t630 => (if t630 = true then (if 0 ≤ a3_0 then (if a3_0 < (l0_2.length : Int) then (l4_CastleFound.j0 k a1 l2 (a3_1 == ((rd_T48 l0_2 a3_0).f1)) l0_0 a0_1 l0_2 a0_3 a0_4 a3_0 a3_1) else (none)) else (none)) else (l4_CastleFound.j0 k a1 l2 true l0_0 a0_1 l0_2 a0_3 a0_4 a3_0 a3_1))) else (l4_CastleFound.j0 k a1 l2 true l0_0 a0_1 l0_2 a0_3 a0_4 a3_0 a3_1))) else (l4_CastleFound.j0 k a1 l2 true l0_0 a0_1 l0_2 a0_3 a0_4 a3_0 a3_1))) else (l4_CastleFound.j0 k a1 l2 true l0_0 a0_1 l0_2 a0_3 a0_4 a3_0 a3_1)))) else (l4_CastleFound.j0 k a1 l2 true l0_0 a0_1 l0_2 a0_3 a0_4 a3_0 a3_1)) = some r := H
   have A8 := am A80
   clear A80
   by_cases c9 : t626 = true
   case neg =>
    as_aux_lemma =>
     replace c9 := Bool.eq_false_iff.mpr c9
     subst c9
     replace H : (l4_CastleFound.j0 k a1 l2 true l0_0 a0_1 l0_2 a0_3 a0_4 a3_0 a3_1) = some r := by rw [if_neg (show ¬ (false = true) by decide)] at H;exact H
     replace H' := am H
     try go_wp2
     replace BK624 := am (blk_drew BK624.out)
     replace BK625 := am (blk_drew BK625.out)
     replace HB := am (below_drew1 HB.out)
     refine start_ (n := 42) (S := fun w' => w'.cell? ⟨gb624,0,none⟩ = some (.slice A0_0 l0_0.length c0_0) ∧ w'.cell? ⟨gb624,1,none⟩ = some (.int .i64 a0_1) ∧ w'.cell? ⟨gb624,2,none⟩ = some (.slice A0_2 l0_2.length c0_2) ∧ w'.cell? ⟨gb624,3,none⟩ = some (.int .i64 a0_3) ∧ w'.cell? ⟨gb624,4,none⟩ = some (.int .i64 a0_4)) (ds := []) (ba 42 0) (by kernel_rfl) rfl rfl ⟨(blk_cell BK624.out 0).trans rfl,(blk_cell BK624.out 1).trans rfl,(blk_cell BK624.out 2).trans rfl,(blk_cell BK624.out 3).trans rfl,(blk_cell BK624.out 4).trans rfl⟩ (fun hHeld => ?_);refine with_tabW l4_CastleFound.tab1 l4_CastleFound.bits1 (fun HT_ HW_ => ?_)
     generalize w7.drew = w43 at BK624 BK625 HB hHeld ⊢
     refine take_ (i := 0) (N := some 18) (v := ?_) (a' := ?_) (ba 42 1) rfl rfl (take_ofW HT_.out HW_.out (by kernel_rfl)) (fun _ _ _ h => h) (Or.inl ⟨by rfl,?_⟩) hHeld ?_ ?_
     rotate_left
     · rintro w' ⟨s0,s1,s2,s3,s4⟩
       go_simp
       with_reducible rfl
     rotate_left
     · simp only [Act.put,NRM]
       rfl
     refine one_ (i := 1) (N := some 19) (ba 42 3) rfl rfl (one_of HT_.out (by kernel_rfl)) (by decide) (fun K hK => ?_)
     refine goes_ Tryz.func14 (by kernel_rfl) rfl #[.agg #[.slice A0_0 l0_0.length c0_0,.int .i64 a0_1,.slice A0_2 l0_2.length c0_2,.int .i64 a0_3,.int .i64 a0_4]] (by rfl) rfl rfl (by (try simp only [List.map_toArray,List.map_cons,List.map_nil]);first | done | rfl | (simp only [List.length_drop,List.length_take];rfl)) ?_
     with_reducible refine (l4_short.calls _ _ l0_0 a0_1 _ _ l0_2 a0_3 a0_4 false _ ?side1 ?side2 ?side3 ?side4 A8.out).mono ?_
     (case side1 => exact kC HR0_0.out HB.out)
     (case side2 => exact HC0_0.out)
     (case side3 => exact kC HR0_2.out HB.out)
     (case side4 => exact HC0_2.out)
     rintro e w44 ⟨rfl,hb⟩
     refine ⟨_,rfl,?_⟩
     replace BK624 := (kmv hb BK624)
     replace BK625 := (kmv hb BK625)
     replace HB := am (below_step (HB.out) hb)
     (try clear hb)
     (try clear hb2)
     (try clear hk)
     (try clear hi)
     refine hK.out _ _ ⟨(blk_cell BK624.out 0).trans rfl,(blk_cell BK624.out 1).trans rfl,(blk_cell BK624.out 2).trans rfl,(blk_cell BK624.out 3).trans rfl,(blk_cell BK624.out 4).trans rfl⟩ (fun hHeld => ?_)
     clear hK K
     refine norm_ (a' := ?_) ?_ ?_
     rotate_left
     · show Act.put _ (some 19) _ = _
       simp only [Act.put,NRM]
       rfl
     refine pure_ (i := 2) (N := some 20) (v := ?_) (a' := ?_) (ba 42 7) rfl rfl (any_of HT_.out (by kernel_rfl)) (fun _ _ _ h => h) (Or.inl ⟨by rfl,?_⟩) ?_ ?_
     rotate_left
     · intro w'
       go_simp
       with_reducible rfl
     rotate_left
     · simp only [Act.put,NRM]
       rfl
     refine pure_ (i := 3) (N := some 21) (v := ?_) (a' := ?_) (ba 42 15) rfl rfl (any_of HT_.out (by kernel_rfl)) (fun _ _ _ h => h) (Or.inl ⟨by rfl,?_⟩) ?_ ?_
     rotate_left
     · intro w'
       go_simp
       with_reducible rfl
     rotate_left
     · simp only [Act.put,NRM]
       rfl
     refine pure_ (i := 4) (N := some 22) (v := undef) (a' := ?_) (ba 42 31) rfl rfl (any_of HT_.out (by kernel_rfl)) (fun _ _ _ h => h) (Or.inr ⟨by rfl,rfl⟩) ?_ ?_
     rotate_left
     · simp only [Act.put,NRM]
       rfl
     refine pure_ (i := 5) (N := some 23) (v := undef) (a' := ?_) (ba 42 63) rfl rfl (any_of HT_.out (by kernel_rfl)) (fun _ _ _ h => h) (Or.inr ⟨by rfl,rfl⟩) ?_ ?_
     rotate_left
     · simp only [Act.put,NRM]
       rfl
     refine pure_ (i := 6) (N := some 24) (v := undef) (a' := ?_) (ba 42 127) rfl rfl (any_of HT_.out (by kernel_rfl)) (fun _ _ _ h => h) (Or.inr ⟨by rfl,rfl⟩) ?_ ?_
     rotate_left
     · simp only [Act.put,NRM]
       rfl
     refine pure_ (i := 7) (N := some 25) (v := ?_) (a' := ?_) (ba 42 255) rfl rfl (any_of HT_.out (by kernel_rfl)) (fun _ _ _ h => h) (Or.inl ⟨by rfl,?_⟩) ?_ ?_
     rotate_left
     · intro w'
       go_simp
       with_reducible rfl
     rotate_left
     · simp only [Act.put,NRM]
       rfl
     refine pure_ (i := 8) (N := some 26) (v := ?_) (a' := ?_) (ba 42 511) rfl rfl (any_of HT_.out (by kernel_rfl)) (fun _ _ _ h => h) (Or.inl ⟨by rfl,?_⟩) ?_ ?_
     rotate_left
     · intro w'
       go_simp
       with_reducible rfl
     rotate_left
     · simp only [Act.put,NRM]
       rfl
     refine pure_ (i := 9) (N := some 27) (v := undef) (a' := ?_) (ba 42 1023) rfl rfl (any_of HT_.out (by kernel_rfl)) (fun _ _ _ h => h) (Or.inr ⟨by rfl,rfl⟩) ?_ ?_
     rotate_left
     · simp only [Act.put,NRM]
       rfl
     refine pure_ (i := 10) (N := some 28) (v := undef) (a' := ?_) (ba 42 2047) rfl rfl (any_of HT_.out (by kernel_rfl)) (fun _ _ _ h => h) (Or.inr ⟨by rfl,rfl⟩) ?_ ?_
     rotate_left
     · simp only [Act.put,NRM]
       rfl
     refine pure_ (i := 11) (N := some 29) (v := undef) (a' := ?_) (ba 42 4095) rfl rfl (any_of HT_.out (by kernel_rfl)) (fun _ _ _ h => h) (Or.inr ⟨by rfl,rfl⟩) ?_ ?_
     rotate_left
     · simp only [Act.put,NRM]
       rfl
     refine pure_ (i := 12) (N := some 30) (v := ?_) (a' := ?_) (ba 42 8191) rfl rfl (any_of HT_.out (by kernel_rfl)) (fun _ _ _ h => h) (Or.inl ⟨by rfl,?_⟩) ?_ ?_
     rotate_left
     · intro w'
       go_simp
       with_reducible rfl
     rotate_left
     · simp only [Act.put,NRM]
       rfl
     refine pure_ (i := 13) (N := some 31) (v := ?_) (a' := ?_) (ba 42 16383) rfl rfl (any_of HT_.out (by kernel_rfl)) (fun _ _ _ h => h) (Or.inl ⟨by rfl,?_⟩) ?_ ?_
     rotate_left
     · intro w'
       go_simp
       with_reducible rfl
     rotate_left
     · simp only [Act.put,NRM]
       rfl
     refine pure_ (i := 14) (N := some 32) (v := undef) (a' := ?_) (ba 42 32767) rfl rfl (any_of HT_.out (by kernel_rfl)) (fun _ _ _ h => h) (Or.inr ⟨by rfl,rfl⟩) ?_ ?_
     rotate_left
     · simp only [Act.put,NRM]
       rfl
     refine pure_ (i := 15) (N := some 33) (v := undef) (a' := ?_) (ba 42 65535) rfl rfl (any_of HT_.out (by kernel_rfl)) (fun _ _ _ h => h) (Or.inr ⟨by rfl,rfl⟩) ?_ ?_
     rotate_left
     · simp only [Act.put,NRM]
       rfl
     refine pure_ (i := 16) (N := some 34) (v := undef) (a' := ?_) (ba 42 131071) rfl rfl (any_of HT_.out (by kernel_rfl)) (fun _ _ _ h => h) (Or.inr ⟨by rfl,rfl⟩) ?_ ?_
     rotate_left
     · simp only [Act.put,NRM]
       rfl
     refine pure_ (i := 17) (N := some 35) (v := ?_) (a' := ?_) (ba 42 262143) rfl rfl (any_of HT_.out (by kernel_rfl)) (fun _ _ _ h => h) (Or.inl ⟨by rfl,?_⟩) ?_ ?_
     rotate_left
     · intro w'
       go_simp
       with_reducible rfl
     rotate_left
     · simp only [Act.put,NRM]
       rfl
     refine pure_ (i := 18) (N := some 36) (v := ?_) (a' := ?_) (ba 42 524287) rfl rfl (any_of HT_.out (by kernel_rfl)) (fun _ _ _ h => h) (Or.inl ⟨by rfl,?_⟩) ?_ ?_
     rotate_left
     · intro w'
       go_simp
       with_reducible rfl
     rotate_left
     · simp only [Act.put,NRM]
       rfl
     refine pure_ (i := 19) (N := some 37) (v := undef) (a' := ?_) (ba 42 1048575) rfl rfl (any_of HT_.out (by kernel_rfl)) (fun _ _ _ h => h) (Or.inr ⟨by rfl,rfl⟩) ?_ ?_
     rotate_left
     · simp only [Act.put,NRM]
       rfl
     refine pure_ (i := 20) (N := some 38) (v := undef) (a' := ?_) (ba 42 2097151) rfl rfl (any_of HT_.out (by kernel_rfl)) (fun _ _ _ h => h) (Or.inr ⟨by rfl,rfl⟩) ?_ ?_
     rotate_left
     · simp only [Act.put,NRM]
       rfl
     refine pure_ (i := 21) (N := some 39) (v := undef) (a' := ?_) (ba 42 4194303) rfl rfl (any_of HT_.out (by kernel_rfl)) (fun _ _ _ h => h) (Or.inr ⟨by rfl,rfl⟩) ?_ ?_
     rotate_left
     · simp only [Act.put,NRM]
       rfl
     refine pure_ (i := 22) (N := some 40) (v := undef) (a' := ?_) (ba 42 8388607) rfl rfl (any_of HT_.out (by kernel_rfl)) (fun _ _ _ h => h) (Or.inr ⟨by rfl,rfl⟩) ?_ ?_
     rotate_left
     · simp only [Act.put,NRM]
       rfl
     refine pure_ (i := 23) (N := some 41) (v := ?_) (a' := ?_) (ba 42 16777215) rfl rfl (any_of HT_.out (by kernel_rfl)) (fun _ _ _ h => h) (Or.inl ⟨by rfl,?_⟩) ?_ ?_
     rotate_left
     · intro w'
       go_simp
       with_reducible rfl
     rotate_left
     · simp only [Act.put,NRM]
       rfl
     refine pure_ (i := 24) (N := some 42) (v := ?_) (a' := ?_) (ba 42 33554431) rfl rfl (any_of HT_.out (by kernel_rfl)) (fun _ _ _ h => h) (Or.inl ⟨by rfl,?_⟩) ?_ ?_
     rotate_left
     · intro w'
       go_simp
       with_reducible rfl
     rotate_left
     · simp only [Act.put,NRM]
       rfl
     refine pure_ (i := 25) (N := some 43) (v := undef) (a' := ?_) (ba 42 67108863) rfl rfl (any_of HT_.out (by kernel_rfl)) (fun _ _ _ h => h) (Or.inr ⟨by rfl,rfl⟩) ?_ ?_
     rotate_left
     · simp only [Act.put,NRM]
       rfl
     refine pure_ (i := 26) (N := some 44) (v := undef) (a' := ?_) (ba 42 134217727) rfl rfl (any_of HT_.out (by kernel_rfl)) (fun _ _ _ h => h) (Or.inr ⟨by rfl,rfl⟩) ?_ ?_
     rotate_left
     · simp only [Act.put,NRM]
       rfl
     refine pure_ (i := 27) (N := some 45) (v := undef) (a' := ?_) (ba 42 268435455) rfl rfl (any_of HT_.out (by kernel_rfl)) (fun _ _ _ h => h) (Or.inr ⟨by rfl,rfl⟩) ?_ ?_
     rotate_left
     · simp only [Act.put,NRM]
       rfl
     refine pure_ (i := 28) (N := some 46) (v := undef) (a' := ?_) (ba 42 536870911) rfl rfl (any_of HT_.out (by kernel_rfl)) (fun _ _ _ h => h) (Or.inr ⟨by rfl,rfl⟩) ?_ ?_
     rotate_left
     · simp only [Act.put,NRM]
       rfl
     refine pure_ (i := 29) (N := some 47) (v := ?_) (a' := ?_) (ba 42 1073741823) rfl rfl (any_of HT_.out (by kernel_rfl)) (fun _ _ _ h => h) (Or.inl ⟨by rfl,?_⟩) ?_ ?_
     rotate_left
     · intro w'
       go_simp
       with_reducible rfl
     rotate_left
     · simp only [Act.put,NRM]
       rfl
     refine pure_ (i := 30) (N := some 48) (v := ?_) (a' := ?_) (ba 42 2147483647) rfl rfl (any_of HT_.out (by kernel_rfl)) (fun _ _ _ h => h) (Or.inl ⟨by rfl,?_⟩) ?_ ?_
     rotate_left
     · intro w'
       go_simp
       with_reducible rfl
     rotate_left
     · simp only [Act.put,NRM]
       rfl
     refine pure_ (i := 31) (N := some 49) (v := undef) (a' := ?_) (ba 42 4294967295) rfl rfl (any_of HT_.out (by kernel_rfl)) (fun _ _ _ h => h) (Or.inr ⟨by rfl,rfl⟩) ?_ ?_
     rotate_left
     · simp only [Act.put,NRM]
       rfl
     refine pure_ (i := 32) (N := some 50) (v := undef) (a' := ?_) (ba 42 8589934591) rfl rfl (any_of HT_.out (by kernel_rfl)) (fun _ _ _ h => h) (Or.inr ⟨by rfl,rfl⟩) ?_ ?_
     rotate_left
     · simp only [Act.put,NRM]
       rfl
     refine pure_ (i := 33) (N := some 51) (v := undef) (a' := ?_) (ba 42 17179869183) rfl rfl (any_of HT_.out (by kernel_rfl)) (fun _ _ _ h => h) (Or.inr ⟨by rfl,rfl⟩) ?_ ?_
     rotate_left
     · simp only [Act.put,NRM]
       rfl
     refine pure_ (i := 34) (N := some 52) (v := undef) (a' := ?_) (ba 42 34359738367) rfl rfl (any_of HT_.out (by kernel_rfl)) (fun _ _ _ h => h) (Or.inr ⟨by rfl,rfl⟩) ?_ ?_
     rotate_left
     · simp only [Act.put,NRM]
       rfl
     refine pure_ (i := 35) (N := some 53) (v := undef) (a' := ?_) (ba 42 68719476735) rfl rfl (any_of HT_.out (by kernel_rfl)) (fun _ _ _ h => h) (Or.inr ⟨by rfl,rfl⟩) ?_ ?_
     rotate_left
     · simp only [Act.put,NRM]
       rfl
     refine pure_ (i := 36) (N := some 54) (v := undef) (a' := ?_) (ba 42 137438953471) rfl rfl (any_of HT_.out (by kernel_rfl)) (fun _ _ _ h => h) (Or.inr ⟨by rfl,rfl⟩) ?_ ?_
     rotate_left
     · simp only [Act.put,NRM]
       rfl
     refine pure_ (i := 37) (N := some 55) (v := undef) (a' := ?_) (ba 42 274877906943) rfl rfl (any_of HT_.out (by kernel_rfl)) (fun _ _ _ h => h) (Or.inr ⟨by rfl,rfl⟩) ?_ ?_
     rotate_left
     · simp only [Act.put,NRM]
       rfl
     refine pure_ (i := 38) (N := some 56) (v := undef) (a' := ?_) (ba 42 549755813887) rfl rfl (any_of HT_.out (by kernel_rfl)) (fun _ _ _ h => h) (Or.inr ⟨by rfl,rfl⟩) ?_ ?_
     rotate_left
     · simp only [Act.put,NRM]
       rfl
     refine pure_ (i := 39) (N := some 57) (v := undef) (a' := ?_) (ba 42 1099511627775) rfl rfl (any_of HT_.out (by kernel_rfl)) (fun _ _ _ h => h) (Or.inr ⟨by rfl,rfl⟩) ?_ ?_
     rotate_left
     · simp only [Act.put,NRM]
       rfl
     refine pure_ (i := 40) (N := some 58) (v := undef) (a' := ?_) (ba 42 2199023255551) rfl rfl (any_of HT_.out (by kernel_rfl)) (fun _ _ _ h => h) (Or.inr ⟨by rfl,rfl⟩) ?_ ?_
     rotate_left
     · simp only [Act.put,NRM]
       rfl
     refine pure_ (i := 41) (N := some 59) (v := ?_) (a' := ?_) (ba 42 4398046511103) rfl rfl (any_of HT_.out (by kernel_rfl)) (fun _ _ _ h => h) (Or.inl ⟨by rfl,?_⟩) ?_ ?_
     rotate_left
     · intro w'
       go_simp
       with_reducible rfl
     rotate_left
     · simp only [Act.put,NRM]
       rfl
     refine done_ (done_of HT_.out (by kernel_rfl)) ?_
     try go_wp2
     go_meet
     case rel => exact ⟨_,(true),(by first | rfl | (simp;done) | (simp [*];done)),H',⟨by first | omega | exact Nat.le_refl _⟩,⟨BK624.out⟩,⟨BK625.out⟩,⟨HB.out⟩⟩
   as_aux_lemma =>
    subst c9
    replace H : (if (l2.length : Int) > 8 then (l4_CastleFound.j0 k a1 l2 true l0_0 a0_1 l0_2 a0_3 a0_4 a3_0 a3_1) else ((q4_Basin.f k l0_0 a0_1 l0_2 a0_3 a0_4).bind fun t627 => (if t627 = true then ((q4_Cups.f a1).bind fun t628 => (if t628 = true then ((q4_Counts.f k l0_0 a0_1 l0_2 a0_3 a0_4 l2).bind fun t629 => (if t629 = true then ((q4_Change.f l0_0 a0_1 l0_2 a0_3 a0_4 a3_0 a3_1).bind fun t630 => (if t630 = true then (if 0 ≤ a3_0 then (if a3_0 < (l0_2.length : Int) then (l4_CastleFound.j0 k a1 l2 (a3_1 == ((rd_T48 l0_2 a3_0).f1)) l0_0 a0_1 l0_2 a0_3 a0_4 a3_0 a3_1) else (none)) else (none)) else (l4_CastleFound.j0 k a1 l2 true l0_0 a0_1 l0_2 a0_3 a0_4 a3_0 a3_1))) else (l4_CastleFound.j0 k a1 l2 true l0_0 a0_1 l0_2 a0_3 a0_4 a3_0 a3_1))) else (l4_CastleFound.j0 k a1 l2 true l0_0 a0_1 l0_2 a0_3 a0_4 a3_0 a3_1))) else (l4_CastleFound.j0 k a1 l2 true l0_0 a0_1 l0_2 a0_3 a0_4 a3_0 a3_1)))) = some r := by rw [if_pos rfl] at H;exact H
    by_cases c10 : (l2.length : Int) > 8
    · as_aux_lemma =>
       rw [if_pos c10] at H
       have c10b0 : decide (8 < (l2.length : Int)) = true := decide_eq_true c10
       have c10b1 : decide (8 < l2.length) = true := decide_eq_true (by omega)
       clear c10
       (first | rw [c10b0] | (simp only [i64_w,i32_w];rw [c10b0]) | skip)
       replace H' := am H
       try go_wp2
       replace BK624 := am (blk_drew BK624.out)
       replace BK625 := am (blk_drew BK625.out)
       replace HB := am (below_drew1 HB.out)
       refine start_ (n := 42) (S := fun w' => w'.cell? ⟨gb624,0,none⟩ = some (.slice A0_0 l0_0.length c0_0) ∧ w'.cell? ⟨gb624,1,none⟩ = some (.int .i64 a0_1) ∧ w'.cell? ⟨gb624,2,none⟩ = some (.slice A0_2 l0_2.length c0_2) ∧ w'.cell? ⟨gb624,3,none⟩ = some (.int .i64 a0_3) ∧ w'.cell? ⟨gb624,4,none⟩ = some (.int .i64 a0_4)) (ds := []) (ba 42 0) (by kernel_rfl) rfl rfl ⟨(blk_cell BK624.out 0).trans rfl,(blk_cell BK624.out 1).trans rfl,(blk_cell BK624.out 2).trans rfl,(blk_cell BK624.out 3).trans rfl,(blk_cell BK624.out 4).trans rfl⟩ (fun hHeld => ?_);refine with_tabW l4_CastleFound.tab1 l4_CastleFound.bits1 (fun HT_ HW_ => ?_)
       generalize w7.drew = w11 at BK624 BK625 HB hHeld ⊢
       refine take_ (i := 0) (N := some 18) (v := ?_) (a' := ?_) (ba 42 1) rfl rfl (take_ofW HT_.out HW_.out (by kernel_rfl)) (fun _ _ _ h => h) (Or.inl ⟨by rfl,?_⟩) hHeld ?_ ?_
       rotate_left
       · rintro w' ⟨s0,s1,s2,s3,s4⟩
         go_simp
         with_reducible rfl
       rotate_left
       · simp only [Act.put,NRM]
         rfl
       refine one_ (i := 1) (N := some 19) (ba 42 3) rfl rfl (one_of HT_.out (by kernel_rfl)) (by decide) (fun K hK => ?_)
       refine goes_ Tryz.func14 (by kernel_rfl) rfl #[.agg #[.slice A0_0 l0_0.length c0_0,.int .i64 a0_1,.slice A0_2 l0_2.length c0_2,.int .i64 a0_3,.int .i64 a0_4]] (by rfl) rfl rfl (by (try simp only [List.map_toArray,List.map_cons,List.map_nil]);first | done | rfl | (simp only [List.length_drop,List.length_take];rfl)) ?_
       with_reducible refine (l4_short.calls _ _ l0_0 a0_1 _ _ l0_2 a0_3 a0_4 true _ ?side1 ?side2 ?side3 ?side4 A8.out).mono ?_
       (case side1 => exact kC HR0_0.out HB.out)
       (case side2 => exact HC0_0.out)
       (case side3 => exact kC HR0_2.out HB.out)
       (case side4 => exact HC0_2.out)
       rintro e w12 ⟨rfl,hb⟩
       refine ⟨_,rfl,?_⟩
       replace BK624 := (kmv hb BK624)
       replace BK625 := (kmv hb BK625)
       replace HB := am (below_step (HB.out) hb)
       (try clear hb)
       (try clear hb2)
       (try clear hk)
       (try clear hi)
       refine hK.out _ _ ⟨(blk_cell BK624.out 0).trans rfl,(blk_cell BK624.out 1).trans rfl,(blk_cell BK624.out 2).trans rfl,(blk_cell BK624.out 3).trans rfl,(blk_cell BK624.out 4).trans rfl⟩ (fun hHeld => ?_)
       clear hK K
       refine norm_ (a' := ?_) ?_ ?_
       rotate_left
       · show Act.put _ (some 19) _ = _
         simp only [Act.put,NRM]
         rfl
       refine pure_ (i := 2) (N := some 20) (v := ?_) (a' := ?_) (ba 42 7) rfl rfl (any_of HT_.out (by kernel_rfl)) (fun _ _ _ h => h) (Or.inl ⟨by rfl,?_⟩) ?_ ?_
       rotate_left
       · intro w'
         go_simp
         with_reducible rfl
       rotate_left
       · simp only [Act.put,NRM]
         rfl
       refine pure_ (i := 3) (N := some 21) (v := ?_) (a' := ?_) (ba 42 15) rfl rfl (any_of HT_.out (by kernel_rfl)) (fun _ _ _ h => h) (Or.inl ⟨by rfl,?_⟩) ?_ ?_
       rotate_left
       · intro w'
         go_simp
         with_reducible rfl
       rotate_left
       · simp only [Act.put,NRM]
         rfl
       refine pure_ (i := 4) (N := some 22) (v := ?_) (a' := ?_) (ba 42 31) rfl rfl (any_of HT_.out (by kernel_rfl)) (fun _ _ _ h => h) (Or.inl ⟨by rfl,?_⟩) ?_ ?_
       rotate_left
       · intro w'
         go_simp
         with_reducible rfl
       rotate_left
       · simp only [Act.put,NRM]
         rfl
       refine pure_ (i := 5) (N := some 23) (v := ?_) (a' := ?_) (ba 42 63) rfl rfl (any_of HT_.out (by kernel_rfl)) (fun _ _ _ h => h) (Or.inl ⟨by rfl,?_⟩) ?_ ?_
       rotate_left
       · intro w'
         go_simp
         with_reducible rfl
       rotate_left
       · simp only [Act.put,NRM]
         rfl
       refine pure_ (i := 6) (N := some 24) (v := ?_) (a' := ?_) (ba 42 127) rfl rfl (any_of HT_.out (by kernel_rfl)) (fun _ _ _ h => h) (Or.inl ⟨by rfl,?_⟩) ?_ ?_
       rotate_left
       · intro w'
         go_simp
         with_reducible rfl
       rotate_left
       · simp only [Act.put,NRM]
         rfl
       refine pure_ (i := 7) (N := some 25) (v := ?_) (a' := ?_) (ba 42 255) rfl rfl (any_of HT_.out (by kernel_rfl)) (fun _ _ _ h => h) (Or.inl ⟨by rfl,?_⟩) ?_ ?_
       rotate_left
       · intro w'
         go_simp
         with_reducible rfl
       rotate_left
       · simp only [Act.put,NRM]
         rfl
       refine pure_ (i := 8) (N := some 26) (v := ?_) (a' := ?_) (ba 42 511) rfl rfl (any_of HT_.out (by kernel_rfl)) (fun _ _ _ h => h) (Or.inl ⟨by rfl,?_⟩) ?_ ?_
       rotate_left
       · intro w'
         go_simp
         with_reducible rfl
       rotate_left
       · simp only [Act.put,NRM]
         rfl
       refine pure_ (i := 9) (N := some 27) (v := undef) (a' := ?_) (ba 42 1023) rfl rfl (any_of HT_.out (by kernel_rfl)) (fun _ _ _ h => h) (Or.inr ⟨by rfl,rfl⟩) ?_ ?_
       rotate_left
       · simp only [Act.put,NRM]
         rfl
       refine pure_ (i := 10) (N := some 28) (v := undef) (a' := ?_) (ba 42 2047) rfl rfl (any_of HT_.out (by kernel_rfl)) (fun _ _ _ h => h) (Or.inr ⟨by rfl,rfl⟩) ?_ ?_
       rotate_left
       · simp only [Act.put,NRM]
         rfl
       refine pure_ (i := 11) (N := some 29) (v := undef) (a' := ?_) (ba 42 4095) rfl rfl (any_of HT_.out (by kernel_rfl)) (fun _ _ _ h => h) (Or.inr ⟨by rfl,rfl⟩) ?_ ?_
       rotate_left
       · simp only [Act.put,NRM]
         rfl
       refine pure_ (i := 12) (N := some 30) (v := ?_) (a' := ?_) (ba 42 8191) rfl rfl (any_of HT_.out (by kernel_rfl)) (fun _ _ _ h => h) (Or.inl ⟨by rfl,?_⟩) ?_ ?_
       rotate_left
       · intro w'
         go_simp
         with_reducible rfl
       rotate_left
       · simp only [Act.put,NRM]
         rfl
       refine pure_ (i := 13) (N := some 31) (v := ?_) (a' := ?_) (ba 42 16383) rfl rfl (any_of HT_.out (by kernel_rfl)) (fun _ _ _ h => h) (Or.inl ⟨by rfl,?_⟩) ?_ ?_
       rotate_left
       · intro w'
         go_simp
         with_reducible rfl
       rotate_left
       · simp only [Act.put,NRM]
         rfl
       refine pure_ (i := 14) (N := some 32) (v := undef) (a' := ?_) (ba 42 32767) rfl rfl (any_of HT_.out (by kernel_rfl)) (fun _ _ _ h => h) (Or.inr ⟨by rfl,rfl⟩) ?_ ?_
       rotate_left
       · simp only [Act.put,NRM]
         rfl
       refine pure_ (i := 15) (N := some 33) (v := undef) (a' := ?_) (ba 42 65535) rfl rfl (any_of HT_.out (by kernel_rfl)) (fun _ _ _ h => h) (Or.inr ⟨by rfl,rfl⟩) ?_ ?_
       rotate_left
       · simp only [Act.put,NRM]
         rfl
       refine pure_ (i := 16) (N := some 34) (v := undef) (a' := ?_) (ba 42 131071) rfl rfl (any_of HT_.out (by kernel_rfl)) (fun _ _ _ h => h) (Or.inr ⟨by rfl,rfl⟩) ?_ ?_
       rotate_left
       · simp only [Act.put,NRM]
         rfl
       refine pure_ (i := 17) (N := some 35) (v := ?_) (a' := ?_) (ba 42 262143) rfl rfl (any_of HT_.out (by kernel_rfl)) (fun _ _ _ h => h) (Or.inl ⟨by rfl,?_⟩) ?_ ?_
       rotate_left
       · intro w'
         go_simp
         with_reducible rfl
       rotate_left
       · simp only [Act.put,NRM]
         rfl
       refine pure_ (i := 18) (N := some 36) (v := ?_) (a' := ?_) (ba 42 524287) rfl rfl (any_of HT_.out (by kernel_rfl)) (fun _ _ _ h => h) (Or.inl ⟨by rfl,?_⟩) ?_ ?_
       rotate_left
       · intro w'
         go_simp
         with_reducible rfl
       rotate_left
       · simp only [Act.put,NRM]
         rfl
       refine pure_ (i := 19) (N := some 37) (v := undef) (a' := ?_) (ba 42 1048575) rfl rfl (any_of HT_.out (by kernel_rfl)) (fun _ _ _ h => h) (Or.inr ⟨by rfl,rfl⟩) ?_ ?_
       rotate_left
       · simp only [Act.put,NRM]
         rfl
       refine pure_ (i := 20) (N := some 38) (v := undef) (a' := ?_) (ba 42 2097151) rfl rfl (any_of HT_.out (by kernel_rfl)) (fun _ _ _ h => h) (Or.inr ⟨by rfl,rfl⟩) ?_ ?_
       rotate_left
       · simp only [Act.put,NRM]
         rfl
       refine pure_ (i := 21) (N := some 39) (v := undef) (a' := ?_) (ba 42 4194303) rfl rfl (any_of HT_.out (by kernel_rfl)) (fun _ _ _ h => h) (Or.inr ⟨by rfl,rfl⟩) ?_ ?_
       rotate_left
       · simp only [Act.put,NRM]
         rfl
       refine pure_ (i := 22) (N := some 40) (v := undef) (a' := ?_) (ba 42 8388607) rfl rfl (any_of HT_.out (by kernel_rfl)) (fun _ _ _ h => h) (Or.inr ⟨by rfl,rfl⟩) ?_ ?_
       rotate_left
       · simp only [Act.put,NRM]
         rfl
       refine pure_ (i := 23) (N := some 41) (v := ?_) (a' := ?_) (ba 42 16777215) rfl rfl (any_of HT_.out (by kernel_rfl)) (fun _ _ _ h => h) (Or.inl ⟨by rfl,?_⟩) ?_ ?_
       rotate_left
       · intro w'
         go_simp
         with_reducible rfl
       rotate_left
       · simp only [Act.put,NRM]
         rfl
       refine pure_ (i := 24) (N := some 42) (v := ?_) (a' := ?_) (ba 42 33554431) rfl rfl (any_of HT_.out (by kernel_rfl)) (fun _ _ _ h => h) (Or.inl ⟨by rfl,?_⟩) ?_ ?_
       rotate_left
       · intro w'
         go_simp
         with_reducible rfl
       rotate_left
       · simp only [Act.put,NRM]
         rfl
       refine pure_ (i := 25) (N := some 43) (v := undef) (a' := ?_) (ba 42 67108863) rfl rfl (any_of HT_.out (by kernel_rfl)) (fun _ _ _ h => h) (Or.inr ⟨by rfl,rfl⟩) ?_ ?_
       rotate_left
       · simp only [Act.put,NRM]
         rfl
       refine pure_ (i := 26) (N := some 44) (v := undef) (a' := ?_) (ba 42 134217727) rfl rfl (any_of HT_.out (by kernel_rfl)) (fun _ _ _ h => h) (Or.inr ⟨by rfl,rfl⟩) ?_ ?_
       rotate_left
       · simp only [Act.put,NRM]
         rfl
       refine pure_ (i := 27) (N := some 45) (v := undef) (a' := ?_) (ba 42 268435455) rfl rfl (any_of HT_.out (by kernel_rfl)) (fun _ _ _ h => h) (Or.inr ⟨by rfl,rfl⟩) ?_ ?_
       rotate_left
       · simp only [Act.put,NRM]
         rfl
       refine pure_ (i := 28) (N := some 46) (v := undef) (a' := ?_) (ba 42 536870911) rfl rfl (any_of HT_.out (by kernel_rfl)) (fun _ _ _ h => h) (Or.inr ⟨by rfl,rfl⟩) ?_ ?_
       rotate_left
       · simp only [Act.put,NRM]
         rfl
       refine pure_ (i := 29) (N := some 47) (v := ?_) (a' := ?_) (ba 42 1073741823) rfl rfl (any_of HT_.out (by kernel_rfl)) (fun _ _ _ h => h) (Or.inl ⟨by rfl,?_⟩) ?_ ?_
       rotate_left
       · intro w'
         go_simp
         with_reducible rfl
       rotate_left
       · simp only [Act.put,NRM]
         rfl
       refine pure_ (i := 30) (N := some 48) (v := ?_) (a' := ?_) (ba 42 2147483647) rfl rfl (any_of HT_.out (by kernel_rfl)) (fun _ _ _ h => h) (Or.inl ⟨by rfl,?_⟩) ?_ ?_
       rotate_left
       · intro w'
         go_simp
         with_reducible rfl
       rotate_left
       · simp only [Act.put,NRM]
         rfl
       refine pure_ (i := 31) (N := some 49) (v := undef) (a' := ?_) (ba 42 4294967295) rfl rfl (any_of HT_.out (by kernel_rfl)) (fun _ _ _ h => h) (Or.inr ⟨by rfl,rfl⟩) ?_ ?_
       rotate_left
       · simp only [Act.put,NRM]
         rfl
       refine pure_ (i := 32) (N := some 50) (v := undef) (a' := ?_) (ba 42 8589934591) rfl rfl (any_of HT_.out (by kernel_rfl)) (fun _ _ _ h => h) (Or.inr ⟨by rfl,rfl⟩) ?_ ?_
       rotate_left
       · simp only [Act.put,NRM]
         rfl
       refine pure_ (i := 33) (N := some 51) (v := undef) (a' := ?_) (ba 42 17179869183) rfl rfl (any_of HT_.out (by kernel_rfl)) (fun _ _ _ h => h) (Or.inr ⟨by rfl,rfl⟩) ?_ ?_
       rotate_left
       · simp only [Act.put,NRM]
         rfl
       refine pure_ (i := 34) (N := some 52) (v := undef) (a' := ?_) (ba 42 34359738367) rfl rfl (any_of HT_.out (by kernel_rfl)) (fun _ _ _ h => h) (Or.inr ⟨by rfl,rfl⟩) ?_ ?_
       rotate_left
       · simp only [Act.put,NRM]
         rfl
       refine pure_ (i := 35) (N := some 53) (v := undef) (a' := ?_) (ba 42 68719476735) rfl rfl (any_of HT_.out (by kernel_rfl)) (fun _ _ _ h => h) (Or.inr ⟨by rfl,rfl⟩) ?_ ?_
       rotate_left
       · simp only [Act.put,NRM]
         rfl
       refine pure_ (i := 36) (N := some 54) (v := undef) (a' := ?_) (ba 42 137438953471) rfl rfl (any_of HT_.out (by kernel_rfl)) (fun _ _ _ h => h) (Or.inr ⟨by rfl,rfl⟩) ?_ ?_
       rotate_left
       · simp only [Act.put,NRM]
         rfl
       refine pure_ (i := 37) (N := some 55) (v := undef) (a' := ?_) (ba 42 274877906943) rfl rfl (any_of HT_.out (by kernel_rfl)) (fun _ _ _ h => h) (Or.inr ⟨by rfl,rfl⟩) ?_ ?_
       rotate_left
       · simp only [Act.put,NRM]
         rfl
       refine pure_ (i := 38) (N := some 56) (v := undef) (a' := ?_) (ba 42 549755813887) rfl rfl (any_of HT_.out (by kernel_rfl)) (fun _ _ _ h => h) (Or.inr ⟨by rfl,rfl⟩) ?_ ?_
       rotate_left
       · simp only [Act.put,NRM]
         rfl
       refine pure_ (i := 39) (N := some 57) (v := undef) (a' := ?_) (ba 42 1099511627775) rfl rfl (any_of HT_.out (by kernel_rfl)) (fun _ _ _ h => h) (Or.inr ⟨by rfl,rfl⟩) ?_ ?_
       rotate_left
       · simp only [Act.put,NRM]
         rfl
       refine pure_ (i := 40) (N := some 58) (v := undef) (a' := ?_) (ba 42 2199023255551) rfl rfl (any_of HT_.out (by kernel_rfl)) (fun _ _ _ h => h) (Or.inr ⟨by rfl,rfl⟩) ?_ ?_
       rotate_left
       · simp only [Act.put,NRM]
         rfl
       refine pure_ (i := 41) (N := some 59) (v := ?_) (a' := ?_) (ba 42 4398046511103) rfl rfl (any_of HT_.out (by kernel_rfl)) (fun _ _ _ h => h) (Or.inl ⟨by rfl,?_⟩) ?_ ?_
       rotate_left
       · intro w'
         go_simp
         with_reducible rfl
       rotate_left
       · simp only [Act.put,NRM]
         rfl
       refine done_ (done_of HT_.out (by kernel_rfl)) ?_
       try go_wp2
       go_meet
       case rel => exact ⟨_,(true),(by first | rfl | (simp;done) | (simp [*];done)),H',⟨by first | omega | exact Nat.le_refl _⟩,⟨BK624.out⟩,⟨BK625.out⟩,⟨HB.out⟩⟩
    · as_aux_lemma =>
       rw [if_neg c10] at H
       have c10b0 : decide (8 < (l2.length : Int)) = false := decide_eq_false c10
       have c10b1 : decide (8 < l2.length) = false := decide_eq_false (by omega)
       clear c10
       (first | rw [c10b0] | (simp only [i64_w,i32_w];rw [c10b0]) | skip)
       replace H := obm H
       obtain ⟨t627,A130,H⟩ := H
       replace H : (if t627 = true then ((q4_Cups.f a1).bind fun t628 => (if t628 = true then ((q4_Counts.f k l0_0 a0_1 l0_2 a0_3 a0_4 l2).bind fun t629 => (if t629 = true then ((q4_Change.f l0_0 a0_1 l0_2 a0_3 a0_4 a3_0 a3_1).bind fun t630 => (if t630 = true then (if 0 ≤ a3_0 then (if a3_0 < (l0_2.length : Int) then (l4_CastleFound.j0 k a1 l2 (a3_1 == ((rd_T48 l0_2 a3_0).f1)) l0_0 a0_1 l0_2 a0_3 a0_4 a3_0 a3_1) else (none)) else (none)) else (l4_CastleFound.j0 k a1 l2 true l0_0 a0_1 l0_2 a0_3 a0_4 a3_0 a3_1))) else (l4_CastleFound.j0 k a1 l2 true l0_0 a0_1 l0_2 a0_3 a0_4 a3_0 a3_1))) else (l4_CastleFound.j0 k a1 l2 true l0_0 a0_1 l0_2 a0_3 a0_4 a3_0 a3_1))) else (l4_CastleFound.j0 k a1 l2 true l0_0 a0_1 l0_2 a0_3 a0_4 a3_0 a3_1)) = some r := H
       have A13 := am A130
       clear A130
       by_cases c14 : t627 = true
       case neg =>
        as_aux_lemma =>
         replace c14 := Bool.eq_false_iff.mpr c14
         subst c14
         replace H : (l4_CastleFound.j0 k a1 l2 true l0_0 a0_1 l0_2 a0_3 a0_4 a3_0 a3_1) = some r := by rw [if_neg (show ¬ (false = true) by decide)] at H;exact H
         replace H' := am H
         try go_wp2
         replace BK624 := am (blk_drew BK624.out)
         replace BK625 := am (blk_drew BK625.out)
         replace HB := am (below_drew1 HB.out)
         refine start_ (n := 42) (S := fun w' => w'.cell? ⟨gb624,0,none⟩ = some (.slice A0_0 l0_0.length c0_0) ∧ w'.cell? ⟨gb624,1,none⟩ = some (.int .i64 a0_1) ∧ w'.cell? ⟨gb624,2,none⟩ = some (.slice A0_2 l0_2.length c0_2) ∧ w'.cell? ⟨gb624,3,none⟩ = some (.int .i64 a0_3) ∧ w'.cell? ⟨gb624,4,none⟩ = some (.int .i64 a0_4)) (ds := []) (ba 42 0) (by kernel_rfl) rfl rfl ⟨(blk_cell BK624.out 0).trans rfl,(blk_cell BK624.out 1).trans rfl,(blk_cell BK624.out 2).trans rfl,(blk_cell BK624.out 3).trans rfl,(blk_cell BK624.out 4).trans rfl⟩ (fun hHeld => ?_);refine with_tabW l4_CastleFound.tab1 l4_CastleFound.bits1 (fun HT_ HW_ => ?_)
         generalize w7.drew = w40 at BK624 BK625 HB hHeld ⊢
         refine take_ (i := 0) (N := some 18) (v := ?_) (a' := ?_) (ba 42 1) rfl rfl (take_ofW HT_.out HW_.out (by kernel_rfl)) (fun _ _ _ h => h) (Or.inl ⟨by rfl,?_⟩) hHeld ?_ ?_
         rotate_left
         · rintro w' ⟨s0,s1,s2,s3,s4⟩
           go_simp
           with_reducible rfl
         rotate_left
         · simp only [Act.put,NRM]
           rfl
         refine one_ (i := 1) (N := some 19) (ba 42 3) rfl rfl (one_of HT_.out (by kernel_rfl)) (by decide) (fun K hK => ?_)
         refine goes_ Tryz.func14 (by kernel_rfl) rfl #[.agg #[.slice A0_0 l0_0.length c0_0,.int .i64 a0_1,.slice A0_2 l0_2.length c0_2,.int .i64 a0_3,.int .i64 a0_4]] (by rfl) rfl rfl (by (try simp only [List.map_toArray,List.map_cons,List.map_nil]);first | done | rfl | (simp only [List.length_drop,List.length_take];rfl)) ?_
         with_reducible refine (l4_short.calls _ _ l0_0 a0_1 _ _ l0_2 a0_3 a0_4 true _ ?side1 ?side2 ?side3 ?side4 A8.out).mono ?_
         (case side1 => exact kC HR0_0.out HB.out)
         (case side2 => exact HC0_0.out)
         (case side3 => exact kC HR0_2.out HB.out)
         (case side4 => exact HC0_2.out)
         rintro e w41 ⟨rfl,hb⟩
         refine ⟨_,rfl,?_⟩
         replace BK624 := (kmv hb BK624)
         replace BK625 := (kmv hb BK625)
         replace HB := am (below_step (HB.out) hb)
         (try clear hb)
         (try clear hb2)
         (try clear hk)
         (try clear hi)
         refine hK.out _ _ ⟨(blk_cell BK624.out 0).trans rfl,(blk_cell BK624.out 1).trans rfl,(blk_cell BK624.out 2).trans rfl,(blk_cell BK624.out 3).trans rfl,(blk_cell BK624.out 4).trans rfl⟩ (fun hHeld => ?_)
         clear hK K
         refine norm_ (a' := ?_) ?_ ?_
         rotate_left
         · show Act.put _ (some 19) _ = _
           simp only [Act.put,NRM]
           rfl
         refine pure_ (i := 2) (N := some 20) (v := ?_) (a' := ?_) (ba 42 7) rfl rfl (any_of HT_.out (by kernel_rfl)) (fun _ _ _ h => h) (Or.inl ⟨by rfl,?_⟩) ?_ ?_
         rotate_left
         · intro w'
           go_simp
           with_reducible rfl
         rotate_left
         · simp only [Act.put,NRM]
           rfl
         refine pure_ (i := 3) (N := some 21) (v := ?_) (a' := ?_) (ba 42 15) rfl rfl (any_of HT_.out (by kernel_rfl)) (fun _ _ _ h => h) (Or.inl ⟨by rfl,?_⟩) ?_ ?_
         rotate_left
         · intro w'
           go_simp
           with_reducible rfl
         rotate_left
         · simp only [Act.put,NRM]
           rfl
         refine pure_ (i := 4) (N := some 22) (v := ?_) (a' := ?_) (ba 42 31) rfl rfl (any_of HT_.out (by kernel_rfl)) (fun _ _ _ h => h) (Or.inl ⟨by rfl,?_⟩) ?_ ?_
         rotate_left
         · intro w'
           go_simp
           with_reducible rfl
         rotate_left
         · simp only [Act.put,NRM]
           rfl
         refine pure_ (i := 5) (N := some 23) (v := ?_) (a' := ?_) (ba 42 63) rfl rfl (any_of HT_.out (by kernel_rfl)) (fun _ _ _ h => h) (Or.inl ⟨by rfl,?_⟩) ?_ ?_
         rotate_left
         · intro w'
           go_simp
           with_reducible rfl
         rotate_left
         · simp only [Act.put,NRM]
           rfl
         refine pure_ (i := 6) (N := some 24) (v := ?_) (a' := ?_) (ba 42 127) rfl rfl (any_of HT_.out (by kernel_rfl)) (fun _ _ _ h => h) (Or.inl ⟨by rfl,?_⟩) ?_ ?_
         rotate_left
         · intro w'
           go_simp
           with_reducible rfl
         rotate_left
         · simp only [Act.put,NRM]
           rfl
         refine pure_ (i := 7) (N := some 25) (v := ?_) (a' := ?_) (ba 42 255) rfl rfl (any_of HT_.out (by kernel_rfl)) (fun _ _ _ h => h) (Or.inl ⟨by rfl,?_⟩) ?_ ?_
         rotate_left
         · intro w'
           go_simp
           with_reducible rfl
         rotate_left
         · simp only [Act.put,NRM]
           rfl
         refine pure_ (i := 8) (N := some 26) (v := ?_) (a' := ?_) (ba 42 511) rfl rfl (any_of HT_.out (by kernel_rfl)) (fun _ _ _ h => h) (Or.inl ⟨by rfl,?_⟩) ?_ ?_
         rotate_left
         · intro w'
           go_simp
           with_reducible rfl
         rotate_left
         · simp only [Act.put,NRM]
           rfl
         refine take_ (i := 9) (N := some 27) (v := ?_) (a' := ?_) (ba 42 1023) rfl rfl (take_ofW HT_.out HW_.out (by kernel_rfl)) (fun _ _ _ h => h) (Or.inl ⟨by rfl,?_⟩) hHeld ?_ ?_
         rotate_left
         · rintro w' ⟨s0,s1,s2,s3,s4⟩
           go_simp
           with_reducible rfl
         rotate_left
         · simp only [Act.put,NRM]
           rfl
         refine one_ (i := 10) (N := some 28) (ba 42 2047) rfl rfl (one_of HT_.out (by kernel_rfl)) (by decide) (fun K hK => ?_)
         refine goes_ Tryz.func15 (by kernel_rfl) rfl #[.agg #[.slice A0_0 l0_0.length c0_0,.int .i64 a0_1,.slice A0_2 l0_2.length c0_2,.int .i64 a0_3,.int .i64 a0_4]] (by rfl) rfl rfl (by (try simp only [List.map_toArray,List.map_cons,List.map_nil]);first | done | rfl | (simp only [List.length_drop,List.length_take];rfl)) ?_
         with_reducible refine (q4_Basin.calls k _ _ l0_0 a0_1 _ _ l0_2 a0_3 a0_4 false _ ?side1 ?side2 ?side3 ?side4 A13.out).mono ?_
         (case side1 => exact kC HR0_0.out HB.out)
         (case side2 => exact HC0_0.out)
         (case side3 => exact kC HR0_2.out HB.out)
         (case side4 => exact HC0_2.out)
         rintro e w42 ⟨rfl,hb⟩
         refine ⟨_,rfl,?_⟩
         replace BK624 := (kmv hb BK624)
         replace BK625 := (kmv hb BK625)
         replace HB := am (below_step (HB.out) hb)
         (try clear hb)
         (try clear hb2)
         (try clear hk)
         (try clear hi)
         refine hK.out _ _ ⟨(blk_cell BK624.out 0).trans rfl,(blk_cell BK624.out 1).trans rfl,(blk_cell BK624.out 2).trans rfl,(blk_cell BK624.out 3).trans rfl,(blk_cell BK624.out 4).trans rfl⟩ (fun hHeld => ?_)
         clear hK K
         refine norm_ (a' := ?_) ?_ ?_
         rotate_left
         · show Act.put _ (some 28) _ = _
           simp only [Act.put,NRM]
           rfl
         refine pure_ (i := 11) (N := some 29) (v := ?_) (a' := ?_) (ba 42 4095) rfl rfl (any_of HT_.out (by kernel_rfl)) (fun _ _ _ h => h) (Or.inl ⟨by rfl,?_⟩) ?_ ?_
         rotate_left
         · intro w'
           go_simp
           with_reducible rfl
         rotate_left
         · simp only [Act.put,NRM]
           rfl
         refine pure_ (i := 12) (N := some 30) (v := ?_) (a' := ?_) (ba 42 8191) rfl rfl (any_of HT_.out (by kernel_rfl)) (fun _ _ _ h => h) (Or.inl ⟨by rfl,?_⟩) ?_ ?_
         rotate_left
         · intro w'
           go_simp
           with_reducible rfl
         rotate_left
         · simp only [Act.put,NRM]
           rfl
         refine pure_ (i := 13) (N := some 31) (v := ?_) (a' := ?_) (ba 42 16383) rfl rfl (any_of HT_.out (by kernel_rfl)) (fun _ _ _ h => h) (Or.inl ⟨by rfl,?_⟩) ?_ ?_
         rotate_left
         · intro w'
           go_simp
           with_reducible rfl
         rotate_left
         · simp only [Act.put,NRM]
           rfl
         refine pure_ (i := 14) (N := some 32) (v := undef) (a' := ?_) (ba 42 32767) rfl rfl (any_of HT_.out (by kernel_rfl)) (fun _ _ _ h => h) (Or.inr ⟨by rfl,rfl⟩) ?_ ?_
         rotate_left
         · simp only [Act.put,NRM]
           rfl
         refine pure_ (i := 15) (N := some 33) (v := undef) (a' := ?_) (ba 42 65535) rfl rfl (any_of HT_.out (by kernel_rfl)) (fun _ _ _ h => h) (Or.inr ⟨by rfl,rfl⟩) ?_ ?_
         rotate_left
         · simp only [Act.put,NRM]
           rfl
         refine pure_ (i := 16) (N := some 34) (v := undef) (a' := ?_) (ba 42 131071) rfl rfl (any_of HT_.out (by kernel_rfl)) (fun _ _ _ h => h) (Or.inr ⟨by rfl,rfl⟩) ?_ ?_
         rotate_left
         · simp only [Act.put,NRM]
           rfl
         refine pure_ (i := 17) (N := some 35) (v := ?_) (a' := ?_) (ba 42 262143) rfl rfl (any_of HT_.out (by kernel_rfl)) (fun _ _ _ h => h) (Or.inl ⟨by rfl,?_⟩) ?_ ?_
         rotate_left
         · intro w'
           go_simp
           with_reducible rfl
         rotate_left
         · simp only [Act.put,NRM]
           rfl
         refine pure_ (i := 18) (N := some 36) (v := ?_) (a' := ?_) (ba 42 524287) rfl rfl (any_of HT_.out (by kernel_rfl)) (fun _ _ _ h => h) (Or.inl ⟨by rfl,?_⟩) ?_ ?_
         rotate_left
         · intro w'
           go_simp
           with_reducible rfl
         rotate_left
         · simp only [Act.put,NRM]
           rfl
         refine pure_ (i := 19) (N := some 37) (v := undef) (a' := ?_) (ba 42 1048575) rfl rfl (any_of HT_.out (by kernel_rfl)) (fun _ _ _ h => h) (Or.inr ⟨by rfl,rfl⟩) ?_ ?_
         rotate_left
         · simp only [Act.put,NRM]
           rfl
         refine pure_ (i := 20) (N := some 38) (v := undef) (a' := ?_) (ba 42 2097151) rfl rfl (any_of HT_.out (by kernel_rfl)) (fun _ _ _ h => h) (Or.inr ⟨by rfl,rfl⟩) ?_ ?_
         rotate_left
         · simp only [Act.put,NRM]
           rfl
         refine pure_ (i := 21) (N := some 39) (v := undef) (a' := ?_) (ba 42 4194303) rfl rfl (any_of HT_.out (by kernel_rfl)) (fun _ _ _ h => h) (Or.inr ⟨by rfl,rfl⟩) ?_ ?_
         rotate_left
         · simp only [Act.put,NRM]
           rfl
         refine pure_ (i := 22) (N := some 40) (v := undef) (a' := ?_) (ba 42 8388607) rfl rfl (any_of HT_.out (by kernel_rfl)) (fun _ _ _ h => h) (Or.inr ⟨by rfl,rfl⟩) ?_ ?_
         rotate_left
         · simp only [Act.put,NRM]
           rfl
         refine pure_ (i := 23) (N := some 41) (v := ?_) (a' := ?_) (ba 42 16777215) rfl rfl (any_of HT_.out (by kernel_rfl)) (fun _ _ _ h => h) (Or.inl ⟨by rfl,?_⟩) ?_ ?_
         rotate_left
         · intro w'
           go_simp
           with_reducible rfl
         rotate_left
         · simp only [Act.put,NRM]
           rfl
         refine pure_ (i := 24) (N := some 42) (v := ?_) (a' := ?_) (ba 42 33554431) rfl rfl (any_of HT_.out (by kernel_rfl)) (fun _ _ _ h => h) (Or.inl ⟨by rfl,?_⟩) ?_ ?_
         rotate_left
         · intro w'
           go_simp
           with_reducible rfl
         rotate_left
         · simp only [Act.put,NRM]
           rfl
         refine pure_ (i := 25) (N := some 43) (v := undef) (a' := ?_) (ba 42 67108863) rfl rfl (any_of HT_.out (by kernel_rfl)) (fun _ _ _ h => h) (Or.inr ⟨by rfl,rfl⟩) ?_ ?_
         rotate_left
         · simp only [Act.put,NRM]
           rfl
         refine pure_ (i := 26) (N := some 44) (v := undef) (a' := ?_) (ba 42 134217727) rfl rfl (any_of HT_.out (by kernel_rfl)) (fun _ _ _ h => h) (Or.inr ⟨by rfl,rfl⟩) ?_ ?_
         rotate_left
         · simp only [Act.put,NRM]
           rfl
         refine pure_ (i := 27) (N := some 45) (v := undef) (a' := ?_) (ba 42 268435455) rfl rfl (any_of HT_.out (by kernel_rfl)) (fun _ _ _ h => h) (Or.inr ⟨by rfl,rfl⟩) ?_ ?_
         rotate_left
         · simp only [Act.put,NRM]
           rfl
         refine pure_ (i := 28) (N := some 46) (v := undef) (a' := ?_) (ba 42 536870911) rfl rfl (any_of HT_.out (by kernel_rfl)) (fun _ _ _ h => h) (Or.inr ⟨by rfl,rfl⟩) ?_ ?_
         rotate_left
         · simp only [Act.put,NRM]
           rfl
         refine pure_ (i := 29) (N := some 47) (v := ?_) (a' := ?_) (ba 42 1073741823) rfl rfl (any_of HT_.out (by kernel_rfl)) (fun _ _ _ h => h) (Or.inl ⟨by rfl,?_⟩) ?_ ?_
         rotate_left
         · intro w'
           go_simp
           with_reducible rfl
         rotate_left
         · simp only [Act.put,NRM]
           rfl
         refine pure_ (i := 30) (N := some 48) (v := ?_) (a' := ?_) (ba 42 2147483647) rfl rfl (any_of HT_.out (by kernel_rfl)) (fun _ _ _ h => h) (Or.inl ⟨by rfl,?_⟩) ?_ ?_
         rotate_left
         · intro w'
           go_simp
           with_reducible rfl
         rotate_left
         · simp only [Act.put,NRM]
           rfl
         refine pure_ (i := 31) (N := some 49) (v := undef) (a' := ?_) (ba 42 4294967295) rfl rfl (any_of HT_.out (by kernel_rfl)) (fun _ _ _ h => h) (Or.inr ⟨by rfl,rfl⟩) ?_ ?_
         rotate_left
         · simp only [Act.put,NRM]
           rfl
         refine pure_ (i := 32) (N := some 50) (v := undef) (a' := ?_) (ba 42 8589934591) rfl rfl (any_of HT_.out (by kernel_rfl)) (fun _ _ _ h => h) (Or.inr ⟨by rfl,rfl⟩) ?_ ?_
         rotate_left
         · simp only [Act.put,NRM]
           rfl
         refine pure_ (i := 33) (N := some 51) (v := undef) (a' := ?_) (ba 42 17179869183) rfl rfl (any_of HT_.out (by kernel_rfl)) (fun _ _ _ h => h) (Or.inr ⟨by rfl,rfl⟩) ?_ ?_
         rotate_left
         · simp only [Act.put,NRM]
           rfl
         refine pure_ (i := 34) (N := some 52) (v := undef) (a' := ?_) (ba 42 34359738367) rfl rfl (any_of HT_.out (by kernel_rfl)) (fun _ _ _ h => h) (Or.inr ⟨by rfl,rfl⟩) ?_ ?_
         rotate_left
         · simp only [Act.put,NRM]
           rfl
         refine pure_ (i := 35) (N := some 53) (v := undef) (a' := ?_) (ba 42 68719476735) rfl rfl (any_of HT_.out (by kernel_rfl)) (fun _ _ _ h => h) (Or.inr ⟨by rfl,rfl⟩) ?_ ?_
         rotate_left
         · simp only [Act.put,NRM]
           rfl
         refine pure_ (i := 36) (N := some 54) (v := undef) (a' := ?_) (ba 42 137438953471) rfl rfl (any_of HT_.out (by kernel_rfl)) (fun _ _ _ h => h) (Or.inr ⟨by rfl,rfl⟩) ?_ ?_
         rotate_left
         · simp only [Act.put,NRM]
           rfl
         refine pure_ (i := 37) (N := some 55) (v := undef) (a' := ?_) (ba 42 274877906943) rfl rfl (any_of HT_.out (by kernel_rfl)) (fun _ _ _ h => h) (Or.inr ⟨by rfl,rfl⟩) ?_ ?_
         rotate_left
         · simp only [Act.put,NRM]
           rfl
         refine pure_ (i := 38) (N := some 56) (v := undef) (a' := ?_) (ba 42 549755813887) rfl rfl (any_of HT_.out (by kernel_rfl)) (fun _ _ _ h => h) (Or.inr ⟨by rfl,rfl⟩) ?_ ?_
         rotate_left
         · simp only [Act.put,NRM]
           rfl
         refine pure_ (i := 39) (N := some 57) (v := undef) (a' := ?_) (ba 42 1099511627775) rfl rfl (any_of HT_.out (by kernel_rfl)) (fun _ _ _ h => h) (Or.inr ⟨by rfl,rfl⟩) ?_ ?_
         rotate_left
         · simp only [Act.put,NRM]
           rfl
         refine pure_ (i := 40) (N := some 58) (v := undef) (a' := ?_) (ba 42 2199023255551) rfl rfl (any_of HT_.out (by kernel_rfl)) (fun _ _ _ h => h) (Or.inr ⟨by rfl,rfl⟩) ?_ ?_
         rotate_left
         · simp only [Act.put,NRM]
           rfl
         refine pure_ (i := 41) (N := some 59) (v := ?_) (a' := ?_) (ba 42 4398046511103) rfl rfl (any_of HT_.out (by kernel_rfl)) (fun _ _ _ h => h) (Or.inl ⟨by rfl,?_⟩) ?_ ?_
         rotate_left
         · intro w'
           go_simp
           with_reducible rfl
         rotate_left
         · simp only [Act.put,NRM]
           rfl
         refine done_ (done_of HT_.out (by kernel_rfl)) ?_
         try go_wp2
         go_meet
         case rel => exact ⟨_,(true),(by first | rfl | (simp;done) | (simp [*];done)),H',⟨by first | omega | exact Nat.le_refl _⟩,⟨BK624.out⟩,⟨BK625.out⟩,⟨HB.out⟩⟩
       as_aux_lemma =>
        subst c14
        replace H : ((q4_Cups.f a1).bind fun t628 => (if t628 = true then ((q4_Counts.f k l0_0 a0_1 l0_2 a0_3 a0_4 l2).bind fun t629 => (if t629 = true then ((q4_Change.f l0_0 a0_1 l0_2 a0_3 a0_4 a3_0 a3_1).bind fun t630 => (if t630 = true then (if 0 ≤ a3_0 then (if a3_0 < (l0_2.length : Int) then (l4_CastleFound.j0 k a1 l2 (a3_1 == ((rd_T48 l0_2 a3_0).f1)) l0_0 a0_1 l0_2 a0_3 a0_4 a3_0 a3_1) else (none)) else (none)) else (l4_CastleFound.j0 k a1 l2 true l0_0 a0_1 l0_2 a0_3 a0_4 a3_0 a3_1))) else (l4_CastleFound.j0 k a1 l2 true l0_0 a0_1 l0_2 a0_3 a0_4 a3_0 a3_1))) else (l4_CastleFound.j0 k a1 l2 true l0_0 a0_1 l0_2 a0_3 a0_4 a3_0 a3_1))) = some r := by rw [if_pos rfl] at H;exact H
        replace H := obm H
        obtain ⟨t628,A150,H⟩ := H
        replace H : (if t628 = true then ((q4_Counts.f k l0_0 a0_1 l0_2 a0_3 a0_4 l2).bind fun t629 => (if t629 = true then ((q4_Change.f l0_0 a0_1 l0_2 a0_3 a0_4 a3_0 a3_1).bind fun t630 => (if t630 = true then (if 0 ≤ a3_0 then (if a3_0 < (l0_2.length : Int) then (l4_CastleFound.j0 k a1 l2 (a3_1 == ((rd_T48 l0_2 a3_0).f1)) l0_0 a0_1 l0_2 a0_3 a0_4 a3_0 a3_1) else (none)) else (none)) else (l4_CastleFound.j0 k a1 l2 true l0_0 a0_1 l0_2 a0_3 a0_4 a3_0 a3_1))) else (l4_CastleFound.j0 k a1 l2 true l0_0 a0_1 l0_2 a0_3 a0_4 a3_0 a3_1))) else (l4_CastleFound.j0 k a1 l2 true l0_0 a0_1 l0_2 a0_3 a0_4 a3_0 a3_1)) = some r := H
        have A15 := am A150
        clear A150
        by_cases c16 : t628 = true
        case neg =>
         as_aux_lemma =>
          replace c16 := Bool.eq_false_iff.mpr c16
          subst c16
          replace H : (l4_CastleFound.j0 k a1 l2 true l0_0 a0_1 l0_2 a0_3 a0_4 a3_0 a3_1) = some r := by rw [if_neg (show ¬ (false = true) by decide)] at H;exact H
          replace H' := am H
          try go_wp2
          replace BK624 := am (blk_drew BK624.out)
          replace BK625 := am (blk_drew BK625.out)
          replace HB := am (below_drew1 HB.out)
          refine start_ (n := 42) (S := fun w' => w'.cell? ⟨gb624,0,none⟩ = some (.slice A0_0 l0_0.length c0_0) ∧ w'.cell? ⟨gb624,1,none⟩ = some (.int .i64 a0_1) ∧ w'.cell? ⟨gb624,2,none⟩ = some (.slice A0_2 l0_2.length c0_2) ∧ w'.cell? ⟨gb624,3,none⟩ = some (.int .i64 a0_3) ∧ w'.cell? ⟨gb624,4,none⟩ = some (.int .i64 a0_4)) (ds := []) (ba 42 0) (by kernel_rfl) rfl rfl ⟨(blk_cell BK624.out 0).trans rfl,(blk_cell BK624.out 1).trans rfl,(blk_cell BK624.out 2).trans rfl,(blk_cell BK624.out 3).trans rfl,(blk_cell BK624.out 4).trans rfl⟩ (fun hHeld => ?_);refine with_tabW l4_CastleFound.tab1 l4_CastleFound.bits1 (fun HT_ HW_ => ?_)
          generalize w7.drew = w37 at BK624 BK625 HB hHeld ⊢
          refine take_ (i := 0) (N := some 18) (v := ?_) (a' := ?_) (ba 42 1) rfl rfl (take_ofW HT_.out HW_.out (by kernel_rfl)) (fun _ _ _ h => h) (Or.inl ⟨by rfl,?_⟩) hHeld ?_ ?_
          rotate_left
          · rintro w' ⟨s0,s1,s2,s3,s4⟩
            go_simp
            with_reducible rfl
          rotate_left
          · simp only [Act.put,NRM]
            rfl
          refine one_ (i := 1) (N := some 19) (ba 42 3) rfl rfl (one_of HT_.out (by kernel_rfl)) (by decide) (fun K hK => ?_)
          refine goes_ Tryz.func14 (by kernel_rfl) rfl #[.agg #[.slice A0_0 l0_0.length c0_0,.int .i64 a0_1,.slice A0_2 l0_2.length c0_2,.int .i64 a0_3,.int .i64 a0_4]] (by rfl) rfl rfl (by (try simp only [List.map_toArray,List.map_cons,List.map_nil]);first | done | rfl | (simp only [List.length_drop,List.length_take];rfl)) ?_
          with_reducible refine (l4_short.calls _ _ l0_0 a0_1 _ _ l0_2 a0_3 a0_4 true _ ?side1 ?side2 ?side3 ?side4 A8.out).mono ?_
          (case side1 => exact kC HR0_0.out HB.out)
          (case side2 => exact HC0_0.out)
          (case side3 => exact kC HR0_2.out HB.out)
          (case side4 => exact HC0_2.out)
          rintro e w38 ⟨rfl,hb⟩
          refine ⟨_,rfl,?_⟩
          replace BK624 := (kmv hb BK624)
          replace BK625 := (kmv hb BK625)
          replace HB := am (below_step (HB.out) hb)
          (try clear hb)
          (try clear hb2)
          (try clear hk)
          (try clear hi)
          refine hK.out _ _ ⟨(blk_cell BK624.out 0).trans rfl,(blk_cell BK624.out 1).trans rfl,(blk_cell BK624.out 2).trans rfl,(blk_cell BK624.out 3).trans rfl,(blk_cell BK624.out 4).trans rfl⟩ (fun hHeld => ?_)
          clear hK K
          refine norm_ (a' := ?_) ?_ ?_
          rotate_left
          · show Act.put _ (some 19) _ = _
            simp only [Act.put,NRM]
            rfl
          refine pure_ (i := 2) (N := some 20) (v := ?_) (a' := ?_) (ba 42 7) rfl rfl (any_of HT_.out (by kernel_rfl)) (fun _ _ _ h => h) (Or.inl ⟨by rfl,?_⟩) ?_ ?_
          rotate_left
          · intro w'
            go_simp
            with_reducible rfl
          rotate_left
          · simp only [Act.put,NRM]
            rfl
          refine pure_ (i := 3) (N := some 21) (v := ?_) (a' := ?_) (ba 42 15) rfl rfl (any_of HT_.out (by kernel_rfl)) (fun _ _ _ h => h) (Or.inl ⟨by rfl,?_⟩) ?_ ?_
          rotate_left
          · intro w'
            go_simp
            with_reducible rfl
          rotate_left
          · simp only [Act.put,NRM]
            rfl
          refine pure_ (i := 4) (N := some 22) (v := ?_) (a' := ?_) (ba 42 31) rfl rfl (any_of HT_.out (by kernel_rfl)) (fun _ _ _ h => h) (Or.inl ⟨by rfl,?_⟩) ?_ ?_
          rotate_left
          · intro w'
            go_simp
            with_reducible rfl
          rotate_left
          · simp only [Act.put,NRM]
            rfl
          refine pure_ (i := 5) (N := some 23) (v := ?_) (a' := ?_) (ba 42 63) rfl rfl (any_of HT_.out (by kernel_rfl)) (fun _ _ _ h => h) (Or.inl ⟨by rfl,?_⟩) ?_ ?_
          rotate_left
          · intro w'
            go_simp
            with_reducible rfl
          rotate_left
          · simp only [Act.put,NRM]
            rfl
          refine pure_ (i := 6) (N := some 24) (v := ?_) (a' := ?_) (ba 42 127) rfl rfl (any_of HT_.out (by kernel_rfl)) (fun _ _ _ h => h) (Or.inl ⟨by rfl,?_⟩) ?_ ?_
          rotate_left
          · intro w'
            go_simp
            with_reducible rfl
          rotate_left
          · simp only [Act.put,NRM]
            rfl
          refine pure_ (i := 7) (N := some 25) (v := ?_) (a' := ?_) (ba 42 255) rfl rfl (any_of HT_.out (by kernel_rfl)) (fun _ _ _ h => h) (Or.inl ⟨by rfl,?_⟩) ?_ ?_
          rotate_left
          · intro w'
            go_simp
            with_reducible rfl
          rotate_left
          · simp only [Act.put,NRM]
            rfl
          refine pure_ (i := 8) (N := some 26) (v := ?_) (a' := ?_) (ba 42 511) rfl rfl (any_of HT_.out (by kernel_rfl)) (fun _ _ _ h => h) (Or.inl ⟨by rfl,?_⟩) ?_ ?_
          rotate_left
          · intro w'
            go_simp
            with_reducible rfl
          rotate_left
          · simp only [Act.put,NRM]
            rfl
          refine take_ (i := 9) (N := some 27) (v := ?_) (a' := ?_) (ba 42 1023) rfl rfl (take_ofW HT_.out HW_.out (by kernel_rfl)) (fun _ _ _ h => h) (Or.inl ⟨by rfl,?_⟩) hHeld ?_ ?_
          rotate_left
          · rintro w' ⟨s0,s1,s2,s3,s4⟩
            go_simp
            with_reducible rfl
          rotate_left
          · simp only [Act.put,NRM]
            rfl
          refine one_ (i := 10) (N := some 28) (ba 42 2047) rfl rfl (one_of HT_.out (by kernel_rfl)) (by decide) (fun K hK => ?_)
          refine goes_ Tryz.func15 (by kernel_rfl) rfl #[.agg #[.slice A0_0 l0_0.length c0_0,.int .i64 a0_1,.slice A0_2 l0_2.length c0_2,.int .i64 a0_3,.int .i64 a0_4]] (by rfl) rfl rfl (by (try simp only [List.map_toArray,List.map_cons,List.map_nil]);first | done | rfl | (simp only [List.length_drop,List.length_take];rfl)) ?_
          with_reducible refine (q4_Basin.calls k _ _ l0_0 a0_1 _ _ l0_2 a0_3 a0_4 true _ ?side1 ?side2 ?side3 ?side4 A13.out).mono ?_
          (case side1 => exact kC HR0_0.out HB.out)
          (case side2 => exact HC0_0.out)
          (case side3 => exact kC HR0_2.out HB.out)
          (case side4 => exact HC0_2.out)
          rintro e w39 ⟨rfl,hb⟩
          refine ⟨_,rfl,?_⟩
          replace BK624 := (kmv hb BK624)
          replace BK625 := (kmv hb BK625)
          replace HB := am (below_step (HB.out) hb)
          (try clear hb)
          (try clear hb2)
          (try clear hk)
          (try clear hi)
          refine hK.out _ _ ⟨(blk_cell BK624.out 0).trans rfl,(blk_cell BK624.out 1).trans rfl,(blk_cell BK624.out 2).trans rfl,(blk_cell BK624.out 3).trans rfl,(blk_cell BK624.out 4).trans rfl⟩ (fun hHeld => ?_)
          clear hK K
          refine norm_ (a' := ?_) ?_ ?_
          rotate_left
          · show Act.put _ (some 28) _ = _
            simp only [Act.put,NRM]
            rfl
          refine pure_ (i := 11) (N := some 29) (v := ?_) (a' := ?_) (ba 42 4095) rfl rfl (any_of HT_.out (by kernel_rfl)) (fun _ _ _ h => h) (Or.inl ⟨by rfl,?_⟩) ?_ ?_
          rotate_left
          · intro w'
            go_simp
            with_reducible rfl
          rotate_left
          · simp only [Act.put,NRM]
            rfl
          refine pure_ (i := 12) (N := some 30) (v := ?_) (a' := ?_) (ba 42 8191) rfl rfl (any_of HT_.out (by kernel_rfl)) (fun _ _ _ h => h) (Or.inl ⟨by rfl,?_⟩) ?_ ?_
          rotate_left
          · intro w'
            go_simp
            with_reducible rfl
          rotate_left
          · simp only [Act.put,NRM]
            rfl
          refine pure_ (i := 13) (N := some 31) (v := ?_) (a' := ?_) (ba 42 16383) rfl rfl (any_of HT_.out (by kernel_rfl)) (fun _ _ _ h => h) (Or.inl ⟨by rfl,?_⟩) ?_ ?_
          rotate_left
          · intro w'
            go_simp
            with_reducible rfl
          rotate_left
          · simp only [Act.put,NRM]
            rfl
          refine pure_ (i := 14) (N := some 32) (v := ?_) (a' := ?_) (ba 42 32767) rfl rfl (any_of HT_.out (by kernel_rfl)) (fun _ _ _ h => h) (Or.inl ⟨by rfl,?_⟩) ?_ ?_
          rotate_left
          · intro w'
            go_simp
            with_reducible rfl
          rotate_left
          · simp only [Act.put,NRM]
            rfl
          refine one_ (i := 15) (N := some 33) (ba 42 65535) rfl rfl (one_of HT_.out (by kernel_rfl)) (by decide) (fun K hK => ?_)
          refine goes_ Tryz.func17 (by kernel_rfl) rfl #[.int .i64 a1] (by rfl) rfl rfl (by (try simp only [List.map_toArray,List.map_cons,List.map_nil]);first | done | rfl | (simp only [List.length_drop,List.length_take];rfl)) ?_
          with_reducible refine (q4_Cups.calls a1 false _ A15.out).mono ?_
          rintro e w' ⟨rfl,⟨nd,rfl⟩⟩
          refine ⟨_,rfl,?_⟩
          refine hK.out _ _ ⟨(blk_cell BK624.out 0).trans rfl,(blk_cell BK624.out 1).trans rfl,(blk_cell BK624.out 2).trans rfl,(blk_cell BK624.out 3).trans rfl,(blk_cell BK624.out 4).trans rfl⟩ (fun hHeld => ?_)
          clear hK K
          refine norm_ (a' := ?_) ?_ ?_
          rotate_left
          · show Act.put _ (some 33) _ = _
            simp only [Act.put,NRM]
            rfl
          refine pure_ (i := 16) (N := some 34) (v := ?_) (a' := ?_) (ba 42 131071) rfl rfl (any_of HT_.out (by kernel_rfl)) (fun _ _ _ h => h) (Or.inl ⟨by rfl,?_⟩) ?_ ?_
          rotate_left
          · intro w'
            go_simp
            with_reducible rfl
          rotate_left
          · simp only [Act.put,NRM]
            rfl
          refine pure_ (i := 17) (N := some 35) (v := ?_) (a' := ?_) (ba 42 262143) rfl rfl (any_of HT_.out (by kernel_rfl)) (fun _ _ _ h => h) (Or.inl ⟨by rfl,?_⟩) ?_ ?_
          rotate_left
          · intro w'
            go_simp
            with_reducible rfl
          rotate_left
          · simp only [Act.put,NRM]
            rfl
          refine pure_ (i := 18) (N := some 36) (v := ?_) (a' := ?_) (ba 42 524287) rfl rfl (any_of HT_.out (by kernel_rfl)) (fun _ _ _ h => h) (Or.inl ⟨by rfl,?_⟩) ?_ ?_
          rotate_left
          · intro w'
            go_simp
            with_reducible rfl
          rotate_left
          · simp only [Act.put,NRM]
            rfl
          refine pure_ (i := 19) (N := some 37) (v := undef) (a' := ?_) (ba 42 1048575) rfl rfl (any_of HT_.out (by kernel_rfl)) (fun _ _ _ h => h) (Or.inr ⟨by rfl,rfl⟩) ?_ ?_
          rotate_left
          · simp only [Act.put,NRM]
            rfl
          refine pure_ (i := 20) (N := some 38) (v := undef) (a' := ?_) (ba 42 2097151) rfl rfl (any_of HT_.out (by kernel_rfl)) (fun _ _ _ h => h) (Or.inr ⟨by rfl,rfl⟩) ?_ ?_
          rotate_left
          · simp only [Act.put,NRM]
            rfl
          refine pure_ (i := 21) (N := some 39) (v := undef) (a' := ?_) (ba 42 4194303) rfl rfl (any_of HT_.out (by kernel_rfl)) (fun _ _ _ h => h) (Or.inr ⟨by rfl,rfl⟩) ?_ ?_
          rotate_left
          · simp only [Act.put,NRM]
            rfl
          refine pure_ (i := 22) (N := some 40) (v := undef) (a' := ?_) (ba 42 8388607) rfl rfl (any_of HT_.out (by kernel_rfl)) (fun _ _ _ h => h) (Or.inr ⟨by rfl,rfl⟩) ?_ ?_
          rotate_left
          · simp only [Act.put,NRM]
            rfl
          refine pure_ (i := 23) (N := some 41) (v := ?_) (a' := ?_) (ba 42 16777215) rfl rfl (any_of HT_.out (by kernel_rfl)) (fun _ _ _ h => h) (Or.inl ⟨by rfl,?_⟩) ?_ ?_
          rotate_left
          · intro w'
            go_simp
            with_reducible rfl
          rotate_left
          · simp only [Act.put,NRM]
            rfl
          refine pure_ (i := 24) (N := some 42) (v := ?_) (a' := ?_) (ba 42 33554431) rfl rfl (any_of HT_.out (by kernel_rfl)) (fun _ _ _ h => h) (Or.inl ⟨by rfl,?_⟩) ?_ ?_
          rotate_left
          · intro w'
            go_simp
            with_reducible rfl
          rotate_left
          · simp only [Act.put,NRM]
            rfl
          refine pure_ (i := 25) (N := some 43) (v := undef) (a' := ?_) (ba 42 67108863) rfl rfl (any_of HT_.out (by kernel_rfl)) (fun _ _ _ h => h) (Or.inr ⟨by rfl,rfl⟩) ?_ ?_
          rotate_left
          · simp only [Act.put,NRM]
            rfl
          refine pure_ (i := 26) (N := some 44) (v := undef) (a' := ?_) (ba 42 134217727) rfl rfl (any_of HT_.out (by kernel_rfl)) (fun _ _ _ h => h) (Or.inr ⟨by rfl,rfl⟩) ?_ ?_
          rotate_left
          · simp only [Act.put,NRM]
            rfl
          refine pure_ (i := 27) (N := some 45) (v := undef) (a' := ?_) (ba 42 268435455) rfl rfl (any_of HT_.out (by kernel_rfl)) (fun _ _ _ h => h) (Or.inr ⟨by rfl,rfl⟩) ?_ ?_
          rotate_left
          · simp only [Act.put,NRM]
            rfl
          refine pure_ (i := 28) (N := some 46) (v := undef) (a' := ?_) (ba 42 536870911) rfl rfl (any_of HT_.out (by kernel_rfl)) (fun _ _ _ h => h) (Or.inr ⟨by rfl,rfl⟩) ?_ ?_
          rotate_left
          · simp only [Act.put,NRM]
            rfl
          refine pure_ (i := 29) (N := some 47) (v := ?_) (a' := ?_) (ba 42 1073741823) rfl rfl (any_of HT_.out (by kernel_rfl)) (fun _ _ _ h => h) (Or.inl ⟨by rfl,?_⟩) ?_ ?_
          rotate_left
          · intro w'
            go_simp
            with_reducible rfl
          rotate_left
          · simp only [Act.put,NRM]
            rfl
          refine pure_ (i := 30) (N := some 48) (v := ?_) (a' := ?_) (ba 42 2147483647) rfl rfl (any_of HT_.out (by kernel_rfl)) (fun _ _ _ h => h) (Or.inl ⟨by rfl,?_⟩) ?_ ?_
          rotate_left
          · intro w'
            go_simp
            with_reducible rfl
          rotate_left
          · simp only [Act.put,NRM]
            rfl
          refine pure_ (i := 31) (N := some 49) (v := undef) (a' := ?_) (ba 42 4294967295) rfl rfl (any_of HT_.out (by kernel_rfl)) (fun _ _ _ h => h) (Or.inr ⟨by rfl,rfl⟩) ?_ ?_
          rotate_left
          · simp only [Act.put,NRM]
            rfl
          refine pure_ (i := 32) (N := some 50) (v := undef) (a' := ?_) (ba 42 8589934591) rfl rfl (any_of HT_.out (by kernel_rfl)) (fun _ _ _ h => h) (Or.inr ⟨by rfl,rfl⟩) ?_ ?_
          rotate_left
          · simp only [Act.put,NRM]
            rfl
          refine pure_ (i := 33) (N := some 51) (v := undef) (a' := ?_) (ba 42 17179869183) rfl rfl (any_of HT_.out (by kernel_rfl)) (fun _ _ _ h => h) (Or.inr ⟨by rfl,rfl⟩) ?_ ?_
          rotate_left
          · simp only [Act.put,NRM]
            rfl
          refine pure_ (i := 34) (N := some 52) (v := undef) (a' := ?_) (ba 42 34359738367) rfl rfl (any_of HT_.out (by kernel_rfl)) (fun _ _ _ h => h) (Or.inr ⟨by rfl,rfl⟩) ?_ ?_
          rotate_left
          · simp only [Act.put,NRM]
            rfl
          refine pure_ (i := 35) (N := some 53) (v := undef) (a' := ?_) (ba 42 68719476735) rfl rfl (any_of HT_.out (by kernel_rfl)) (fun _ _ _ h => h) (Or.inr ⟨by rfl,rfl⟩) ?_ ?_
          rotate_left
          · simp only [Act.put,NRM]
            rfl
          refine pure_ (i := 36) (N := some 54) (v := undef) (a' := ?_) (ba 42 137438953471) rfl rfl (any_of HT_.out (by kernel_rfl)) (fun _ _ _ h => h) (Or.inr ⟨by rfl,rfl⟩) ?_ ?_
          rotate_left
          · simp only [Act.put,NRM]
            rfl
          refine pure_ (i := 37) (N := some 55) (v := undef) (a' := ?_) (ba 42 274877906943) rfl rfl (any_of HT_.out (by kernel_rfl)) (fun _ _ _ h => h) (Or.inr ⟨by rfl,rfl⟩) ?_ ?_
          rotate_left
          · simp only [Act.put,NRM]
            rfl
          refine pure_ (i := 38) (N := some 56) (v := undef) (a' := ?_) (ba 42 549755813887) rfl rfl (any_of HT_.out (by kernel_rfl)) (fun _ _ _ h => h) (Or.inr ⟨by rfl,rfl⟩) ?_ ?_
          rotate_left
          · simp only [Act.put,NRM]
            rfl
          refine pure_ (i := 39) (N := some 57) (v := undef) (a' := ?_) (ba 42 1099511627775) rfl rfl (any_of HT_.out (by kernel_rfl)) (fun _ _ _ h => h) (Or.inr ⟨by rfl,rfl⟩) ?_ ?_
          rotate_left
          · simp only [Act.put,NRM]
            rfl
          refine pure_ (i := 40) (N := some 58) (v := undef) (a' := ?_) (ba 42 2199023255551) rfl rfl (any_of HT_.out (by kernel_rfl)) (fun _ _ _ h => h) (Or.inr ⟨by rfl,rfl⟩) ?_ ?_
          rotate_left
          · simp only [Act.put,NRM]
            rfl
          refine pure_ (i := 41) (N := some 59) (v := ?_) (a' := ?_) (ba 42 4398046511103) rfl rfl (any_of HT_.out (by kernel_rfl)) (fun _ _ _ h => h) (Or.inl ⟨by rfl,?_⟩) ?_ ?_
          rotate_left
          · intro w'
            go_simp
            with_reducible rfl
          rotate_left
          · simp only [Act.put,NRM]
            rfl
          refine done_ (done_of HT_.out (by kernel_rfl)) ?_
          try go_wp2
          go_meet
          case rel => exact ⟨_,(true),(by first | rfl | (simp;done) | (simp [*];done)),H',⟨by first | omega | exact Nat.le_refl _⟩,⟨BK624.out⟩,⟨BK625.out⟩,⟨pw_below_drewN HB.out _⟩⟩
        as_aux_lemma =>
         subst c16
         replace H : ((q4_Counts.f k l0_0 a0_1 l0_2 a0_3 a0_4 l2).bind fun t629 => (if t629 = true then ((q4_Change.f l0_0 a0_1 l0_2 a0_3 a0_4 a3_0 a3_1).bind fun t630 => (if t630 = true then (if 0 ≤ a3_0 then (if a3_0 < (l0_2.length : Int) then (l4_CastleFound.j0 k a1 l2 (a3_1 == ((rd_T48 l0_2 a3_0).f1)) l0_0 a0_1 l0_2 a0_3 a0_4 a3_0 a3_1) else (none)) else (none)) else (l4_CastleFound.j0 k a1 l2 true l0_0 a0_1 l0_2 a0_3 a0_4 a3_0 a3_1))) else (l4_CastleFound.j0 k a1 l2 true l0_0 a0_1 l0_2 a0_3 a0_4 a3_0 a3_1))) = some r := by rw [if_pos rfl] at H;exact H
         replace H := obm H
         obtain ⟨t629,A170,H⟩ := H
         replace H : (if t629 = true then ((q4_Change.f l0_0 a0_1 l0_2 a0_3 a0_4 a3_0 a3_1).bind fun t630 => (if t630 = true then (if 0 ≤ a3_0 then (if a3_0 < (l0_2.length : Int) then (l4_CastleFound.j0 k a1 l2 (a3_1 == ((rd_T48 l0_2 a3_0).f1)) l0_0 a0_1 l0_2 a0_3 a0_4 a3_0 a3_1) else (none)) else (none)) else (l4_CastleFound.j0 k a1 l2 true l0_0 a0_1 l0_2 a0_3 a0_4 a3_0 a3_1))) else (l4_CastleFound.j0 k a1 l2 true l0_0 a0_1 l0_2 a0_3 a0_4 a3_0 a3_1)) = some r := H
         have A17 := am A170
         clear A170
         by_cases c18 : t629 = true
         case neg =>
          as_aux_lemma =>
           replace c18 := Bool.eq_false_iff.mpr c18
           subst c18
           replace H : (l4_CastleFound.j0 k a1 l2 true l0_0 a0_1 l0_2 a0_3 a0_4 a3_0 a3_1) = some r := by rw [if_neg (show ¬ (false = true) by decide)] at H;exact H
           replace H' := am H
           try go_wp2
           replace BK624 := am (blk_drew BK624.out)
           replace BK625 := am (blk_drew BK625.out)
           replace HB := am (below_drew1 HB.out)
           refine start_ (n := 42) (S := fun w' => w'.cell? ⟨gb624,0,none⟩ = some (.slice A0_0 l0_0.length c0_0) ∧ w'.cell? ⟨gb624,1,none⟩ = some (.int .i64 a0_1) ∧ w'.cell? ⟨gb624,2,none⟩ = some (.slice A0_2 l0_2.length c0_2) ∧ w'.cell? ⟨gb624,3,none⟩ = some (.int .i64 a0_3) ∧ w'.cell? ⟨gb624,4,none⟩ = some (.int .i64 a0_4)) (ds := []) (ba 42 0) (by kernel_rfl) rfl rfl ⟨(blk_cell BK624.out 0).trans rfl,(blk_cell BK624.out 1).trans rfl,(blk_cell BK624.out 2).trans rfl,(blk_cell BK624.out 3).trans rfl,(blk_cell BK624.out 4).trans rfl⟩ (fun hHeld => ?_);refine with_tabW l4_CastleFound.tab1 l4_CastleFound.bits1 (fun HT_ HW_ => ?_)
           generalize w7.drew = w33 at BK624 BK625 HB hHeld ⊢
           refine take_ (i := 0) (N := some 18) (v := ?_) (a' := ?_) (ba 42 1) rfl rfl (take_ofW HT_.out HW_.out (by kernel_rfl)) (fun _ _ _ h => h) (Or.inl ⟨by rfl,?_⟩) hHeld ?_ ?_
           rotate_left
           · rintro w' ⟨s0,s1,s2,s3,s4⟩
             go_simp
             with_reducible rfl
           rotate_left
           · simp only [Act.put,NRM]
             rfl
           refine one_ (i := 1) (N := some 19) (ba 42 3) rfl rfl (one_of HT_.out (by kernel_rfl)) (by decide) (fun K hK => ?_)
           refine goes_ Tryz.func14 (by kernel_rfl) rfl #[.agg #[.slice A0_0 l0_0.length c0_0,.int .i64 a0_1,.slice A0_2 l0_2.length c0_2,.int .i64 a0_3,.int .i64 a0_4]] (by rfl) rfl rfl (by (try simp only [List.map_toArray,List.map_cons,List.map_nil]);first | done | rfl | (simp only [List.length_drop,List.length_take];rfl)) ?_
           with_reducible refine (l4_short.calls _ _ l0_0 a0_1 _ _ l0_2 a0_3 a0_4 true _ ?side1 ?side2 ?side3 ?side4 A8.out).mono ?_
           (case side1 => exact kC HR0_0.out HB.out)
           (case side2 => exact HC0_0.out)
           (case side3 => exact kC HR0_2.out HB.out)
           (case side4 => exact HC0_2.out)
           rintro e w34 ⟨rfl,hb⟩
           refine ⟨_,rfl,?_⟩
           replace BK624 := (kmv hb BK624)
           replace BK625 := (kmv hb BK625)
           replace HB := am (below_step (HB.out) hb)
           (try clear hb)
           (try clear hb2)
           (try clear hk)
           (try clear hi)
           refine hK.out _ _ ⟨(blk_cell BK624.out 0).trans rfl,(blk_cell BK624.out 1).trans rfl,(blk_cell BK624.out 2).trans rfl,(blk_cell BK624.out 3).trans rfl,(blk_cell BK624.out 4).trans rfl⟩ (fun hHeld => ?_)
           clear hK K
           refine norm_ (a' := ?_) ?_ ?_
           rotate_left
           · show Act.put _ (some 19) _ = _
             simp only [Act.put,NRM]
             rfl
           refine pure_ (i := 2) (N := some 20) (v := ?_) (a' := ?_) (ba 42 7) rfl rfl (any_of HT_.out (by kernel_rfl)) (fun _ _ _ h => h) (Or.inl ⟨by rfl,?_⟩) ?_ ?_
           rotate_left
           · intro w'
             go_simp
             with_reducible rfl
           rotate_left
           · simp only [Act.put,NRM]
             rfl
           refine pure_ (i := 3) (N := some 21) (v := ?_) (a' := ?_) (ba 42 15) rfl rfl (any_of HT_.out (by kernel_rfl)) (fun _ _ _ h => h) (Or.inl ⟨by rfl,?_⟩) ?_ ?_
           rotate_left
           · intro w'
             go_simp
             with_reducible rfl
           rotate_left
           · simp only [Act.put,NRM]
             rfl
           refine pure_ (i := 4) (N := some 22) (v := ?_) (a' := ?_) (ba 42 31) rfl rfl (any_of HT_.out (by kernel_rfl)) (fun _ _ _ h => h) (Or.inl ⟨by rfl,?_⟩) ?_ ?_
           rotate_left
           · intro w'
             go_simp
             with_reducible rfl
           rotate_left
           · simp only [Act.put,NRM]
             rfl
           refine pure_ (i := 5) (N := some 23) (v := ?_) (a' := ?_) (ba 42 63) rfl rfl (any_of HT_.out (by kernel_rfl)) (fun _ _ _ h => h) (Or.inl ⟨by rfl,?_⟩) ?_ ?_
           rotate_left
           · intro w'
             go_simp
             with_reducible rfl
           rotate_left
           · simp only [Act.put,NRM]
             rfl
           refine pure_ (i := 6) (N := some 24) (v := ?_) (a' := ?_) (ba 42 127) rfl rfl (any_of HT_.out (by kernel_rfl)) (fun _ _ _ h => h) (Or.inl ⟨by rfl,?_⟩) ?_ ?_
           rotate_left
           · intro w'
             go_simp
             with_reducible rfl
           rotate_left
           · simp only [Act.put,NRM]
             rfl
           refine pure_ (i := 7) (N := some 25) (v := ?_) (a' := ?_) (ba 42 255) rfl rfl (any_of HT_.out (by kernel_rfl)) (fun _ _ _ h => h) (Or.inl ⟨by rfl,?_⟩) ?_ ?_
           rotate_left
           · intro w'
             go_simp
             with_reducible rfl
           rotate_left
           · simp only [Act.put,NRM]
             rfl
           refine pure_ (i := 8) (N := some 26) (v := ?_) (a' := ?_) (ba 42 511) rfl rfl (any_of HT_.out (by kernel_rfl)) (fun _ _ _ h => h) (Or.inl ⟨by rfl,?_⟩) ?_ ?_
           rotate_left
           · intro w'
             go_simp
             with_reducible rfl
           rotate_left
           · simp only [Act.put,NRM]
             rfl
           refine take_ (i := 9) (N := some 27) (v := ?_) (a' := ?_) (ba 42 1023) rfl rfl (take_ofW HT_.out HW_.out (by kernel_rfl)) (fun _ _ _ h => h) (Or.inl ⟨by rfl,?_⟩) hHeld ?_ ?_
           rotate_left
           · rintro w' ⟨s0,s1,s2,s3,s4⟩
             go_simp
             with_reducible rfl
           rotate_left
           · simp only [Act.put,NRM]
             rfl
           refine one_ (i := 10) (N := some 28) (ba 42 2047) rfl rfl (one_of HT_.out (by kernel_rfl)) (by decide) (fun K hK => ?_)
           refine goes_ Tryz.func15 (by kernel_rfl) rfl #[.agg #[.slice A0_0 l0_0.length c0_0,.int .i64 a0_1,.slice A0_2 l0_2.length c0_2,.int .i64 a0_3,.int .i64 a0_4]] (by rfl) rfl rfl (by (try simp only [List.map_toArray,List.map_cons,List.map_nil]);first | done | rfl | (simp only [List.length_drop,List.length_take];rfl)) ?_
           with_reducible refine (q4_Basin.calls k _ _ l0_0 a0_1 _ _ l0_2 a0_3 a0_4 true _ ?side1 ?side2 ?side3 ?side4 A13.out).mono ?_
           (case side1 => exact kC HR0_0.out HB.out)
           (case side2 => exact HC0_0.out)
           (case side3 => exact kC HR0_2.out HB.out)
           (case side4 => exact HC0_2.out)
           rintro e w35 ⟨rfl,hb⟩
           refine ⟨_,rfl,?_⟩
           replace BK624 := (kmv hb BK624)
           replace BK625 := (kmv hb BK625)
           replace HB := am (below_step (HB.out) hb)
           (try clear hb)
           (try clear hb2)
           (try clear hk)
           (try clear hi)
           refine hK.out _ _ ⟨(blk_cell BK624.out 0).trans rfl,(blk_cell BK624.out 1).trans rfl,(blk_cell BK624.out 2).trans rfl,(blk_cell BK624.out 3).trans rfl,(blk_cell BK624.out 4).trans rfl⟩ (fun hHeld => ?_)
           clear hK K
           refine norm_ (a' := ?_) ?_ ?_
           rotate_left
           · show Act.put _ (some 28) _ = _
             simp only [Act.put,NRM]
             rfl
           refine pure_ (i := 11) (N := some 29) (v := ?_) (a' := ?_) (ba 42 4095) rfl rfl (any_of HT_.out (by kernel_rfl)) (fun _ _ _ h => h) (Or.inl ⟨by rfl,?_⟩) ?_ ?_
           rotate_left
           · intro w'
             go_simp
             with_reducible rfl
           rotate_left
           · simp only [Act.put,NRM]
             rfl
           refine pure_ (i := 12) (N := some 30) (v := ?_) (a' := ?_) (ba 42 8191) rfl rfl (any_of HT_.out (by kernel_rfl)) (fun _ _ _ h => h) (Or.inl ⟨by rfl,?_⟩) ?_ ?_
           rotate_left
           · intro w'
             go_simp
             with_reducible rfl
           rotate_left
           · simp only [Act.put,NRM]
             rfl
           refine pure_ (i := 13) (N := some 31) (v := ?_) (a' := ?_) (ba 42 16383) rfl rfl (any_of HT_.out (by kernel_rfl)) (fun _ _ _ h => h) (Or.inl ⟨by rfl,?_⟩) ?_ ?_
           rotate_left
           · intro w'
             go_simp
             with_reducible rfl
           rotate_left
           · simp only [Act.put,NRM]
             rfl
           refine pure_ (i := 14) (N := some 32) (v := ?_) (a' := ?_) (ba 42 32767) rfl rfl (any_of HT_.out (by kernel_rfl)) (fun _ _ _ h => h) (Or.inl ⟨by rfl,?_⟩) ?_ ?_
           rotate_left
           · intro w'
             go_simp
             with_reducible rfl
           rotate_left
           · simp only [Act.put,NRM]
             rfl
           refine one_ (i := 15) (N := some 33) (ba 42 65535) rfl rfl (one_of HT_.out (by kernel_rfl)) (by decide) (fun K hK => ?_)
           refine goes_ Tryz.func17 (by kernel_rfl) rfl #[.int .i64 a1] (by rfl) rfl rfl (by (try simp only [List.map_toArray,List.map_cons,List.map_nil]);first | done | rfl | (simp only [List.length_drop,List.length_take];rfl)) ?_
           with_reducible refine (q4_Cups.calls a1 true _ A15.out).mono ?_
           rintro e w' ⟨rfl,⟨nd,rfl⟩⟩
           refine ⟨_,rfl,?_⟩
           refine hK.out _ _ ⟨(blk_cell BK624.out 0).trans rfl,(blk_cell BK624.out 1).trans rfl,(blk_cell BK624.out 2).trans rfl,(blk_cell BK624.out 3).trans rfl,(blk_cell BK624.out 4).trans rfl⟩ (fun hHeld => ?_)
           clear hK K
           refine norm_ (a' := ?_) ?_ ?_
           rotate_left
           · show Act.put _ (some 33) _ = _
             simp only [Act.put,NRM]
             rfl
           refine pure_ (i := 16) (N := some 34) (v := ?_) (a' := ?_) (ba 42 131071) rfl rfl (any_of HT_.out (by kernel_rfl)) (fun _ _ _ h => h) (Or.inl ⟨by rfl,?_⟩) ?_ ?_
           rotate_left
           · intro w'
             go_simp
             with_reducible rfl
           rotate_left
           · simp only [Act.put,NRM]
             rfl
           refine pure_ (i := 17) (N := some 35) (v := ?_) (a' := ?_) (ba 42 262143) rfl rfl (any_of HT_.out (by kernel_rfl)) (fun _ _ _ h => h) (Or.inl ⟨by rfl,?_⟩) ?_ ?_
           rotate_left
           · intro w'
             go_simp
             with_reducible rfl
           rotate_left
           · simp only [Act.put,NRM]
             rfl
           refine pure_ (i := 18) (N := some 36) (v := ?_) (a' := ?_) (ba 42 524287) rfl rfl (any_of HT_.out (by kernel_rfl)) (fun _ _ _ h => h) (Or.inl ⟨by rfl,?_⟩) ?_ ?_
           rotate_left
           · intro w'
             go_simp
             with_reducible rfl
           rotate_left
           · simp only [Act.put,NRM]
             rfl
           refine pure_ (i := 20) (N := some 38) (v := ?_) (a' := ?_) (ba 42 1572863) rfl rfl (any_of HT_.out (by kernel_rfl)) (fun _ _ _ h => h) (Or.inl ⟨by rfl,?_⟩) ?_ ?_
           rotate_left
           · intro w'
             go_simp
             with_reducible rfl
           rotate_left
           · simp only [Act.put,NRM]
             rfl
           refine take_ (i := 19) (N := some 37) (v := ?_) (a' := ?_) (ba 42 2097151) rfl rfl (take_ofW HT_.out HW_.out (by kernel_rfl)) (fun _ _ _ h => h) (Or.inl ⟨by rfl,?_⟩) hHeld ?_ ?_
           rotate_left
           · rintro w' ⟨s0,s1,s2,s3,s4⟩
             go_simp
             with_reducible rfl
           rotate_left
           · simp only [Act.put,NRM]
             rfl
           refine one_ (i := 21) (N := some 39) (ba 42 4194303) rfl rfl (one_of HT_.out (by kernel_rfl)) (by decide) (fun K hK => ?_)
           refine goes_ Tryz.func26 (by kernel_rfl) rfl #[.agg #[.slice A0_0 l0_0.length c0_0,.int .i64 a0_1,.slice A0_2 l0_2.length c0_2,.int .i64 a0_3,.int .i64 a0_4],.slice A2 l2.length c2] (by rfl) rfl rfl (by (try simp only [List.map_toArray,List.map_cons,List.map_nil]);first | done | rfl | (simp only [List.length_drop,List.length_take];rfl)) ?_
           with_reducible refine (q4_Counts.calls k _ _ l0_0 a0_1 _ _ l0_2 a0_3 a0_4 _ _ l2 false _ ?side1 ?side2 ?side3 ?side4 ?side5 ?side6 A17.out).mono ?_
           (case side1 => repeat (first | exact (kC HR0_0.out (pw_below_drewN HB.out _)) | (with_reducible refine Kd.C_alloc ?_ _) | (with_reducible refine Kd.C_drewN ?_ _) | (with_reducible refine Kd.C_drew ?_)))
           (case side2 => exact HC0_0.out)
           (case side3 => repeat (first | exact (kC HR0_2.out (pw_below_drewN HB.out _)) | (with_reducible refine Kd.C_alloc ?_ _) | (with_reducible refine Kd.C_drewN ?_ _) | (with_reducible refine Kd.C_drew ?_)))
           (case side4 => exact HC0_2.out)
           (case side5 => repeat (first | exact (kC HR2.out (pw_below_drewN HB.out _)) | (with_reducible refine Kd.C_alloc ?_ _) | (with_reducible refine Kd.C_drewN ?_ _) | (with_reducible refine Kd.C_drew ?_)))
           (case side6 => exact HC2.out)
           rintro e w36 ⟨rfl,hb⟩
           refine ⟨_,rfl,?_⟩
           replace BK624 := (kmv hb BK624)
           replace BK625 := (kmv hb BK625)
           replace HB := am (below_step (pw_below_drewN HB.out _) hb)
           (try clear hb)
           (try clear hb2)
           (try clear hk)
           (try clear hi)
           refine hK.out _ _ ⟨(blk_cell BK624.out 0).trans rfl,(blk_cell BK624.out 1).trans rfl,(blk_cell BK624.out 2).trans rfl,(blk_cell BK624.out 3).trans rfl,(blk_cell BK624.out 4).trans rfl⟩ (fun hHeld => ?_)
           clear hK K
           refine norm_ (a' := ?_) ?_ ?_
           rotate_left
           · show Act.put _ (some 39) _ = _
             simp only [Act.put,NRM]
             rfl
           refine pure_ (i := 22) (N := some 40) (v := ?_) (a' := ?_) (ba 42 8388607) rfl rfl (any_of HT_.out (by kernel_rfl)) (fun _ _ _ h => h) (Or.inl ⟨by rfl,?_⟩) ?_ ?_
           rotate_left
           · intro w'
             go_simp
             with_reducible rfl
           rotate_left
           · simp only [Act.put,NRM]
             rfl
           refine pure_ (i := 23) (N := some 41) (v := ?_) (a' := ?_) (ba 42 16777215) rfl rfl (any_of HT_.out (by kernel_rfl)) (fun _ _ _ h => h) (Or.inl ⟨by rfl,?_⟩) ?_ ?_
           rotate_left
           · intro w'
             go_simp
             with_reducible rfl
           rotate_left
           · simp only [Act.put,NRM]
             rfl
           refine pure_ (i := 24) (N := some 42) (v := ?_) (a' := ?_) (ba 42 33554431) rfl rfl (any_of HT_.out (by kernel_rfl)) (fun _ _ _ h => h) (Or.inl ⟨by rfl,?_⟩) ?_ ?_
           rotate_left
           · intro w'
             go_simp
             with_reducible rfl
           rotate_left
           · simp only [Act.put,NRM]
             rfl
           refine pure_ (i := 25) (N := some 43) (v := undef) (a' := ?_) (ba 42 67108863) rfl rfl (any_of HT_.out (by kernel_rfl)) (fun _ _ _ h => h) (Or.inr ⟨by rfl,rfl⟩) ?_ ?_
           rotate_left
           · simp only [Act.put,NRM]
             rfl
           refine pure_ (i := 26) (N := some 44) (v := undef) (a' := ?_) (ba 42 134217727) rfl rfl (any_of HT_.out (by kernel_rfl)) (fun _ _ _ h => h) (Or.inr ⟨by rfl,rfl⟩) ?_ ?_
           rotate_left
           · simp only [Act.put,NRM]
             rfl
           refine pure_ (i := 27) (N := some 45) (v := undef) (a' := ?_) (ba 42 268435455) rfl rfl (any_of HT_.out (by kernel_rfl)) (fun _ _ _ h => h) (Or.inr ⟨by rfl,rfl⟩) ?_ ?_
           rotate_left
           · simp only [Act.put,NRM]
             rfl
           refine pure_ (i := 28) (N := some 46) (v := undef) (a' := ?_) (ba 42 536870911) rfl rfl (any_of HT_.out (by kernel_rfl)) (fun _ _ _ h => h) (Or.inr ⟨by rfl,rfl⟩) ?_ ?_
           rotate_left
           · simp only [Act.put,NRM]
             rfl
           refine pure_ (i := 29) (N := some 47) (v := ?_) (a' := ?_) (ba 42 1073741823) rfl rfl (any_of HT_.out (by kernel_rfl)) (fun _ _ _ h => h) (Or.inl ⟨by rfl,?_⟩) ?_ ?_
           rotate_left
           · intro w'
             go_simp
             with_reducible rfl
           rotate_left
           · simp only [Act.put,NRM]
             rfl
           refine pure_ (i := 30) (N := some 48) (v := ?_) (a' := ?_) (ba 42 2147483647) rfl rfl (any_of HT_.out (by kernel_rfl)) (fun _ _ _ h => h) (Or.inl ⟨by rfl,?_⟩) ?_ ?_
           rotate_left
           · intro w'
             go_simp
             with_reducible rfl
           rotate_left
           · simp only [Act.put,NRM]
             rfl
           refine pure_ (i := 31) (N := some 49) (v := undef) (a' := ?_) (ba 42 4294967295) rfl rfl (any_of HT_.out (by kernel_rfl)) (fun _ _ _ h => h) (Or.inr ⟨by rfl,rfl⟩) ?_ ?_
           rotate_left
           · simp only [Act.put,NRM]
             rfl
           refine pure_ (i := 32) (N := some 50) (v := undef) (a' := ?_) (ba 42 8589934591) rfl rfl (any_of HT_.out (by kernel_rfl)) (fun _ _ _ h => h) (Or.inr ⟨by rfl,rfl⟩) ?_ ?_
           rotate_left
           · simp only [Act.put,NRM]
             rfl
           refine pure_ (i := 33) (N := some 51) (v := undef) (a' := ?_) (ba 42 17179869183) rfl rfl (any_of HT_.out (by kernel_rfl)) (fun _ _ _ h => h) (Or.inr ⟨by rfl,rfl⟩) ?_ ?_
           rotate_left
           · simp only [Act.put,NRM]
             rfl
           refine pure_ (i := 34) (N := some 52) (v := undef) (a' := ?_) (ba 42 34359738367) rfl rfl (any_of HT_.out (by kernel_rfl)) (fun _ _ _ h => h) (Or.inr ⟨by rfl,rfl⟩) ?_ ?_
           rotate_left
           · simp only [Act.put,NRM]
             rfl
           refine pure_ (i := 35) (N := some 53) (v := undef) (a' := ?_) (ba 42 68719476735) rfl rfl (any_of HT_.out (by kernel_rfl)) (fun _ _ _ h => h) (Or.inr ⟨by rfl,rfl⟩) ?_ ?_
           rotate_left
           · simp only [Act.put,NRM]
             rfl
           refine pure_ (i := 36) (N := some 54) (v := undef) (a' := ?_) (ba 42 137438953471) rfl rfl (any_of HT_.out (by kernel_rfl)) (fun _ _ _ h => h) (Or.inr ⟨by rfl,rfl⟩) ?_ ?_
           rotate_left
           · simp only [Act.put,NRM]
             rfl
           refine pure_ (i := 37) (N := some 55) (v := undef) (a' := ?_) (ba 42 274877906943) rfl rfl (any_of HT_.out (by kernel_rfl)) (fun _ _ _ h => h) (Or.inr ⟨by rfl,rfl⟩) ?_ ?_
           rotate_left
           · simp only [Act.put,NRM]
             rfl
           refine pure_ (i := 38) (N := some 56) (v := undef) (a' := ?_) (ba 42 549755813887) rfl rfl (any_of HT_.out (by kernel_rfl)) (fun _ _ _ h => h) (Or.inr ⟨by rfl,rfl⟩) ?_ ?_
           rotate_left
           · simp only [Act.put,NRM]
             rfl
           refine pure_ (i := 39) (N := some 57) (v := undef) (a' := ?_) (ba 42 1099511627775) rfl rfl (any_of HT_.out (by kernel_rfl)) (fun _ _ _ h => h) (Or.inr ⟨by rfl,rfl⟩) ?_ ?_
           rotate_left
           · simp only [Act.put,NRM]
             rfl
           refine pure_ (i := 40) (N := some 58) (v := undef) (a' := ?_) (ba 42 2199023255551) rfl rfl (any_of HT_.out (by kernel_rfl)) (fun _ _ _ h => h) (Or.inr ⟨by rfl,rfl⟩) ?_ ?_
           rotate_left
           · simp only [Act.put,NRM]
             rfl
           refine pure_ (i := 41) (N := some 59) (v := ?_) (a' := ?_) (ba 42 4398046511103) rfl rfl (any_of HT_.out (by kernel_rfl)) (fun _ _ _ h => h) (Or.inl ⟨by rfl,?_⟩) ?_ ?_
           rotate_left
           · intro w'
             go_simp
             with_reducible rfl
           rotate_left
           · simp only [Act.put,NRM]
             rfl
           refine done_ (done_of HT_.out (by kernel_rfl)) ?_
           try go_wp2
           go_meet
           case rel => exact ⟨_,(true),(by first | rfl | (simp;done) | (simp [*];done)),H',⟨by first | omega | exact Nat.le_refl _⟩,⟨BK624.out⟩,⟨BK625.out⟩,⟨HB.out⟩⟩
         as_aux_lemma =>
          subst c18
          replace H : ((q4_Change.f l0_0 a0_1 l0_2 a0_3 a0_4 a3_0 a3_1).bind fun t630 => (if t630 = true then (if 0 ≤ a3_0 then (if a3_0 < (l0_2.length : Int) then (l4_CastleFound.j0 k a1 l2 (a3_1 == ((rd_T48 l0_2 a3_0).f1)) l0_0 a0_1 l0_2 a0_3 a0_4 a3_0 a3_1) else (none)) else (none)) else (l4_CastleFound.j0 k a1 l2 true l0_0 a0_1 l0_2 a0_3 a0_4 a3_0 a3_1))) = some r := by rw [if_pos rfl] at H;exact H
          replace H := obm H
          obtain ⟨t630,A190,H⟩ := H
          replace H : (if t630 = true then (if 0 ≤ a3_0 then (if a3_0 < (l0_2.length : Int) then (l4_CastleFound.j0 k a1 l2 (a3_1 == ((rd_T48 l0_2 a3_0).f1)) l0_0 a0_1 l0_2 a0_3 a0_4 a3_0 a3_1) else (none)) else (none)) else (l4_CastleFound.j0 k a1 l2 true l0_0 a0_1 l0_2 a0_3 a0_4 a3_0 a3_1)) = some r := H
          have A19 := am A190
          clear A190
          by_cases c20 : t630 = true
          case neg =>
           as_aux_lemma =>
            replace c20 := Bool.eq_false_iff.mpr c20
            subst c20
            replace H : (l4_CastleFound.j0 k a1 l2 true l0_0 a0_1 l0_2 a0_3 a0_4 a3_0 a3_1) = some r := by rw [if_neg (show ¬ (false = true) by decide)] at H;exact H
            replace H' := am H
            try go_wp2
            replace BK624 := am (blk_drew BK624.out)
            replace BK625 := am (blk_drew BK625.out)
            replace HB := am (below_drew1 HB.out)
            refine start_ (n := 42) (S := fun w' => w'.cell? ⟨gb624,0,none⟩ = some (.slice A0_0 l0_0.length c0_0) ∧ w'.cell? ⟨gb624,1,none⟩ = some (.int .i64 a0_1) ∧ w'.cell? ⟨gb624,2,none⟩ = some (.slice A0_2 l0_2.length c0_2) ∧ w'.cell? ⟨gb624,3,none⟩ = some (.int .i64 a0_3) ∧ w'.cell? ⟨gb624,4,none⟩ = some (.int .i64 a0_4) ∧ w'.cell? ⟨gb625,0,none⟩ = some (.int .i64 a3_0) ∧ w'.cell? ⟨gb625,1,none⟩ = some (.int .i64 a3_1)) (ds := []) (ba 42 0) (by kernel_rfl) rfl rfl ⟨(blk_cell BK624.out 0).trans rfl,(blk_cell BK624.out 1).trans rfl,(blk_cell BK624.out 2).trans rfl,(blk_cell BK624.out 3).trans rfl,(blk_cell BK624.out 4).trans rfl,(blk_cell BK625.out 0).trans rfl,(blk_cell BK625.out 1).trans rfl⟩ (fun hHeld => ?_);refine with_tabW l4_CastleFound.tab1 l4_CastleFound.bits1 (fun HT_ HW_ => ?_)
            generalize w7.drew = w28 at BK624 BK625 HB hHeld ⊢
            refine take_ (i := 0) (N := some 18) (v := ?_) (a' := ?_) (ba 42 1) rfl rfl (take_ofW HT_.out HW_.out (by kernel_rfl)) (fun _ _ _ h => h) (Or.inl ⟨by rfl,?_⟩) hHeld ?_ ?_
            rotate_left
            · rintro w' ⟨s0,s1,s2,s3,s4,s5,s6⟩
              go_simp
              with_reducible rfl
            rotate_left
            · simp only [Act.put,NRM]
              rfl
            refine one_ (i := 1) (N := some 19) (ba 42 3) rfl rfl (one_of HT_.out (by kernel_rfl)) (by decide) (fun K hK => ?_)
            refine goes_ Tryz.func14 (by kernel_rfl) rfl #[.agg #[.slice A0_0 l0_0.length c0_0,.int .i64 a0_1,.slice A0_2 l0_2.length c0_2,.int .i64 a0_3,.int .i64 a0_4]] (by rfl) rfl rfl (by (try simp only [List.map_toArray,List.map_cons,List.map_nil]);first | done | rfl | (simp only [List.length_drop,List.length_take];rfl)) ?_
            with_reducible refine (l4_short.calls _ _ l0_0 a0_1 _ _ l0_2 a0_3 a0_4 true _ ?side1 ?side2 ?side3 ?side4 A8.out).mono ?_
            (case side1 => exact kC HR0_0.out HB.out)
            (case side2 => exact HC0_0.out)
            (case side3 => exact kC HR0_2.out HB.out)
            (case side4 => exact HC0_2.out)
            rintro e w29 ⟨rfl,hb⟩
            refine ⟨_,rfl,?_⟩
            replace BK624 := (kmv hb BK624)
            replace BK625 := (kmv hb BK625)
            replace HB := am (below_step (HB.out) hb)
            (try clear hb)
            (try clear hb2)
            (try clear hk)
            (try clear hi)
            refine hK.out _ _ ⟨(blk_cell BK624.out 0).trans rfl,(blk_cell BK624.out 1).trans rfl,(blk_cell BK624.out 2).trans rfl,(blk_cell BK624.out 3).trans rfl,(blk_cell BK624.out 4).trans rfl,(blk_cell BK625.out 0).trans rfl,(blk_cell BK625.out 1).trans rfl⟩ (fun hHeld => ?_)
            clear hK K
            refine norm_ (a' := ?_) ?_ ?_
            rotate_left
            · show Act.put _ (some 19) _ = _
              simp only [Act.put,NRM]
              rfl
            refine pure_ (i := 2) (N := some 20) (v := ?_) (a' := ?_) (ba 42 7) rfl rfl (any_of HT_.out (by kernel_rfl)) (fun _ _ _ h => h) (Or.inl ⟨by rfl,?_⟩) ?_ ?_
            rotate_left
            · intro w'
              go_simp
              with_reducible rfl
            rotate_left
            · simp only [Act.put,NRM]
              rfl
            refine pure_ (i := 3) (N := some 21) (v := ?_) (a' := ?_) (ba 42 15) rfl rfl (any_of HT_.out (by kernel_rfl)) (fun _ _ _ h => h) (Or.inl ⟨by rfl,?_⟩) ?_ ?_
            rotate_left
            · intro w'
              go_simp
              with_reducible rfl
            rotate_left
            · simp only [Act.put,NRM]
              rfl
            refine pure_ (i := 4) (N := some 22) (v := ?_) (a' := ?_) (ba 42 31) rfl rfl (any_of HT_.out (by kernel_rfl)) (fun _ _ _ h => h) (Or.inl ⟨by rfl,?_⟩) ?_ ?_
            rotate_left
            · intro w'
              go_simp
              with_reducible rfl
            rotate_left
            · simp only [Act.put,NRM]
              rfl
            refine pure_ (i := 5) (N := some 23) (v := ?_) (a' := ?_) (ba 42 63) rfl rfl (any_of HT_.out (by kernel_rfl)) (fun _ _ _ h => h) (Or.inl ⟨by rfl,?_⟩) ?_ ?_
            rotate_left
            · intro w'
              go_simp
              with_reducible rfl
            rotate_left
            · simp only [Act.put,NRM]
              rfl
            refine pure_ (i := 6) (N := some 24) (v := ?_) (a' := ?_) (ba 42 127) rfl rfl (any_of HT_.out (by kernel_rfl)) (fun _ _ _ h => h) (Or.inl ⟨by rfl,?_⟩) ?_ ?_
            rotate_left
            · intro w'
              go_simp
              with_reducible rfl
            rotate_left
            · simp only [Act.put,NRM]
              rfl
            refine pure_ (i := 7) (N := some 25) (v := ?_) (a' := ?_) (ba 42 255) rfl rfl (any_of HT_.out (by kernel_rfl)) (fun _ _ _ h => h) (Or.inl ⟨by rfl,?_⟩) ?_ ?_
            rotate_left
            · intro w'
              go_simp
              with_reducible rfl
            rotate_left
            · simp only [Act.put,NRM]
              rfl
            refine pure_ (i := 8) (N := some 26) (v := ?_) (a' := ?_) (ba 42 511) rfl rfl (any_of HT_.out (by kernel_rfl)) (fun _ _ _ h => h) (Or.inl ⟨by rfl,?_⟩) ?_ ?_
            rotate_left
            · intro w'
              go_simp
              with_reducible rfl
            rotate_left
            · simp only [Act.put,NRM]
              rfl
            refine take_ (i := 9) (N := some 27) (v := ?_) (a' := ?_) (ba 42 1023) rfl rfl (take_ofW HT_.out HW_.out (by kernel_rfl)) (fun _ _ _ h => h) (Or.inl ⟨by rfl,?_⟩) hHeld ?_ ?_
            rotate_left
            · rintro w' ⟨s0,s1,s2,s3,s4,s5,s6⟩
              go_simp
              with_reducible rfl
            rotate_left
            · simp only [Act.put,NRM]
              rfl
            refine one_ (i := 10) (N := some 28) (ba 42 2047) rfl rfl (one_of HT_.out (by kernel_rfl)) (by decide) (fun K hK => ?_)
            refine goes_ Tryz.func15 (by kernel_rfl) rfl #[.agg #[.slice A0_0 l0_0.length c0_0,.int .i64 a0_1,.slice A0_2 l0_2.length c0_2,.int .i64 a0_3,.int .i64 a0_4]] (by rfl) rfl rfl (by (try simp only [List.map_toArray,List.map_cons,List.map_nil]);first | done | rfl | (simp only [List.length_drop,List.length_take];rfl)) ?_
            with_reducible refine (q4_Basin.calls k _ _ l0_0 a0_1 _ _ l0_2 a0_3 a0_4 true _ ?side1 ?side2 ?side3 ?side4 A13.out).mono ?_
            (case side1 => exact kC HR0_0.out HB.out)
            (case side2 => exact HC0_0.out)
            (case side3 => exact kC HR0_2.out HB.out)
            (case side4 => exact HC0_2.out)
            rintro e w30 ⟨rfl,hb⟩
            refine ⟨_,rfl,?_⟩
            replace BK624 := (kmv hb BK624)
            replace BK625 := (kmv hb BK625)
            replace HB := am (below_step (HB.out) hb)
            (try clear hb)
            (try clear hb2)
            (try clear hk)
            (try clear hi)
            refine hK.out _ _ ⟨(blk_cell BK624.out 0).trans rfl,(blk_cell BK624.out 1).trans rfl,(blk_cell BK624.out 2).trans rfl,(blk_cell BK624.out 3).trans rfl,(blk_cell BK624.out 4).trans rfl,(blk_cell BK625.out 0).trans rfl,(blk_cell BK625.out 1).trans rfl⟩ (fun hHeld => ?_)
            clear hK K
            refine norm_ (a' := ?_) ?_ ?_
            rotate_left
            · show Act.put _ (some 28) _ = _
              simp only [Act.put,NRM]
              rfl
            refine pure_ (i := 11) (N := some 29) (v := ?_) (a' := ?_) (ba 42 4095) rfl rfl (any_of HT_.out (by kernel_rfl)) (fun _ _ _ h => h) (Or.inl ⟨by rfl,?_⟩) ?_ ?_
            rotate_left
            · intro w'
              go_simp
              with_reducible rfl
            rotate_left
            · simp only [Act.put,NRM]
              rfl
            refine pure_ (i := 12) (N := some 30) (v := ?_) (a' := ?_) (ba 42 8191) rfl rfl (any_of HT_.out (by kernel_rfl)) (fun _ _ _ h => h) (Or.inl ⟨by rfl,?_⟩) ?_ ?_
            rotate_left
            · intro w'
              go_simp
              with_reducible rfl
            rotate_left
            · simp only [Act.put,NRM]
              rfl
            refine pure_ (i := 13) (N := some 31) (v := ?_) (a' := ?_) (ba 42 16383) rfl rfl (any_of HT_.out (by kernel_rfl)) (fun _ _ _ h => h) (Or.inl ⟨by rfl,?_⟩) ?_ ?_
            rotate_left
            · intro w'
              go_simp
              with_reducible rfl
            rotate_left
            · simp only [Act.put,NRM]
              rfl
            refine pure_ (i := 14) (N := some 32) (v := ?_) (a' := ?_) (ba 42 32767) rfl rfl (any_of HT_.out (by kernel_rfl)) (fun _ _ _ h => h) (Or.inl ⟨by rfl,?_⟩) ?_ ?_
            rotate_left
            · intro w'
              go_simp
              with_reducible rfl
            rotate_left
            · simp only [Act.put,NRM]
              rfl
            refine one_ (i := 15) (N := some 33) (ba 42 65535) rfl rfl (one_of HT_.out (by kernel_rfl)) (by decide) (fun K hK => ?_)
            refine goes_ Tryz.func17 (by kernel_rfl) rfl #[.int .i64 a1] (by rfl) rfl rfl (by (try simp only [List.map_toArray,List.map_cons,List.map_nil]);first | done | rfl | (simp only [List.length_drop,List.length_take];rfl)) ?_
            with_reducible refine (q4_Cups.calls a1 true _ A15.out).mono ?_
            rintro e w' ⟨rfl,⟨nd,rfl⟩⟩
            refine ⟨_,rfl,?_⟩
            refine hK.out _ _ ⟨(blk_cell BK624.out 0).trans rfl,(blk_cell BK624.out 1).trans rfl,(blk_cell BK624.out 2).trans rfl,(blk_cell BK624.out 3).trans rfl,(blk_cell BK624.out 4).trans rfl,(blk_cell BK625.out 0).trans rfl,(blk_cell BK625.out 1).trans rfl⟩ (fun hHeld => ?_)
            clear hK K
            refine norm_ (a' := ?_) ?_ ?_
            rotate_left
            · show Act.put _ (some 33) _ = _
              simp only [Act.put,NRM]
              rfl
            refine pure_ (i := 16) (N := some 34) (v := ?_) (a' := ?_) (ba 42 131071) rfl rfl (any_of HT_.out (by kernel_rfl)) (fun _ _ _ h => h) (Or.inl ⟨by rfl,?_⟩) ?_ ?_
            rotate_left
            · intro w'
              go_simp
              with_reducible rfl
            rotate_left
            · simp only [Act.put,NRM]
              rfl
            refine pure_ (i := 17) (N := some 35) (v := ?_) (a' := ?_) (ba 42 262143) rfl rfl (any_of HT_.out (by kernel_rfl)) (fun _ _ _ h => h) (Or.inl ⟨by rfl,?_⟩) ?_ ?_
            rotate_left
            · intro w'
              go_simp
              with_reducible rfl
            rotate_left
            · simp only [Act.put,NRM]
              rfl
            refine pure_ (i := 18) (N := some 36) (v := ?_) (a' := ?_) (ba 42 524287) rfl rfl (any_of HT_.out (by kernel_rfl)) (fun _ _ _ h => h) (Or.inl ⟨by rfl,?_⟩) ?_ ?_
            rotate_left
            · intro w'
              go_simp
              with_reducible rfl
            rotate_left
            · simp only [Act.put,NRM]
              rfl
            refine pure_ (i := 20) (N := some 38) (v := ?_) (a' := ?_) (ba 42 1572863) rfl rfl (any_of HT_.out (by kernel_rfl)) (fun _ _ _ h => h) (Or.inl ⟨by rfl,?_⟩) ?_ ?_
            rotate_left
            · intro w'
              go_simp
              with_reducible rfl
            rotate_left
            · simp only [Act.put,NRM]
              rfl
            refine take_ (i := 19) (N := some 37) (v := ?_) (a' := ?_) (ba 42 2097151) rfl rfl (take_ofW HT_.out HW_.out (by kernel_rfl)) (fun _ _ _ h => h) (Or.inl ⟨by rfl,?_⟩) hHeld ?_ ?_
            rotate_left
            · rintro w' ⟨s0,s1,s2,s3,s4,s5,s6⟩
              go_simp
              with_reducible rfl
            rotate_left
            · simp only [Act.put,NRM]
              rfl
            refine one_ (i := 21) (N := some 39) (ba 42 4194303) rfl rfl (one_of HT_.out (by kernel_rfl)) (by decide) (fun K hK => ?_)
            refine goes_ Tryz.func26 (by kernel_rfl) rfl #[.agg #[.slice A0_0 l0_0.length c0_0,.int .i64 a0_1,.slice A0_2 l0_2.length c0_2,.int .i64 a0_3,.int .i64 a0_4],.slice A2 l2.length c2] (by rfl) rfl rfl (by (try simp only [List.map_toArray,List.map_cons,List.map_nil]);first | done | rfl | (simp only [List.length_drop,List.length_take];rfl)) ?_
            with_reducible refine (q4_Counts.calls k _ _ l0_0 a0_1 _ _ l0_2 a0_3 a0_4 _ _ l2 true _ ?side1 ?side2 ?side3 ?side4 ?side5 ?side6 A17.out).mono ?_
            (case side1 => repeat (first | exact (kC HR0_0.out (pw_below_drewN HB.out _)) | (with_reducible refine Kd.C_alloc ?_ _) | (with_reducible refine Kd.C_drewN ?_ _) | (with_reducible refine Kd.C_drew ?_)))
            (case side2 => exact HC0_0.out)
            (case side3 => repeat (first | exact (kC HR0_2.out (pw_below_drewN HB.out _)) | (with_reducible refine Kd.C_alloc ?_ _) | (with_reducible refine Kd.C_drewN ?_ _) | (with_reducible refine Kd.C_drew ?_)))
            (case side4 => exact HC0_2.out)
            (case side5 => repeat (first | exact (kC HR2.out (pw_below_drewN HB.out _)) | (with_reducible refine Kd.C_alloc ?_ _) | (with_reducible refine Kd.C_drewN ?_ _) | (with_reducible refine Kd.C_drew ?_)))
            (case side6 => exact HC2.out)
            rintro e w31 ⟨rfl,hb⟩
            refine ⟨_,rfl,?_⟩
            replace BK624 := (kmv hb BK624)
            replace BK625 := (kmv hb BK625)
            replace HB := am (below_step (pw_below_drewN HB.out _) hb)
            (try clear hb)
            (try clear hb2)
            (try clear hk)
            (try clear hi)
            refine hK.out _ _ ⟨(blk_cell BK624.out 0).trans rfl,(blk_cell BK624.out 1).trans rfl,(blk_cell BK624.out 2).trans rfl,(blk_cell BK624.out 3).trans rfl,(blk_cell BK624.out 4).trans rfl,(blk_cell BK625.out 0).trans rfl,(blk_cell BK625.out 1).trans rfl⟩ (fun hHeld => ?_)
            clear hK K
            refine norm_ (a' := ?_) ?_ ?_
            rotate_left
            · show Act.put _ (some 39) _ = _
              simp only [Act.put,NRM]
              rfl
            refine pure_ (i := 22) (N := some 40) (v := ?_) (a' := ?_) (ba 42 8388607) rfl rfl (any_of HT_.out (by kernel_rfl)) (fun _ _ _ h => h) (Or.inl ⟨by rfl,?_⟩) ?_ ?_
            rotate_left
            · intro w'
              go_simp
              with_reducible rfl
            rotate_left
            · simp only [Act.put,NRM]
              rfl
            refine pure_ (i := 23) (N := some 41) (v := ?_) (a' := ?_) (ba 42 16777215) rfl rfl (any_of HT_.out (by kernel_rfl)) (fun _ _ _ h => h) (Or.inl ⟨by rfl,?_⟩) ?_ ?_
            rotate_left
            · intro w'
              go_simp
              with_reducible rfl
            rotate_left
            · simp only [Act.put,NRM]
              rfl
            refine pure_ (i := 24) (N := some 42) (v := ?_) (a' := ?_) (ba 42 33554431) rfl rfl (any_of HT_.out (by kernel_rfl)) (fun _ _ _ h => h) (Or.inl ⟨by rfl,?_⟩) ?_ ?_
            rotate_left
            · intro w'
              go_simp
              with_reducible rfl
            rotate_left
            · simp only [Act.put,NRM]
              rfl
            refine take_ (i := 25) (N := some 43) (v := ?_) (a' := ?_) (ba 42 67108863) rfl rfl (take_ofW HT_.out HW_.out (by kernel_rfl)) (fun _ _ _ h => h) (Or.inl ⟨by rfl,?_⟩) hHeld ?_ ?_
            rotate_left
            · rintro w' ⟨s0,s1,s2,s3,s4,s5,s6⟩
              go_simp
              with_reducible rfl
            rotate_left
            · simp only [Act.put,NRM]
              rfl
            refine take_ (i := 26) (N := some 44) (v := ?_) (a' := ?_) (ba 42 134217727) rfl rfl (take_ofW HT_.out HW_.out (by kernel_rfl)) (fun _ _ _ h => h) (Or.inl ⟨by rfl,?_⟩) hHeld ?_ ?_
            rotate_left
            · rintro w' ⟨s0,s1,s2,s3,s4,s5,s6⟩
              go_simp
              with_reducible rfl
            rotate_left
            · simp only [Act.put,NRM]
              rfl
            refine one_ (i := 27) (N := some 45) (ba 42 268435455) rfl rfl (one_of HT_.out (by kernel_rfl)) (by decide) (fun K hK => ?_)
            refine goes_ Tryz.func27 (by kernel_rfl) rfl #[.agg #[.slice A0_0 l0_0.length c0_0,.int .i64 a0_1,.slice A0_2 l0_2.length c0_2,.int .i64 a0_3,.int .i64 a0_4],.agg #[.int .i64 a3_0,.int .i64 a3_1]] (by rfl) rfl rfl (by (try simp only [List.map_toArray,List.map_cons,List.map_nil]);first | done | rfl | (simp only [List.length_drop,List.length_take];rfl)) ?_
            with_reducible refine (q4_Change.calls _ _ l0_0 a0_1 _ _ l0_2 a0_3 a0_4 a3_0 a3_1 false _ ?side1 ?side2 ?side3 ?side4 A19.out).mono ?_
            (case side1 => exact kC HR0_0.out HB.out)
            (case side2 => exact HC0_0.out)
            (case side3 => exact kC HR0_2.out HB.out)
            (case side4 => exact HC0_2.out)
            rintro e w32 ⟨rfl,hb⟩
            refine ⟨_,rfl,?_⟩
            replace BK624 := (kmv hb BK624)
            replace BK625 := (kmv hb BK625)
            replace HB := am (below_step (HB.out) hb)
            (try clear hb)
            (try clear hb2)
            (try clear hk)
            (try clear hi)
            refine hK.out _ _ ⟨(blk_cell BK624.out 0).trans rfl,(blk_cell BK624.out 1).trans rfl,(blk_cell BK624.out 2).trans rfl,(blk_cell BK624.out 3).trans rfl,(blk_cell BK624.out 4).trans rfl,(blk_cell BK625.out 0).trans rfl,(blk_cell BK625.out 1).trans rfl⟩ (fun hHeld => ?_)
            clear hK K
            refine norm_ (a' := ?_) ?_ ?_
            rotate_left
            · show Act.put _ (some 45) _ = _
              simp only [Act.put,NRM]
              rfl
            refine pure_ (i := 28) (N := some 46) (v := ?_) (a' := ?_) (ba 42 536870911) rfl rfl (any_of HT_.out (by kernel_rfl)) (fun _ _ _ h => h) (Or.inl ⟨by rfl,?_⟩) ?_ ?_
            rotate_left
            · intro w'
              go_simp
              with_reducible rfl
            rotate_left
            · simp only [Act.put,NRM]
              rfl
            refine pure_ (i := 29) (N := some 47) (v := ?_) (a' := ?_) (ba 42 1073741823) rfl rfl (any_of HT_.out (by kernel_rfl)) (fun _ _ _ h => h) (Or.inl ⟨by rfl,?_⟩) ?_ ?_
            rotate_left
            · intro w'
              go_simp
              with_reducible rfl
            rotate_left
            · simp only [Act.put,NRM]
              rfl
            refine pure_ (i := 30) (N := some 48) (v := ?_) (a' := ?_) (ba 42 2147483647) rfl rfl (any_of HT_.out (by kernel_rfl)) (fun _ _ _ h => h) (Or.inl ⟨by rfl,?_⟩) ?_ ?_
            rotate_left
            · intro w'
              go_simp
              with_reducible rfl
            rotate_left
            · simp only [Act.put,NRM]
              rfl
            refine pure_ (i := 31) (N := some 49) (v := undef) (a' := ?_) (ba 42 4294967295) rfl rfl (any_of HT_.out (by kernel_rfl)) (fun _ _ _ h => h) (Or.inr ⟨by rfl,rfl⟩) ?_ ?_
            rotate_left
            · simp only [Act.put,NRM]
              rfl
            refine pure_ (i := 32) (N := some 50) (v := undef) (a' := ?_) (ba 42 8589934591) rfl rfl (any_of HT_.out (by kernel_rfl)) (fun _ _ _ h => h) (Or.inr ⟨by rfl,rfl⟩) ?_ ?_
            rotate_left
            · simp only [Act.put,NRM]
              rfl
            refine pure_ (i := 33) (N := some 51) (v := undef) (a' := ?_) (ba 42 17179869183) rfl rfl (any_of HT_.out (by kernel_rfl)) (fun _ _ _ h => h) (Or.inr ⟨by rfl,rfl⟩) ?_ ?_
            rotate_left
            · simp only [Act.put,NRM]
              rfl
            refine pure_ (i := 34) (N := some 52) (v := undef) (a' := ?_) (ba 42 34359738367) rfl rfl (any_of HT_.out (by kernel_rfl)) (fun _ _ _ h => h) (Or.inr ⟨by rfl,rfl⟩) ?_ ?_
            rotate_left
            · simp only [Act.put,NRM]
              rfl
            refine pure_ (i := 35) (N := some 53) (v := undef) (a' := ?_) (ba 42 68719476735) rfl rfl (any_of HT_.out (by kernel_rfl)) (fun _ _ _ h => h) (Or.inr ⟨by rfl,rfl⟩) ?_ ?_
            rotate_left
            · simp only [Act.put,NRM]
              rfl
            refine pure_ (i := 36) (N := some 54) (v := undef) (a' := ?_) (ba 42 137438953471) rfl rfl (any_of HT_.out (by kernel_rfl)) (fun _ _ _ h => h) (Or.inr ⟨by rfl,rfl⟩) ?_ ?_
            rotate_left
            · simp only [Act.put,NRM]
              rfl
            refine pure_ (i := 37) (N := some 55) (v := undef) (a' := ?_) (ba 42 274877906943) rfl rfl (any_of HT_.out (by kernel_rfl)) (fun _ _ _ h => h) (Or.inr ⟨by rfl,rfl⟩) ?_ ?_
            rotate_left
            · simp only [Act.put,NRM]
              rfl
            refine pure_ (i := 38) (N := some 56) (v := undef) (a' := ?_) (ba 42 549755813887) rfl rfl (any_of HT_.out (by kernel_rfl)) (fun _ _ _ h => h) (Or.inr ⟨by rfl,rfl⟩) ?_ ?_
            rotate_left
            · simp only [Act.put,NRM]
              rfl
            refine pure_ (i := 39) (N := some 57) (v := undef) (a' := ?_) (ba 42 1099511627775) rfl rfl (any_of HT_.out (by kernel_rfl)) (fun _ _ _ h => h) (Or.inr ⟨by rfl,rfl⟩) ?_ ?_
            rotate_left
            · simp only [Act.put,NRM]
              rfl
            refine pure_ (i := 40) (N := some 58) (v := undef) (a' := ?_) (ba 42 2199023255551) rfl rfl (any_of HT_.out (by kernel_rfl)) (fun _ _ _ h => h) (Or.inr ⟨by rfl,rfl⟩) ?_ ?_
            rotate_left
            · simp only [Act.put,NRM]
              rfl
            refine pure_ (i := 41) (N := some 59) (v := ?_) (a' := ?_) (ba 42 4398046511103) rfl rfl (any_of HT_.out (by kernel_rfl)) (fun _ _ _ h => h) (Or.inl ⟨by rfl,?_⟩) ?_ ?_
            rotate_left
            · intro w'
              go_simp
              with_reducible rfl
            rotate_left
            · simp only [Act.put,NRM]
              rfl
            refine done_ (done_of HT_.out (by kernel_rfl)) ?_
            try go_wp2
            go_meet
            case rel => exact ⟨_,(true),(by first | rfl | (simp;done) | (simp [*];done)),H',⟨by first | omega | exact Nat.le_refl _⟩,⟨BK624.out⟩,⟨BK625.out⟩,⟨HB.out⟩⟩
          as_aux_lemma =>
           subst c20
           replace H : (if 0 ≤ a3_0 then (if a3_0 < (l0_2.length : Int) then (l4_CastleFound.j0 k a1 l2 (a3_1 == ((rd_T48 l0_2 a3_0).f1)) l0_0 a0_1 l0_2 a0_3 a0_4 a3_0 a3_1) else (none)) else (none)) = some r := by rw [if_pos rfl] at H;exact H
           by_cases c21 : 0 ≤ a3_0
           case neg =>
            rw [if_neg c21] at H
            exact absurd H (by simp)
           as_aux_lemma =>
            rw [if_pos c21] at H
            have c21b0 : decide (0 ≤ a3_0) = true := decide_eq_true c21
            clear c21
            by_cases c22 : a3_0 < (l0_2.length : Int)
            case neg =>
             rw [if_neg c22] at H
             exact absurd H (by simp)
            as_aux_lemma =>
             rw [if_pos c22] at H
             have c22b0 : decide (a3_0 < (l0_2.length : Int)) = true := decide_eq_true c22
             clear c22
             replace H' := am H
             try go_wp2
             replace BK624 := am (blk_drew BK624.out)
             replace BK625 := am (blk_drew BK625.out)
             replace HB := am (below_drew1 HB.out)
             have p631 : 0 ≤ (a3_0 : Int) := of_decide_eq_true (by assumption)
             have q631 : a3_0 < (l0_2.length : Int) := of_decide_eq_true (by assumption)
             obtain ⟨ad631,e631,hx631_0,hx631_1⟩ := at_T48 HR0_2.out a3_0 p631 q631
             have hw631_1 := hx631_1
             have hw631_0 := hx631_0
             cases e631
             replace hx631_0 := (HB.out.cell (wbl hx631_0)).trans hx631_0
             replace hx631_1 := (HB.out.cell (wbl hx631_1)).trans hx631_1
             replace p631 := eq_true p631
             replace q631 := eq_true q631
             refine start_ (n := 42) (S := fun w' => w'.cell? ⟨gb624,0,none⟩ = some (.slice A0_0 l0_0.length c0_0) ∧ w'.cell? ⟨gb624,1,none⟩ = some (.int .i64 a0_1) ∧ w'.cell? ⟨gb624,2,none⟩ = some (.slice (some ad631) l0_2.length c0_2) ∧ w'.cell? ⟨gb624,3,none⟩ = some (.int .i64 a0_3) ∧ w'.cell? ⟨gb624,4,none⟩ = some (.int .i64 a0_4) ∧ w'.cell? ⟨gb625,0,none⟩ = some (.int .i64 a3_0) ∧ w'.cell? ⟨gb625,1,none⟩ = some (.int .i64 a3_1) ∧ w'.cell? (ad631.add ((a3_0).toNat * 2)) = some (.int .i64 ((rd_T48 l0_2 a3_0).f0)) ∧ w'.cell? ⟨(ad631.add ((a3_0).toNat * 2)).block,(ad631.add ((a3_0).toNat * 2)).off + 1,none⟩ = some (.int .i64 ((rd_T48 l0_2 a3_0).f1))) (ds := []) (ba 42 0) (by kernel_rfl) rfl rfl ⟨(blk_cell BK624.out 0).trans rfl,(blk_cell BK624.out 1).trans rfl,(blk_cell BK624.out 2).trans rfl,(blk_cell BK624.out 3).trans rfl,(blk_cell BK624.out 4).trans rfl,(blk_cell BK625.out 0).trans rfl,(blk_cell BK625.out 1).trans rfl,((HB.out.cell (wbl hw631_0)).trans hw631_0),((HB.out.cell (wbl hw631_1)).trans hw631_1)⟩ (fun hHeld => ?_);refine with_tabW l4_CastleFound.tab1 l4_CastleFound.bits1 (fun HT_ HW_ => ?_)
             generalize w7.drew = w23 at BK624 BK625 HB hx631_0 hx631_1 hHeld ⊢
             refine take_ (i := 0) (N := some 18) (v := ?_) (a' := ?_) (ba 42 1) rfl rfl (take_ofW HT_.out HW_.out (by kernel_rfl)) (fun _ _ _ h => h) (Or.inl ⟨by rfl,?_⟩) hHeld ?_ ?_
             rotate_left
             · rintro w' ⟨s0,s1,s2,s3,s4,s5,s6,s7,s8⟩
               go_simp
               with_reducible rfl
             rotate_left
             · simp only [Act.put,NRM]
               rfl
             refine one_ (i := 1) (N := some 19) (ba 42 3) rfl rfl (one_of HT_.out (by kernel_rfl)) (by decide) (fun K hK => ?_)
             refine goes_ Tryz.func14 (by kernel_rfl) rfl #[.agg #[.slice A0_0 l0_0.length c0_0,.int .i64 a0_1,.slice (some ad631) l0_2.length c0_2,.int .i64 a0_3,.int .i64 a0_4]] (by rfl) rfl rfl (by (try simp only [List.map_toArray,List.map_cons,List.map_nil]);first | done | rfl | (simp only [List.length_drop,List.length_take];rfl)) ?_
             with_reducible refine (l4_short.calls _ _ l0_0 a0_1 _ _ l0_2 a0_3 a0_4 true _ ?side1 ?side2 ?side3 ?side4 A8.out).mono ?_
             (case side1 => exact kC HR0_0.out HB.out)
             (case side2 => exact HC0_0.out)
             (case side3 => exact kC HR0_2.out HB.out)
             (case side4 => exact HC0_2.out)
             rintro e w24 ⟨rfl,hb⟩
             refine ⟨_,rfl,?_⟩
             replace BK624 := (kmv hb BK624)
             replace BK625 := (kmv hb BK625)
             replace HB := am (below_step (HB.out) hb)
             (try clear hb)
             (try clear hb2)
             (try clear hk)
             (try clear hi)
             refine hK.out _ _ ⟨(blk_cell BK624.out 0).trans rfl,(blk_cell BK624.out 1).trans rfl,(blk_cell BK624.out 2).trans rfl,(blk_cell BK624.out 3).trans rfl,(blk_cell BK624.out 4).trans rfl,(blk_cell BK625.out 0).trans rfl,(blk_cell BK625.out 1).trans rfl,((HB.out.cell (wbl hw631_0)).trans hw631_0),((HB.out.cell (wbl hw631_1)).trans hw631_1)⟩ (fun hHeld => ?_)
             clear hK K
             refine norm_ (a' := ?_) ?_ ?_
             rotate_left
             · show Act.put _ (some 19) _ = _
               simp only [Act.put,NRM]
               rfl
             refine pure_ (i := 2) (N := some 20) (v := ?_) (a' := ?_) (ba 42 7) rfl rfl (any_of HT_.out (by kernel_rfl)) (fun _ _ _ h => h) (Or.inl ⟨by rfl,?_⟩) ?_ ?_
             rotate_left
             · intro w'
               go_simp
               with_reducible rfl
             rotate_left
             · simp only [Act.put,NRM]
               rfl
             refine pure_ (i := 3) (N := some 21) (v := ?_) (a' := ?_) (ba 42 15) rfl rfl (any_of HT_.out (by kernel_rfl)) (fun _ _ _ h => h) (Or.inl ⟨by rfl,?_⟩) ?_ ?_
             rotate_left
             · intro w'
               go_simp
               with_reducible rfl
             rotate_left
             · simp only [Act.put,NRM]
               rfl
             refine pure_ (i := 4) (N := some 22) (v := ?_) (a' := ?_) (ba 42 31) rfl rfl (any_of HT_.out (by kernel_rfl)) (fun _ _ _ h => h) (Or.inl ⟨by rfl,?_⟩) ?_ ?_
             rotate_left
             · intro w'
               go_simp
               with_reducible rfl
             rotate_left
             · simp only [Act.put,NRM]
               rfl
             refine pure_ (i := 5) (N := some 23) (v := ?_) (a' := ?_) (ba 42 63) rfl rfl (any_of HT_.out (by kernel_rfl)) (fun _ _ _ h => h) (Or.inl ⟨by rfl,?_⟩) ?_ ?_
             rotate_left
             · intro w'
               go_simp
               with_reducible rfl
             rotate_left
             · simp only [Act.put,NRM]
               rfl
             refine pure_ (i := 6) (N := some 24) (v := ?_) (a' := ?_) (ba 42 127) rfl rfl (any_of HT_.out (by kernel_rfl)) (fun _ _ _ h => h) (Or.inl ⟨by rfl,?_⟩) ?_ ?_
             rotate_left
             · intro w'
               go_simp
               with_reducible rfl
             rotate_left
             · simp only [Act.put,NRM]
               rfl
             refine pure_ (i := 7) (N := some 25) (v := ?_) (a' := ?_) (ba 42 255) rfl rfl (any_of HT_.out (by kernel_rfl)) (fun _ _ _ h => h) (Or.inl ⟨by rfl,?_⟩) ?_ ?_
             rotate_left
             · intro w'
               go_simp
               with_reducible rfl
             rotate_left
             · simp only [Act.put,NRM]
               rfl
             refine pure_ (i := 8) (N := some 26) (v := ?_) (a' := ?_) (ba 42 511) rfl rfl (any_of HT_.out (by kernel_rfl)) (fun _ _ _ h => h) (Or.inl ⟨by rfl,?_⟩) ?_ ?_
             rotate_left
             · intro w'
               go_simp
               with_reducible rfl
             rotate_left
             · simp only [Act.put,NRM]
               rfl
             refine take_ (i := 9) (N := some 27) (v := ?_) (a' := ?_) (ba 42 1023) rfl rfl (take_ofW HT_.out HW_.out (by kernel_rfl)) (fun _ _ _ h => h) (Or.inl ⟨by rfl,?_⟩) hHeld ?_ ?_
             rotate_left
             · rintro w' ⟨s0,s1,s2,s3,s4,s5,s6,s7,s8⟩
               go_simp
               with_reducible rfl
             rotate_left
             · simp only [Act.put,NRM]
               rfl
             refine one_ (i := 10) (N := some 28) (ba 42 2047) rfl rfl (one_of HT_.out (by kernel_rfl)) (by decide) (fun K hK => ?_)
             refine goes_ Tryz.func15 (by kernel_rfl) rfl #[.agg #[.slice A0_0 l0_0.length c0_0,.int .i64 a0_1,.slice (some ad631) l0_2.length c0_2,.int .i64 a0_3,.int .i64 a0_4]] (by rfl) rfl rfl (by (try simp only [List.map_toArray,List.map_cons,List.map_nil]);first | done | rfl | (simp only [List.length_drop,List.length_take];rfl)) ?_
             with_reducible refine (q4_Basin.calls k _ _ l0_0 a0_1 _ _ l0_2 a0_3 a0_4 true _ ?side1 ?side2 ?side3 ?side4 A13.out).mono ?_
             (case side1 => exact kC HR0_0.out HB.out)
             (case side2 => exact HC0_0.out)
             (case side3 => exact kC HR0_2.out HB.out)
             (case side4 => exact HC0_2.out)
             rintro e w25 ⟨rfl,hb⟩
             refine ⟨_,rfl,?_⟩
             replace BK624 := (kmv hb BK624)
             replace BK625 := (kmv hb BK625)
             replace HB := am (below_step (HB.out) hb)
             (try clear hb)
             (try clear hb2)
             (try clear hk)
             (try clear hi)
             refine hK.out _ _ ⟨(blk_cell BK624.out 0).trans rfl,(blk_cell BK624.out 1).trans rfl,(blk_cell BK624.out 2).trans rfl,(blk_cell BK624.out 3).trans rfl,(blk_cell BK624.out 4).trans rfl,(blk_cell BK625.out 0).trans rfl,(blk_cell BK625.out 1).trans rfl,((HB.out.cell (wbl hw631_0)).trans hw631_0),((HB.out.cell (wbl hw631_1)).trans hw631_1)⟩ (fun hHeld => ?_)
             clear hK K
             refine norm_ (a' := ?_) ?_ ?_
             rotate_left
             · show Act.put _ (some 28) _ = _
               simp only [Act.put,NRM]
               rfl
             refine pure_ (i := 11) (N := some 29) (v := ?_) (a' := ?_) (ba 42 4095) rfl rfl (any_of HT_.out (by kernel_rfl)) (fun _ _ _ h => h) (Or.inl ⟨by rfl,?_⟩) ?_ ?_
             rotate_left
             · intro w'
               go_simp
               with_reducible rfl
             rotate_left
             · simp only [Act.put,NRM]
               rfl
             refine pure_ (i := 12) (N := some 30) (v := ?_) (a' := ?_) (ba 42 8191) rfl rfl (any_of HT_.out (by kernel_rfl)) (fun _ _ _ h => h) (Or.inl ⟨by rfl,?_⟩) ?_ ?_
             rotate_left
             · intro w'
               go_simp
               with_reducible rfl
             rotate_left
             · simp only [Act.put,NRM]
               rfl
             refine pure_ (i := 13) (N := some 31) (v := ?_) (a' := ?_) (ba 42 16383) rfl rfl (any_of HT_.out (by kernel_rfl)) (fun _ _ _ h => h) (Or.inl ⟨by rfl,?_⟩) ?_ ?_
             rotate_left
             · intro w'
               go_simp
               with_reducible rfl
             rotate_left
             · simp only [Act.put,NRM]
               rfl
             refine pure_ (i := 14) (N := some 32) (v := ?_) (a' := ?_) (ba 42 32767) rfl rfl (any_of HT_.out (by kernel_rfl)) (fun _ _ _ h => h) (Or.inl ⟨by rfl,?_⟩) ?_ ?_
             rotate_left
             · intro w'
               go_simp
               with_reducible rfl
             rotate_left
             · simp only [Act.put,NRM]
               rfl
             refine one_ (i := 15) (N := some 33) (ba 42 65535) rfl rfl (one_of HT_.out (by kernel_rfl)) (by decide) (fun K hK => ?_)
             refine goes_ Tryz.func17 (by kernel_rfl) rfl #[.int .i64 a1] (by rfl) rfl rfl (by (try simp only [List.map_toArray,List.map_cons,List.map_nil]);first | done | rfl | (simp only [List.length_drop,List.length_take];rfl)) ?_
             with_reducible refine (q4_Cups.calls a1 true _ A15.out).mono ?_
             rintro e w' ⟨rfl,⟨nd,rfl⟩⟩
             refine ⟨_,rfl,?_⟩
             refine hK.out _ _ ⟨(blk_cell BK624.out 0).trans rfl,(blk_cell BK624.out 1).trans rfl,(blk_cell BK624.out 2).trans rfl,(blk_cell BK624.out 3).trans rfl,(blk_cell BK624.out 4).trans rfl,(blk_cell BK625.out 0).trans rfl,(blk_cell BK625.out 1).trans rfl,((HB.out.cell (wbl hw631_0)).trans hw631_0),((HB.out.cell (wbl hw631_1)).trans hw631_1)⟩ (fun hHeld => ?_)
             clear hK K
             refine norm_ (a' := ?_) ?_ ?_
             rotate_left
             · show Act.put _ (some 33) _ = _
               simp only [Act.put,NRM]
               rfl
             refine pure_ (i := 16) (N := some 34) (v := ?_) (a' := ?_) (ba 42 131071) rfl rfl (any_of HT_.out (by kernel_rfl)) (fun _ _ _ h => h) (Or.inl ⟨by rfl,?_⟩) ?_ ?_
             rotate_left
             · intro w'
               go_simp
               with_reducible rfl
             rotate_left
             · simp only [Act.put,NRM]
               rfl
             refine pure_ (i := 17) (N := some 35) (v := ?_) (a' := ?_) (ba 42 262143) rfl rfl (any_of HT_.out (by kernel_rfl)) (fun _ _ _ h => h) (Or.inl ⟨by rfl,?_⟩) ?_ ?_
             rotate_left
             · intro w'
               go_simp
               with_reducible rfl
             rotate_left
             · simp only [Act.put,NRM]
               rfl
             refine pure_ (i := 18) (N := some 36) (v := ?_) (a' := ?_) (ba 42 524287) rfl rfl (any_of HT_.out (by kernel_rfl)) (fun _ _ _ h => h) (Or.inl ⟨by rfl,?_⟩) ?_ ?_
             rotate_left
             · intro w'
               go_simp
               with_reducible rfl
             rotate_left
             · simp only [Act.put,NRM]
               rfl
             refine pure_ (i := 20) (N := some 38) (v := ?_) (a' := ?_) (ba 42 1572863) rfl rfl (any_of HT_.out (by kernel_rfl)) (fun _ _ _ h => h) (Or.inl ⟨by rfl,?_⟩) ?_ ?_
             rotate_left
             · intro w'
               go_simp
               with_reducible rfl
             rotate_left
             · simp only [Act.put,NRM]
               rfl
             refine take_ (i := 19) (N := some 37) (v := ?_) (a' := ?_) (ba 42 2097151) rfl rfl (take_ofW HT_.out HW_.out (by kernel_rfl)) (fun _ _ _ h => h) (Or.inl ⟨by rfl,?_⟩) hHeld ?_ ?_
             rotate_left
             · rintro w' ⟨s0,s1,s2,s3,s4,s5,s6,s7,s8⟩
               go_simp
               with_reducible rfl
             rotate_left
             · simp only [Act.put,NRM]
               rfl
             refine one_ (i := 21) (N := some 39) (ba 42 4194303) rfl rfl (one_of HT_.out (by kernel_rfl)) (by decide) (fun K hK => ?_)
             refine goes_ Tryz.func26 (by kernel_rfl) rfl #[.agg #[.slice A0_0 l0_0.length c0_0,.int .i64 a0_1,.slice (some ad631) l0_2.length c0_2,.int .i64 a0_3,.int .i64 a0_4],.slice A2 l2.length c2] (by rfl) rfl rfl (by (try simp only [List.map_toArray,List.map_cons,List.map_nil]);first | done | rfl | (simp only [List.length_drop,List.length_take];rfl)) ?_
             with_reducible refine (q4_Counts.calls k _ _ l0_0 a0_1 _ _ l0_2 a0_3 a0_4 _ _ l2 true _ ?side1 ?side2 ?side3 ?side4 ?side5 ?side6 A17.out).mono ?_
             (case side1 => repeat (first | exact (kC HR0_0.out (pw_below_drewN HB.out _)) | (with_reducible refine Kd.C_alloc ?_ _) | (with_reducible refine Kd.C_drewN ?_ _) | (with_reducible refine Kd.C_drew ?_)))
             (case side2 => exact HC0_0.out)
             (case side3 => repeat (first | exact (kC HR0_2.out (pw_below_drewN HB.out _)) | (with_reducible refine Kd.C_alloc ?_ _) | (with_reducible refine Kd.C_drewN ?_ _) | (with_reducible refine Kd.C_drew ?_)))
             (case side4 => exact HC0_2.out)
             (case side5 => repeat (first | exact (kC HR2.out (pw_below_drewN HB.out _)) | (with_reducible refine Kd.C_alloc ?_ _) | (with_reducible refine Kd.C_drewN ?_ _) | (with_reducible refine Kd.C_drew ?_)))
             (case side6 => exact HC2.out)
             rintro e w26 ⟨rfl,hb⟩
             refine ⟨_,rfl,?_⟩
             replace BK624 := (kmv hb BK624)
             replace BK625 := (kmv hb BK625)
             replace HB := am (below_step (pw_below_drewN HB.out _) hb)
             (try clear hb)
             (try clear hb2)
             (try clear hk)
             (try clear hi)
             refine hK.out _ _ ⟨(blk_cell BK624.out 0).trans rfl,(blk_cell BK624.out 1).trans rfl,(blk_cell BK624.out 2).trans rfl,(blk_cell BK624.out 3).trans rfl,(blk_cell BK624.out 4).trans rfl,(blk_cell BK625.out 0).trans rfl,(blk_cell BK625.out 1).trans rfl,((HB.out.cell (wbl hw631_0)).trans hw631_0),((HB.out.cell (wbl hw631_1)).trans hw631_1)⟩ (fun hHeld => ?_)
             clear hK K
             refine norm_ (a' := ?_) ?_ ?_
             rotate_left
             · show Act.put _ (some 39) _ = _
               simp only [Act.put,NRM]
               rfl
             refine pure_ (i := 22) (N := some 40) (v := ?_) (a' := ?_) (ba 42 8388607) rfl rfl (any_of HT_.out (by kernel_rfl)) (fun _ _ _ h => h) (Or.inl ⟨by rfl,?_⟩) ?_ ?_
             rotate_left
             · intro w'
               go_simp
               with_reducible rfl
             rotate_left
             · simp only [Act.put,NRM]
               rfl
             refine pure_ (i := 23) (N := some 41) (v := ?_) (a' := ?_) (ba 42 16777215) rfl rfl (any_of HT_.out (by kernel_rfl)) (fun _ _ _ h => h) (Or.inl ⟨by rfl,?_⟩) ?_ ?_
             rotate_left
             · intro w'
               go_simp
               with_reducible rfl
             rotate_left
             · simp only [Act.put,NRM]
               rfl
             refine pure_ (i := 24) (N := some 42) (v := ?_) (a' := ?_) (ba 42 33554431) rfl rfl (any_of HT_.out (by kernel_rfl)) (fun _ _ _ h => h) (Or.inl ⟨by rfl,?_⟩) ?_ ?_
             rotate_left
             · intro w'
               go_simp
               with_reducible rfl
             rotate_left
             · simp only [Act.put,NRM]
               rfl
             refine take_ (i := 25) (N := some 43) (v := ?_) (a' := ?_) (ba 42 67108863) rfl rfl (take_ofW HT_.out HW_.out (by kernel_rfl)) (fun _ _ _ h => h) (Or.inl ⟨by rfl,?_⟩) hHeld ?_ ?_
             rotate_left
             · rintro w' ⟨s0,s1,s2,s3,s4,s5,s6,s7,s8⟩
               go_simp
               with_reducible rfl
             rotate_left
             · simp only [Act.put,NRM]
               rfl
             refine take_ (i := 26) (N := some 44) (v := ?_) (a' := ?_) (ba 42 134217727) rfl rfl (take_ofW HT_.out HW_.out (by kernel_rfl)) (fun _ _ _ h => h) (Or.inl ⟨by rfl,?_⟩) hHeld ?_ ?_
             rotate_left
             · rintro w' ⟨s0,s1,s2,s3,s4,s5,s6,s7,s8⟩
               go_simp
               with_reducible rfl
             rotate_left
             · simp only [Act.put,NRM]
               rfl
             refine one_ (i := 27) (N := some 45) (ba 42 268435455) rfl rfl (one_of HT_.out (by kernel_rfl)) (by decide) (fun K hK => ?_)
             refine goes_ Tryz.func27 (by kernel_rfl) rfl #[.agg #[.slice A0_0 l0_0.length c0_0,.int .i64 a0_1,.slice (some ad631) l0_2.length c0_2,.int .i64 a0_3,.int .i64 a0_4],.agg #[.int .i64 a3_0,.int .i64 a3_1]] (by rfl) rfl rfl (by (try simp only [List.map_toArray,List.map_cons,List.map_nil]);first | done | rfl | (simp only [List.length_drop,List.length_take];rfl)) ?_
             with_reducible refine (q4_Change.calls _ _ l0_0 a0_1 _ _ l0_2 a0_3 a0_4 a3_0 a3_1 true _ ?side1 ?side2 ?side3 ?side4 A19.out).mono ?_
             (case side1 => exact kC HR0_0.out HB.out)
             (case side2 => exact HC0_0.out)
             (case side3 => exact kC HR0_2.out HB.out)
             (case side4 => exact HC0_2.out)
             rintro e w27 ⟨rfl,hb⟩
             refine ⟨_,rfl,?_⟩
             replace BK624 := (kmv hb BK624)
             replace BK625 := (kmv hb BK625)
             replace HB := am (below_step (HB.out) hb)
             (try clear hb)
             (try clear hb2)
             (try clear hk)
             (try clear hi)
             refine hK.out _ _ ⟨(blk_cell BK624.out 0).trans rfl,(blk_cell BK624.out 1).trans rfl,(blk_cell BK624.out 2).trans rfl,(blk_cell BK624.out 3).trans rfl,(blk_cell BK624.out 4).trans rfl,(blk_cell BK625.out 0).trans rfl,(blk_cell BK625.out 1).trans rfl,((HB.out.cell (wbl hw631_0)).trans hw631_0),((HB.out.cell (wbl hw631_1)).trans hw631_1)⟩ (fun hHeld => ?_)
             clear hK K
             refine norm_ (a' := ?_) ?_ ?_
             rotate_left
             · show Act.put _ (some 45) _ = _
               simp only [Act.put,NRM]
               rfl
             refine pure_ (i := 28) (N := some 46) (v := ?_) (a' := ?_) (ba 42 536870911) rfl rfl (any_of HT_.out (by kernel_rfl)) (fun _ _ _ h => h) (Or.inl ⟨by rfl,?_⟩) ?_ ?_
             rotate_left
             · intro w'
               go_simp
               with_reducible rfl
             rotate_left
             · simp only [Act.put,NRM]
               rfl
             refine pure_ (i := 29) (N := some 47) (v := ?_) (a' := ?_) (ba 42 1073741823) rfl rfl (any_of HT_.out (by kernel_rfl)) (fun _ _ _ h => h) (Or.inl ⟨by rfl,?_⟩) ?_ ?_
             rotate_left
             · intro w'
               go_simp
               with_reducible rfl
             rotate_left
             · simp only [Act.put,NRM]
               rfl
             refine pure_ (i := 30) (N := some 48) (v := ?_) (a' := ?_) (ba 42 2147483647) rfl rfl (any_of HT_.out (by kernel_rfl)) (fun _ _ _ h => h) (Or.inl ⟨by rfl,?_⟩) ?_ ?_
             rotate_left
             · intro w'
               go_simp
               with_reducible rfl
             rotate_left
             · simp only [Act.put,NRM]
               rfl
             refine pure_ (i := 31) (N := some 49) (v := ?_) (a' := ?_) (ba 42 4294967295) rfl rfl (any_of HT_.out (by kernel_rfl)) (fun _ _ _ h => h) (Or.inl ⟨by rfl,?_⟩) ?_ ?_
             rotate_left
             · intro w'
               go_simp
               with_reducible rfl
             rotate_left
             · simp only [Act.put,NRM]
               rfl
             refine pure_ (i := 33) (N := some 51) (v := ?_) (a' := ?_) (ba 42 12884901887) rfl rfl (any_of HT_.out (by kernel_rfl)) (fun _ _ _ h => h) (Or.inl ⟨by rfl,?_⟩) ?_ ?_
             rotate_left
             · intro w'
               go_simp
               with_reducible rfl
             rotate_left
             · simp only [Act.put,NRM]
               rfl
             refine pure_ (i := 35) (N := some 53) (v := ?_) (a' := ?_) (ba 42 47244640255) rfl rfl (any_of HT_.out (by kernel_rfl)) (fun _ _ _ h => h) (Or.inl ⟨by rfl,?_⟩) ?_ ?_
             rotate_left
             · intro w'
               go_simp
               with_reducible rfl
             rotate_left
             · simp only [Act.put,NRM]
               rfl
             refine take_ (i := 32) (N := some 50) (v := ?_) (a' := ?_) (ba 42 51539607551) rfl rfl (take_ofW HT_.out HW_.out (by kernel_rfl)) (fun _ _ _ h => h) (Or.inl ⟨by rfl,?_⟩) hHeld ?_ ?_
             rotate_left
             · rintro w' ⟨s0,s1,s2,s3,s4,s5,s6,s7,s8⟩
               go_simp
               with_reducible rfl
             rotate_left
             · simp only [Act.put,NRM]
               rfl
             refine take_ (i := 34) (N := some 52) (v := ?_) (a' := ?_) (ba 42 68719476735) rfl rfl (take_ofW HT_.out HW_.out (by kernel_rfl)) (fun _ _ _ h => h) (Or.inl ⟨by rfl,?_⟩) hHeld ?_ ?_
             rotate_left
             · rintro w' ⟨s0,s1,s2,s3,s4,s5,s6,s7,s8⟩
               go_simp
               with_reducible rfl
             rotate_left
             · simp only [Act.put,NRM]
               rfl
             refine take_ (i := 36) (N := some 54) (v := ?_) (a' := ?_) (ba 42 137438953471) rfl rfl (take_ofW HT_.out HW_.out (by kernel_rfl)) (fun _ _ _ h => h) (Or.inl ⟨by rfl,?_⟩) hHeld ?_ ?_
             rotate_left
             · rintro w' ⟨s0,s1,s2,s3,s4,s5,s6,s7,s8⟩
               go_simp
               with_reducible rfl
             rotate_left
             · simp only [Act.put,NRM]
               rfl
             refine pure_ (i := 37) (N := some 55) (v := ?_) (a' := ?_) (ba 42 274877906943) rfl rfl (any_of HT_.out (by kernel_rfl)) (fun _ _ _ h => h) (Or.inl ⟨by rfl,?_⟩) ?_ ?_
             rotate_left
             · intro w'
               go_simp
               with_reducible rfl
             rotate_left
             · simp only [Act.put,NRM]
               rfl
             refine pure_ (i := 38) (N := some 56) (v := ?_) (a' := ?_) (ba 42 549755813887) rfl rfl (any_of HT_.out (by kernel_rfl)) (fun _ _ _ h => h) (Or.inl ⟨by rfl,?_⟩) ?_ ?_
             rotate_left
             · intro w'
               go_simp
               with_reducible rfl
             rotate_left
             · simp only [Act.put,NRM]
               rfl
             refine take_ (i := 39) (N := some 57) (v := ?_) (a' := ?_) (ba 42 1099511627775) rfl rfl (take_ofW HT_.out HW_.out (by kernel_rfl)) (fun _ _ _ h => h) (Or.inl ⟨by rfl,?_⟩) hHeld ?_ ?_
             rotate_left
             · rintro w' ⟨s0,s1,s2,s3,s4,s5,s6,s7,s8⟩
               go_simp
               with_reducible rfl
             rotate_left
             · simp only [Act.put,NRM]
               rfl
             refine pure_ (i := 40) (N := some 58) (v := ?_) (a' := ?_) (ba 42 2199023255551) rfl rfl (any_of HT_.out (by kernel_rfl)) (fun _ _ _ h => h) (Or.inl ⟨by rfl,?_⟩) ?_ ?_
             rotate_left
             · intro w'
               go_simp
               with_reducible rfl
             rotate_left
             · simp only [Act.put,NRM]
               rfl
             refine pure_ (i := 41) (N := some 59) (v := ?_) (a' := ?_) (ba 42 4398046511103) rfl rfl (any_of HT_.out (by kernel_rfl)) (fun _ _ _ h => h) (Or.inl ⟨by rfl,?_⟩) ?_ ?_
             rotate_left
             · intro w'
               go_simp
               with_reducible rfl
             rotate_left
             · simp only [Act.put,NRM]
               rfl
             refine done_ (done_of HT_.out (by kernel_rfl)) ?_
             try go_wp2
             go_meet
             case rel => exact ⟨_,((a3_1 == ((rd_T48 l0_2 a3_0).f1))),(by first | rfl | (simp;done) | (simp [*];done)),H',⟨by first | omega | exact Nat.le_refl _⟩,⟨BK624.out⟩,⟨BK625.out⟩,⟨HB.out⟩⟩
 case rest =>
  as_aux_lemma =>
   clear HC5
   obtain ⟨kq,x59_4,rfl,HA,HJ4,BK624,BK625,HB⟩ := hcut
   cases kq with
   | zero => exact absurd HA.out (by simp [l4_CastleFound.j0])
   | succ kj4 =>
    have H := HA.out
    clear HA
    simp only [l4_CastleFound.j0] at H
    by_cases c45 : x59_4 = true
    · subst c45
      replace H : ((l4_known.f).bind fun t632 => (some t632)) = some r := by rw [if_pos rfl] at H;exact H
      replace H := obm H
      obtain ⟨t632,A460,H⟩ := H
      replace H : (some t632) = some r := H
      have A46 := am A460
      clear A460
      obtain rfl := Option.some.inj H
      go_wp2_with (first | ((with_reducible refine gate_callee (f := 19) rfl ?_);refine goesL_ (some 60) rfl rfl Tryz.func19 (by kernel_rfl) rfl #[] rfl (by (try simp only [List.map_toArray,List.map_cons,List.map_nil]);first | done | rfl | (simp only [List.length_drop,List.length_take];rfl)) ?_;(with_reducible refine (l4_known.calls  t632 _ A46.out).mono ?_);rintro e w47 ⟨rfl,hb⟩;refine ⟨_,rfl,?_⟩;replace BK624 := (kmv hb BK624);replace BK625 := (kmv hb BK625);replace HB := am (below_step (HB.out) hb);(try clear hb);(try clear hb2);(try clear hk);(try clear hi)))
      go_ret
      exact ⟨by first | rfl | (simp [*] <;> rfl),HB.out⟩
    · as_aux_lemma =>
       replace c45 := Bool.eq_false_iff.mpr c45
       subst c45
       replace H : ((ca_Lowered.f kj4 l0_0 a0_1 l0_2 a0_3 a0_4 a1 l2).bind fun bt633 => ((q4_With.f l0_0 a0_1 l0_2 a0_3 a0_4 a3_0 a3_1).bind fun t646 => ((ca_Shares.f kj4 l0_0 a0_1 t646 a0_3 a0_4 a1).bind fun bt649 => (if bt633.2 = 0 then (if bt649.2.2 = 0 then (l4_CastleFound.j1 kj4 l2 bt633.1 bt649.1 ((bt649.1.length : Int) != (l2.length : Int)) a3_0 a3_1) else (l4_CastleFound.j1 kj4 l2 bt633.1 bt649.1 true a3_0 a3_1)) else (l4_CastleFound.j1 kj4 l2 bt633.1 bt649.1 true a3_0 a3_1))))) = some r := by rw [if_neg (show ¬ (false = true) by decide)] at H;exact H
       replace H := obm H
       obtain ⟨⟨t633,t636⟩,A480,H⟩ := H
       replace H : ((q4_With.f l0_0 a0_1 l0_2 a0_3 a0_4 a3_0 a3_1).bind fun t646 => ((ca_Shares.f kj4 l0_0 a0_1 t646 a0_3 a0_4 a1).bind fun bt649 => (if t636 = 0 then (if bt649.2.2 = 0 then (l4_CastleFound.j1 kj4 l2 t633 bt649.1 ((bt649.1.length : Int) != (l2.length : Int)) a3_0 a3_1) else (l4_CastleFound.j1 kj4 l2 t633 bt649.1 true a3_0 a3_1)) else (l4_CastleFound.j1 kj4 l2 t633 bt649.1 true a3_0 a3_1)))) = some r := H
       have A48 := am A480
       clear A480
       replace H := obm H
       obtain ⟨t646,A490,H⟩ := H
       replace H : ((ca_Shares.f kj4 l0_0 a0_1 t646 a0_3 a0_4 a1).bind fun bt649 => (if t636 = 0 then (if bt649.2.2 = 0 then (l4_CastleFound.j1 kj4 l2 t633 bt649.1 ((bt649.1.length : Int) != (l2.length : Int)) a3_0 a3_1) else (l4_CastleFound.j1 kj4 l2 t633 bt649.1 true a3_0 a3_1)) else (l4_CastleFound.j1 kj4 l2 t633 bt649.1 true a3_0 a3_1))) = some r := H
       have A49 := am A490
       clear A490
       replace H := obm H
       obtain ⟨⟨t649,t652,t653⟩,A500,H⟩ := H
       replace H : (if t636 = 0 then (if t653 = 0 then (l4_CastleFound.j1 kj4 l2 t633 t649 ((t649.length : Int) != (l2.length : Int)) a3_0 a3_1) else (l4_CastleFound.j1 kj4 l2 t633 t649 true a3_0 a3_1)) else (l4_CastleFound.j1 kj4 l2 t633 t649 true a3_0 a3_1)) = some r := H
       have A50 := am A500
       clear A500
       have HC51 := am H
       clear H
       have hnb52 := NB624_625.out
       have hnc52 := NB625_624.out
       obtain ⟨hcz53_0,hcz53_1,hcz53_2,hcz53_3,hcz53_4⟩ := cO5 BK624.out
       go_upto_region 5 with (first | ((with_reducible refine gate_callee (f := 28) rfl ?_);refine goesL_ (some 65) rfl rfl Tryz.func28 (by kernel_rfl) rfl #[.agg #[.slice A0_0 l0_0.length c0_0,.int .i64 a0_1,.slice A0_2 l0_2.length c0_2,.int .i64 a0_3,.int .i64 a0_4],.int .i64 a1,.slice A2 l2.length c2] rfl (by (try simp only [List.map_toArray,List.map_cons,List.map_nil]);first | done | rfl | (simp only [List.length_drop,List.length_take];rfl)) ?_;(with_reducible refine (ca_Lowered.calls kj4 _ _ l0_0 a0_1 _ _ l0_2 a0_3 a0_4 a1 _ _ l2 t633 t636 _ ?side1 ?side2 ?side3 ?side4 ?side5 ?side6 A48.out).mono ?_);(case side1 => exact kC HR0_0.out HB.out);(case side2 => exact HC0_0.out);(case side3 => exact kC HR0_2.out HB.out);(case side4 => exact HC0_2.out);(case side5 => exact kC HR2.out HB.out);(case side6 => exact HC2.out);rintro e w54 ⟨v634,rfl,ho0,hb⟩;refine ⟨_,rfl,?_⟩;have HO635 := am (Kd.R_lower (Kd.R_newB ho0 (g := gb625) (o := .cells #[.int .i64 a3_0,.int .i64 a3_1] 44 (0,0)) BK625.out) (below_size (HB.out)));replace BK624 := (kmv hb BK624);replace BK625 := (kmv hb BK625);replace HB := am (below_step (HB.out) hb);(try clear hb);(try clear hb2);(try clear hk);(try clear hi);(try clear ho0);obtain ⟨hcz55_0,hcz55_1,hcz55_2,hcz55_3,hcz55_4⟩ := cO5 BK624.out;obtain ⟨hcz56_0,hcz56_1⟩ := cO2 BK625.out) | ((with_reducible refine gate_callee (f := 29) rfl ?_);refine goesL_ (some 71) rfl rfl Tryz.func29 (by kernel_rfl) rfl #[.agg #[.slice A0_0 l0_0.length c0_0,.int .i64 a0_1,.slice A0_2 l0_2.length c0_2,.int .i64 a0_3,.int .i64 a0_4],.agg #[.int .i64 a3_0,.int .i64 a3_1]] rfl (by (try simp only [List.map_toArray,List.map_cons,List.map_nil]);first | done | rfl | (simp only [List.length_drop,List.length_take];rfl)) ?_;(with_reducible refine (q4_With.calls _ _ l0_0 a0_1 _ _ l0_2 a0_3 a0_4 a3_0 a3_1 t646 _ ?side1 ?side2 ?side3 ?side4 A49.out).mono ?_);(case side1 => exact kC HR0_0.out HB.out);(case side2 => exact HC0_0.out);(case side3 => exact kC HR0_2.out HB.out);(case side4 => exact HC0_2.out);rintro e w57 ⟨v647,rfl,ho0,hb⟩;refine ⟨_,rfl,?_⟩;have HO648 := am (Kd.R_lower ho0 (below_size (HB.out)));replace HO635 := am (Kd.R_below HO635.out hb);replace BK624 := (kmv hb BK624);replace BK625 := (kmv hb BK625);replace HB := am (below_step (HB.out) hb);(try clear hb);(try clear hb2);(try clear hk);(try clear hi);(try clear ho0);obtain ⟨Ao58,co58,eo58⟩ := Kd.R_slice HO648.out;subst eo58) | ((with_reducible refine gate_callee (f := 23) rfl ?_);refine goesL_ (some 73) rfl rfl Tryz.func23 (by kernel_rfl) rfl #[.agg #[.slice A0_0 l0_0.length c0_0,.int .i64 a0_1,.slice Ao58 t646.length co58,.int .i64 a0_3,.int .i64 a0_4],.int .i64 a1] rfl (by (try simp only [List.map_toArray,List.map_cons,List.map_nil]);first | done | rfl | (simp only [List.length_drop,List.length_take];rfl)) ?_;(with_reducible refine (ca_Shares.calls kj4 _ _ l0_0 a0_1 _ _ t646 a0_3 a0_4 a1 t649 t652 t653 _ ?side1 ?side2 ?side3 ?side4 A50.out).mono ?_);(case side1 => exact kC HR0_0.out HB.out);(case side2 => exact HC0_0.out);(case side3 => repeat (first | exact (Kd.R_reads' HO648.out).2.2 | (with_reducible refine Kd.C_alloc ?_ _) | (with_reducible refine Kd.C_drewN ?_ _) | (with_reducible refine Kd.C_drew ?_)));(case side4 => exact (Kd.R_reads' HO648.out).2.1);rintro e w59 ⟨v650,rfl,ho0,hb⟩;refine ⟨_,rfl,?_⟩;have HO651 := am (Kd.R_lower ho0 (below_size (HB.out)));replace HO635 := am (Kd.R_below HO635.out hb);replace HO648 := am (Kd.R_below HO648.out hb);replace BK624 := (kmv hb BK624);replace BK625 := (kmv hb BK625);replace HB := am (below_step (HB.out) hb);(try clear hb);(try clear hb2);(try clear hk);(try clear hi);(try clear ho0)))
       (try simp only [Act.put,List.setIfInBounds_toArray,List.set_cons_zero,List.set_cons_succ])
       go_cut [89] (fun v89 wc => ∃ (kq : Nat) (x89_50 : Bool),v89 = .bool x89_50 ∧ Aside0 (l4_CastleFound.j1 kq l2 t633 t649 x89_50 a3_0 a3_1 = some r) ∧ Aside0 (kq ≤ kj4) ∧ Aside0 (Kd.R k44 44 wc w.heap.size (fun k_ => k_ ≠ gb625) v634 t633) ∧ Aside0 (Kd.R (Kd.int .i64) 3 wc w.heap.size (fun _ => True) v650 t649) ∧ Aside0 (wc.heap[gb624]? = some (.cells #[(.slice A0_0 l0_0.length c0_0),.int .i64 a0_1,(.slice A0_2 l0_2.length c0_2),.int .i64 a0_3,.int .i64 a0_4] 27 (0,0))) ∧ Aside0 (wc.heap[gb625]? = some (.cells #[.int .i64 a3_0,.int .i64 a3_1] 44 (0,0))) ∧ Aside0 (Below w.heap.size w wc))
       case first =>
        as_aux_lemma =>
         have H := HC51.out
         clear HC51
         by_cases c60 : t636 = 0
         case neg =>
          rw [if_neg c60] at H
          exact absurd H l4_CastleFound.j1_dead
         as_aux_lemma =>
          rw [if_pos c60] at H
          have c60b0 : (t636 == 0) = true := beq_iff_eq.mpr c60
          have c60b1 : (t636 != 0) = false := bne_eq_false_iff_eq.mpr c60
          clear c60
          (first | rw [c60b0] | (simp only [i64_w,i32_w];rw [c60b0]) | skip)
          by_cases c61 : t653 = 0
          case neg =>
           rw [if_neg c61] at H
           exact absurd H l4_CastleFound.j1_dead
          rw [if_pos c61] at H
          have c61b0 : (t653 == 0) = true := beq_iff_eq.mpr c61
          have c61b1 : (t653 != 0) = false := bne_eq_false_iff_eq.mpr c61
          clear c61
          replace H' := am H
          obtain ⟨Ao62,co62,eo62⟩ := Kd.R_slice HO651.out
          subst eo62
          go_wp2
          go_meet
          case rel => exact ⟨_,(((t649.length : Int) != (l2.length : Int))),(by first | rfl | (simp;done) | (simp [*];done)),H',⟨by have := HJ4.out;first | omega | exact Nat.le_refl _⟩,⟨by (with_reducible repeat (first | apply Kd.R_alloc | apply Kd.R_drewN | apply Kd.R_drew));exact Kd.R_mono HO635.out (fun _ hk => hk.2)⟩,⟨by (with_reducible repeat (first | apply Kd.R_alloc | apply Kd.R_drewN | apply Kd.R_drew));exact HO651.out⟩,⟨BK624.out⟩,⟨BK625.out⟩,⟨HB.out⟩⟩
       case rest =>
        as_aux_lemma =>
         clear HC51
         obtain ⟨kq,x89_50,rfl,HA,HJ50,HO_9,HO_11,BK624,BK625,HB⟩ := hcut
         cases kq with
         | zero => exact absurd HA.out (by simp [l4_CastleFound.j1])
         | succ kj50 =>
          have H := HA.out
          clear HA
          simp only [l4_CastleFound.j1] at H
          by_cases c63 : x89_50 = true
          · subst c63
            replace H : (none) = some r := by rw [if_pos rfl] at H;exact H
            exact absurd H (by simp)
          · as_aux_lemma =>
             replace c63 := Bool.eq_false_iff.mpr c63
             subst c63
             replace H : (l4_CastleFound.l0 kj50 l2 t633 t649 true 0 a3_0 a3_1) = some r := by rw [if_neg (show ¬ (false = true) by decide)] at H;exact H
             replace H' := am H
             go_wp2
             go_loopg [14,15] kj50 (fun kq v14 v15 w' => ∃ (x14_3 : Bool) (x15_3 : Int),v14 = .bool x14_3 ∧ v15 = .int .i64 x15_3 ∧ Aside0 (l4_CastleFound.l0 kq l2 t633 t649 x14_3 x15_3 a3_0 a3_1 = some r) ∧ Aside0 (kq ≤ kj50) ∧ Aside0 (Kd.R k44 44 w' w.heap.size (fun k_ => k_ ≠ gb625) v634 t633) ∧ Aside0 (Kd.R (Kd.int .i64) 3 w' w.heap.size (fun _ => True) v650 t649) ∧ Aside0 (w'.heap[gb624]? = some (.cells #[(.slice A0_0 l0_0.length c0_0),.int .i64 a0_1,(.slice A0_2 l0_2.length c0_2),.int .i64 a0_3,.int .i64 a0_4] 27 (0,0))) ∧ Aside0 (w'.heap[gb625]? = some (.cells #[.int .i64 a3_0,.int .i64 a3_1] 44 (0,0))) ∧ Aside0 (Below w.heap.size w w'))
             case atStart => exact ⟨(true),(0),(by first | rfl | (simp;done) | (simp [*];done)),(by first | rfl | (simp;done) | (simp [*];done)),H',⟨Nat.le_refl _⟩,⟨by (with_reducible repeat (first | apply Kd.R_alloc | apply Kd.R_drewN | apply Kd.R_drew));exact HO_9.out⟩,⟨by (with_reducible repeat (first | apply Kd.R_alloc | apply Kd.R_drewN | apply Kd.R_drew));exact HO_11.out⟩,⟨BK624.out⟩,⟨BK625.out⟩,⟨HB.out⟩⟩
             case round =>
              as_aux_lemma =>
               clear H'
               obtain ⟨x14_3,x15_3,rfl,rfl,HA,HK3,HO_9,HO_11,BK624,BK625,HB⟩ := hrel
               cases gk with
               | zero => exact absurd HA.out (by simp [l4_CastleFound.l0])
               | succ k3 =>
                have H := HA.out
                clear HA
                simp only [l4_CastleFound.l0] at H
                by_cases c64 : x15_3 < (t649.length : Int)
                case neg =>
                 as_aux_lemma =>
                  rw [if_neg c64] at H
                  have c64b0 : decide (x15_3 < (t649.length : Int)) = false := decide_eq_false c64
                  clear c64
                  replace H' := am H
                  obtain ⟨Ao75,co75,eo75⟩ := Kd.R_slice HO_11.out
                  subst eo75
                  go_wp2
                  go_loopg [16,17] k3 (fun kq v16 v17 w' => ∃ (x16_4 : Bool) (x17_4 : Int),v16 = .bool x16_4 ∧ v17 = .int .i64 x17_4 ∧ Aside0 (l4_CastleFound.l1 kq t633 x14_3 x16_4 x17_4 a3_0 a3_1 = some r) ∧ Aside0 (kq ≤ k3) ∧ Aside0 (Kd.R k44 44 w' w.heap.size (fun k_ => k_ ≠ gb625) v634 t633) ∧ Aside0 (w'.heap[gb624]? = some (.cells #[(.slice A0_0 l0_0.length c0_0),.int .i64 a0_1,(.slice A0_2 l0_2.length c0_2),.int .i64 a0_3,.int .i64 a0_4] 27 (0,0))) ∧ Aside0 (w'.heap[gb625]? = some (.cells #[.int .i64 a3_0,.int .i64 a3_1] 44 (0,0))) ∧ Aside0 (Below w.heap.size w w'))
                  case atStart => exact ⟨(false),(0),(by first | rfl | (simp;done) | (simp [*];done)),(by first | rfl | (simp;done) | (simp [*];done)),H',⟨Nat.le_refl _⟩,⟨by (with_reducible repeat (first | apply Kd.R_alloc | apply Kd.R_drewN | apply Kd.R_drew));exact HO_9.out⟩,⟨BK624.out⟩,⟨BK625.out⟩,⟨HB.out⟩⟩
                  case round =>
                   as_aux_lemma =>
                    clear H'
                    obtain ⟨x16_4,x17_4,rfl,rfl,HA,HK4,HO_9,BK624,BK625,HB⟩ := hrel
                    cases gk with
                    | zero => exact absurd HA.out (by simp [l4_CastleFound.l1])
                    | succ k4 =>
                     have H := HA.out
                     clear HA
                     simp only [l4_CastleFound.l1] at H
                     by_cases c76 : x17_4 < (t633.length : Int)
                     case neg =>
                      as_aux_lemma =>
                       rw [if_neg c76] at H
                       have c76b0 : decide (x17_4 < (t633.length : Int)) = false := decide_eq_false c76
                       clear c76
                       by_cases c83 : (x16_4 == x14_3) = true
                       case neg =>
                        rw [if_neg c83] at H
                        exact absurd H (by simp)
                       rw [if_pos c83] at H
                       have c83b0 : (x16_4 == x14_3) = true := c83
                       (try (have c83b1 : decide (x16_4 = x14_3) = true := by simpa using c83))
                       (try (have c83b2 : (x16_4 == x14_3) = true := by simpa using c83))
                       clear c83
                       replace H := obm H
                       obtain ⟨t659,A840,H⟩ := H
                       replace H : (some t659) = some r := H
                       have A84 := am A840
                       clear A840
                       obtain rfl := Option.some.inj H
                       obtain ⟨Ao85,co85,eo85⟩ := Kd.R_slice HO_9.out
                       subst eo85
                       go_wp2_with (first | (go_at_call 19;(with_reducible refine (l4_known.calls  t659 _ A84.out).mono ?_);rintro e w86 ⟨rfl,hb⟩;replace HO_9 := am (Kd.R_below HO_9.out hb);replace BK624 := (kmv hb BK624);replace BK625 := (kmv hb BK625);replace HB := am (below_step (HB.out) hb);(try clear hb);(try clear hb2);(try clear hk);(try clear hi)))
                       go_ret
                       exact ⟨by first | rfl | (simp [*] <;> rfl),HB.out⟩
                     as_aux_lemma =>
                      rw [if_pos c76] at H
                      have c76b0 : decide (x17_4 < (t633.length : Int)) = true := decide_eq_true c76
                      clear c76
                      by_cases c77 : x16_4 = true
                      · as_aux_lemma =>
                         subst c77
                         replace H : (l4_CastleFound.l1 k4 t633 x14_3 true (wrap64 (x17_4 + 1)) a3_0 a3_1) = some r := by rw [if_pos rfl] at H;exact H
                         replace H' := am H
                         obtain ⟨Ao78,co78,eo78⟩ := Kd.R_slice HO_9.out
                         subst eo78
                         try go_wp2
                         replace HO_9 := am (Kd.R_drew HO_9.out)
                         replace BK624 := am (blk_drew BK624.out)
                         replace BK625 := am (blk_drew BK625.out)
                         replace HB := am (below_drew1 HB.out)
                         refine start_ (n := 10) (S := fun w' => True) (ds := []) (ba 10 0) (by kernel_rfl) rfl rfl trivial (fun hHeld => ?_);refine with_tabW l4_CastleFound.tab16 l4_CastleFound.bits16 (fun HT_ HW_ => ?_)
                         generalize wr.drew = w79 at HO_9 BK624 BK625 HB hHeld ⊢
                         refine pure_ (i := 0) (N := some 127) (v := ?_) (a' := ?_) (ba 10 1) rfl rfl (any_of HT_.out (by kernel_rfl)) (fun _ _ _ h => h) (Or.inl ⟨by rfl,?_⟩) ?_ ?_
                         rotate_left
                         · intro w'
                           go_simp
                           with_reducible rfl
                         rotate_left
                         · simp only [Act.put,NRM]
                           rfl
                         refine pure_ (i := 1) (N := some 128) (v := ?_) (a' := ?_) (ba 10 3) rfl rfl (any_of HT_.out (by kernel_rfl)) (fun _ _ _ h => h) (Or.inl ⟨by rfl,?_⟩) ?_ ?_
                         rotate_left
                         · intro w'
                           go_simp
                           with_reducible rfl
                         rotate_left
                         · simp only [Act.put,NRM]
                           rfl
                         refine pure_ (i := 2) (N := some 129) (v := undef) (a' := ?_) (ba 10 7) rfl rfl (any_of HT_.out (by kernel_rfl)) (fun _ _ _ h => h) (Or.inr ⟨by rfl,rfl⟩) ?_ ?_
                         rotate_left
                         · simp only [Act.put,NRM]
                           rfl
                         refine pure_ (i := 3) (N := some 130) (v := undef) (a' := ?_) (ba 10 15) rfl rfl (any_of HT_.out (by kernel_rfl)) (fun _ _ _ h => h) (Or.inr ⟨by rfl,rfl⟩) ?_ ?_
                         rotate_left
                         · simp only [Act.put,NRM]
                           rfl
                         refine pure_ (i := 4) (N := some 131) (v := undef) (a' := ?_) (ba 10 31) rfl rfl (any_of HT_.out (by kernel_rfl)) (fun _ _ _ h => h) (Or.inr ⟨by rfl,rfl⟩) ?_ ?_
                         rotate_left
                         · simp only [Act.put,NRM]
                           rfl
                         refine pure_ (i := 5) (N := some 132) (v := undef) (a' := ?_) (ba 10 63) rfl rfl (any_of HT_.out (by kernel_rfl)) (fun _ _ _ h => h) (Or.inr ⟨by rfl,rfl⟩) ?_ ?_
                         rotate_left
                         · simp only [Act.put,NRM]
                           rfl
                         refine pure_ (i := 6) (N := some 133) (v := undef) (a' := ?_) (ba 10 127) rfl rfl (any_of HT_.out (by kernel_rfl)) (fun _ _ _ h => h) (Or.inr ⟨by rfl,rfl⟩) ?_ ?_
                         rotate_left
                         · simp only [Act.put,NRM]
                           rfl
                         refine pure_ (i := 7) (N := some 134) (v := undef) (a' := ?_) (ba 10 255) rfl rfl (any_of HT_.out (by kernel_rfl)) (fun _ _ _ h => h) (Or.inr ⟨by rfl,rfl⟩) ?_ ?_
                         rotate_left
                         · simp only [Act.put,NRM]
                           rfl
                         refine pure_ (i := 8) (N := some 135) (v := ?_) (a' := ?_) (ba 10 511) rfl rfl (any_of HT_.out (by kernel_rfl)) (fun _ _ _ h => h) (Or.inl ⟨by rfl,?_⟩) ?_ ?_
                         rotate_left
                         · intro w'
                           go_simp
                           with_reducible rfl
                         rotate_left
                         · simp only [Act.put,NRM]
                           rfl
                         refine pure_ (i := 9) (N := some 16) (v := ?_) (a' := ?_) (ba 10 1023) rfl rfl (any_of HT_.out (by kernel_rfl)) (fun _ _ _ h => h) (Or.inl ⟨by rfl,?_⟩) ?_ ?_
                         rotate_left
                         · intro w'
                           go_simp
                           with_reducible rfl
                         rotate_left
                         · simp only [Act.put,NRM]
                           rfl
                         refine done_ (done_of HT_.out (by kernel_rfl)) ?_
                         try go_wp2
                         go_roundg k4
                         case measure => have := HJ4.out;have := HJ50.out;have := HK3.out;have := HK4.out;omega
                         case rel => exact ⟨(true),(wrap64 (x17_4 + 1)),(by first | rfl | (simp;done) | (simp [*];done)),(by first | rfl | (simp;done) | (simp [*];done)),H',⟨by have := HJ4.out;have := HJ50.out;have := HK3.out;have := HK4.out;omega⟩,⟨by (with_reducible repeat (first | apply Kd.R_alloc | apply Kd.R_drewN | apply Kd.R_drew));exact HO_9.out⟩,⟨BK624.out⟩,⟨BK625.out⟩,⟨HB.out⟩⟩
                      · as_aux_lemma =>
                         replace c77 := Bool.eq_false_iff.mpr c77
                         subst c77
                         replace H : (if 0 ≤ x17_4 then (l4_CastleFound.l1 k4 t633 x14_3 (((rd_T44 t633 x17_4).f0) == a3_0 && (((rd_T44 t633 x17_4).f1) == a3_1)) (wrap64 (x17_4 + 1)) a3_0 a3_1) else (none)) = some r := by rw [if_neg (show ¬ (false = true) by decide)] at H;exact H
                         by_cases c80 : 0 ≤ x17_4
                         case neg =>
                          rw [if_neg c80] at H
                          exact absurd H (by simp)
                         as_aux_lemma =>
                          rw [if_pos c80] at H
                          have c80b0 : decide (0 ≤ x17_4) = true := decide_eq_true c80
                          clear c80
                          replace H' := am H
                          obtain ⟨Ao81,co81,eo81⟩ := Kd.R_slice HO_9.out
                          subst eo81
                          try go_wp2
                          replace HO_9 := am (Kd.R_drew HO_9.out)
                          replace BK624 := am (blk_drew BK624.out)
                          replace BK625 := am (blk_drew BK625.out)
                          replace HB := am (below_drew1 HB.out)
                          have p658 : 0 ≤ (x17_4 : Int) := of_decide_eq_true (by assumption)
                          have q658 : x17_4 < (t633.length : Int) := of_decide_eq_true (by assumption)
                          obtain ⟨ad658,e658,hx658_0,hx658_1⟩ := at_T44 (Kd.R_reads' HO_9.out).2.2 x17_4 p658 q658
                          cases e658
                          replace p658 := eq_true p658
                          replace q658 := eq_true q658
                          refine start_ (n := 10) (S := fun w' => w'.cell? ⟨gb625,0,none⟩ = some (.int .i64 a3_0) ∧ w'.cell? ⟨gb625,1,none⟩ = some (.int .i64 a3_1) ∧ w'.cell? (ad658.add ((x17_4).toNat * 2)) = some (.int .i64 ((rd_T44 t633 x17_4).f0)) ∧ w'.cell? ⟨(ad658.add ((x17_4).toNat * 2)).block,(ad658.add ((x17_4).toNat * 2)).off + 1,none⟩ = some (.int .i64 ((rd_T44 t633 x17_4).f1))) (ds := []) (ba 10 0) (by kernel_rfl) rfl rfl ⟨(blk_cell BK625.out 0).trans rfl,(blk_cell BK625.out 1).trans rfl,hx658_0,hx658_1⟩ (fun hHeld => ?_);refine with_tabW l4_CastleFound.tab16 l4_CastleFound.bits16 (fun HT_ HW_ => ?_)
                          generalize wr.drew = w82 at HO_9 BK624 BK625 HB hx658_0 hx658_1 hHeld ⊢
                          refine pure_ (i := 0) (N := some 127) (v := ?_) (a' := ?_) (ba 10 1) rfl rfl (any_of HT_.out (by kernel_rfl)) (fun _ _ _ h => h) (Or.inl ⟨by rfl,?_⟩) ?_ ?_
                          rotate_left
                          · intro w'
                            go_simp
                            with_reducible rfl
                          rotate_left
                          · simp only [Act.put,NRM]
                            rfl
                          refine pure_ (i := 1) (N := some 128) (v := ?_) (a' := ?_) (ba 10 3) rfl rfl (any_of HT_.out (by kernel_rfl)) (fun _ _ _ h => h) (Or.inl ⟨by rfl,?_⟩) ?_ ?_
                          rotate_left
                          · intro w'
                            go_simp
                            with_reducible rfl
                          rotate_left
                          · simp only [Act.put,NRM]
                            rfl
                          refine pure_ (i := 2) (N := some 129) (v := ?_) (a' := ?_) (ba 10 7) rfl rfl (any_of HT_.out (by kernel_rfl)) (fun _ _ _ h => h) (Or.inl ⟨by rfl,?_⟩) ?_ ?_
                          rotate_left
                          · intro w'
                            go_simp
                            with_reducible rfl
                          rotate_left
                          · simp only [Act.put,NRM]
                            rfl
                          refine pure_ (i := 3) (N := some 130) (v := ?_) (a' := ?_) (ba 10 15) rfl rfl (any_of HT_.out (by kernel_rfl)) (fun _ _ _ h => h) (Or.inl ⟨by rfl,?_⟩) ?_ ?_
                          rotate_left
                          · intro w'
                            go_simp
                            with_reducible rfl
                          rotate_left
                          · simp only [Act.put,NRM]
                            rfl
                          refine pure_ (i := 4) (N := some 131) (v := ?_) (a' := ?_) (ba 10 31) rfl rfl (any_of HT_.out (by kernel_rfl)) (fun _ _ _ h => h) (Or.inl ⟨by rfl,?_⟩) ?_ ?_
                          rotate_left
                          · intro w'
                            go_simp
                            with_reducible rfl
                          rotate_left
                          · simp only [Act.put,NRM]
                            rfl
                          refine take_ (i := 5) (N := some 132) (v := ?_) (a' := ?_) (ba 10 63) rfl rfl (take_ofW HT_.out HW_.out (by kernel_rfl)) (fun _ _ _ h => h) (Or.inl ⟨by rfl,?_⟩) hHeld ?_ ?_
                          rotate_left
                          · rintro w' ⟨s0,s1,s2,s3⟩
                            go_simp
                            with_reducible rfl
                          rotate_left
                          · simp only [Act.put,NRM]
                            rfl
                          refine take_ (i := 6) (N := some 133) (v := ?_) (a' := ?_) (ba 10 127) rfl rfl (take_ofW HT_.out HW_.out (by kernel_rfl)) (fun _ _ _ h => h) (Or.inl ⟨by rfl,?_⟩) hHeld ?_ ?_
                          rotate_left
                          · rintro w' ⟨s0,s1,s2,s3⟩
                            go_simp
                            with_reducible rfl
                          rotate_left
                          · simp only [Act.put,NRM]
                            rfl
                          refine pure_ (i := 7) (N := some 134) (v := ?_) (a' := ?_) (ba 10 255) rfl rfl (any_of HT_.out (by kernel_rfl)) (fun _ _ _ h => h) (Or.inl ⟨by rfl,?_⟩) ?_ ?_
                          rotate_left
                          · intro w'
                            go_simp
                            with_reducible rfl
                          rotate_left
                          · simp only [Act.put,NRM]
                            rfl
                          refine pure_ (i := 8) (N := some 135) (v := ?_) (a' := ?_) (ba 10 511) rfl rfl (any_of HT_.out (by kernel_rfl)) (fun _ _ _ h => h) (Or.inl ⟨by rfl,?_⟩) ?_ ?_
                          rotate_left
                          · intro w'
                            go_simp
                            with_reducible rfl
                          rotate_left
                          · simp only [Act.put,NRM]
                            rfl
                          refine pure_ (i := 9) (N := some 16) (v := ?_) (a' := ?_) (ba 10 1023) rfl rfl (any_of HT_.out (by kernel_rfl)) (fun _ _ _ h => h) (Or.inl ⟨by rfl,?_⟩) ?_ ?_
                          rotate_left
                          · intro w'
                            go_simp
                            with_reducible rfl
                          rotate_left
                          · simp only [Act.put,NRM]
                            rfl
                          refine done_ (done_of HT_.out (by kernel_rfl)) ?_
                          try go_wp2
                          go_roundg k4
                          case measure => have := HJ4.out;have := HJ50.out;have := HK3.out;have := HK4.out;omega
                          case rel => exact ⟨((((rd_T44 t633 x17_4).f0) == a3_0 && (((rd_T44 t633 x17_4).f1) == a3_1))),(wrap64 (x17_4 + 1)),(by first | rfl | (simp;done) | (simp [*];done)),(by first | rfl | (simp;done) | (simp [*];done)),H',⟨by have := HJ4.out;have := HJ50.out;have := HK3.out;have := HK4.out;omega⟩,⟨by (with_reducible repeat (first | apply Kd.R_alloc | apply Kd.R_drewN | apply Kd.R_drew));exact HO_9.out⟩,⟨BK624.out⟩,⟨BK625.out⟩,⟨HB.out⟩⟩
                as_aux_lemma =>
                 rw [if_pos c64] at H
                 have c64b0 : decide (x15_3 < (t649.length : Int)) = true := decide_eq_true c64
                 clear c64
                 by_cases c65 : x14_3 = true
                 case neg =>
                  as_aux_lemma =>
                   replace c65 := Bool.eq_false_iff.mpr c65
                   subst c65
                   replace H : (l4_CastleFound.l0 k3 l2 t633 t649 false (wrap64 (x15_3 + 1)) a3_0 a3_1) = some r := by rw [if_neg (show ¬ (false = true) by decide)] at H;exact H
                   replace H' := am H
                   obtain ⟨Ao73,co73,eo73⟩ := Kd.R_slice HO_11.out
                   subst eo73
                   try go_wp2
                   replace HO_9 := am (Kd.R_drew HO_9.out)
                   replace HO_11 := am (Kd.R_drew HO_11.out)
                   replace BK624 := am (blk_drew BK624.out)
                   replace BK625 := am (blk_drew BK625.out)
                   replace HB := am (below_drew1 HB.out)
                   refine start_ (n := 26) (S := fun w' => True) (ds := []) (ba 26 0) (by kernel_rfl) rfl rfl trivial (fun hHeld => ?_);refine with_tabW l4_CastleFound.tab11 l4_CastleFound.bits11 (fun HT_ HW_ => ?_)
                   generalize wr.drew = w74 at HO_9 HO_11 BK624 BK625 HB hHeld ⊢
                   refine pure_ (i := 0) (N := some 96) (v := ?_) (a' := ?_) (ba 26 1) rfl rfl (any_of HT_.out (by kernel_rfl)) (fun _ _ _ h => h) (Or.inl ⟨by rfl,?_⟩) ?_ ?_
                   rotate_left
                   · intro w'
                     go_simp
                     with_reducible rfl
                   rotate_left
                   · simp only [Act.put,NRM]
                     rfl
                   refine pure_ (i := 1) (N := some 97) (v := ?_) (a' := ?_) (ba 26 3) rfl rfl (any_of HT_.out (by kernel_rfl)) (fun _ _ _ h => h) (Or.inl ⟨by rfl,?_⟩) ?_ ?_
                   rotate_left
                   · intro w'
                     go_simp
                     with_reducible rfl
                   rotate_left
                   · simp only [Act.put,NRM]
                     rfl
                   refine pure_ (i := 2) (N := some 98) (v := undef) (a' := ?_) (ba 26 7) rfl rfl (any_of HT_.out (by kernel_rfl)) (fun _ _ _ h => h) (Or.inr ⟨by rfl,rfl⟩) ?_ ?_
                   rotate_left
                   · simp only [Act.put,NRM]
                     rfl
                   refine pure_ (i := 3) (N := some 99) (v := undef) (a' := ?_) (ba 26 15) rfl rfl (any_of HT_.out (by kernel_rfl)) (fun _ _ _ h => h) (Or.inr ⟨by rfl,rfl⟩) ?_ ?_
                   rotate_left
                   · simp only [Act.put,NRM]
                     rfl
                   refine pure_ (i := 4) (N := some 100) (v := undef) (a' := ?_) (ba 26 31) rfl rfl (any_of HT_.out (by kernel_rfl)) (fun _ _ _ h => h) (Or.inr ⟨by rfl,rfl⟩) ?_ ?_
                   rotate_left
                   · simp only [Act.put,NRM]
                     rfl
                   refine pure_ (i := 5) (N := some 101) (v := undef) (a' := ?_) (ba 26 63) rfl rfl (any_of HT_.out (by kernel_rfl)) (fun _ _ _ h => h) (Or.inr ⟨by rfl,rfl⟩) ?_ ?_
                   rotate_left
                   · simp only [Act.put,NRM]
                     rfl
                   refine pure_ (i := 6) (N := some 102) (v := undef) (a' := ?_) (ba 26 127) rfl rfl (any_of HT_.out (by kernel_rfl)) (fun _ _ _ h => h) (Or.inr ⟨by rfl,rfl⟩) ?_ ?_
                   rotate_left
                   · simp only [Act.put,NRM]
                     rfl
                   refine pure_ (i := 7) (N := some 103) (v := undef) (a' := ?_) (ba 26 255) rfl rfl (any_of HT_.out (by kernel_rfl)) (fun _ _ _ h => h) (Or.inr ⟨by rfl,rfl⟩) ?_ ?_
                   rotate_left
                   · simp only [Act.put,NRM]
                     rfl
                   refine pure_ (i := 8) (N := some 104) (v := undef) (a' := ?_) (ba 26 511) rfl rfl (any_of HT_.out (by kernel_rfl)) (fun _ _ _ h => h) (Or.inr ⟨by rfl,rfl⟩) ?_ ?_
                   rotate_left
                   · simp only [Act.put,NRM]
                     rfl
                   refine pure_ (i := 9) (N := some 105) (v := undef) (a' := ?_) (ba 26 1023) rfl rfl (any_of HT_.out (by kernel_rfl)) (fun _ _ _ h => h) (Or.inr ⟨by rfl,rfl⟩) ?_ ?_
                   rotate_left
                   · simp only [Act.put,NRM]
                     rfl
                   refine pure_ (i := 10) (N := some 106) (v := undef) (a' := ?_) (ba 26 2047) rfl rfl (any_of HT_.out (by kernel_rfl)) (fun _ _ _ h => h) (Or.inr ⟨by rfl,rfl⟩) ?_ ?_
                   rotate_left
                   · simp only [Act.put,NRM]
                     rfl
                   refine pure_ (i := 11) (N := some 107) (v := undef) (a' := ?_) (ba 26 4095) rfl rfl (any_of HT_.out (by kernel_rfl)) (fun _ _ _ h => h) (Or.inr ⟨by rfl,rfl⟩) ?_ ?_
                   rotate_left
                   · simp only [Act.put,NRM]
                     rfl
                   refine pure_ (i := 12) (N := some 108) (v := ?_) (a' := ?_) (ba 26 8191) rfl rfl (any_of HT_.out (by kernel_rfl)) (fun _ _ _ h => h) (Or.inl ⟨by rfl,?_⟩) ?_ ?_
                   rotate_left
                   · intro w'
                     go_simp
                     with_reducible rfl
                   rotate_left
                   · simp only [Act.put,NRM]
                     rfl
                   refine pure_ (i := 13) (N := some 109) (v := ?_) (a' := ?_) (ba 26 16383) rfl rfl (any_of HT_.out (by kernel_rfl)) (fun _ _ _ h => h) (Or.inl ⟨by rfl,?_⟩) ?_ ?_
                   rotate_left
                   · intro w'
                     go_simp
                     with_reducible rfl
                   rotate_left
                   · simp only [Act.put,NRM]
                     rfl
                   refine pure_ (i := 14) (N := some 110) (v := undef) (a' := ?_) (ba 26 32767) rfl rfl (any_of HT_.out (by kernel_rfl)) (fun _ _ _ h => h) (Or.inr ⟨by rfl,rfl⟩) ?_ ?_
                   rotate_left
                   · simp only [Act.put,NRM]
                     rfl
                   refine pure_ (i := 15) (N := some 111) (v := undef) (a' := ?_) (ba 26 65535) rfl rfl (any_of HT_.out (by kernel_rfl)) (fun _ _ _ h => h) (Or.inr ⟨by rfl,rfl⟩) ?_ ?_
                   rotate_left
                   · simp only [Act.put,NRM]
                     rfl
                   refine pure_ (i := 16) (N := some 112) (v := undef) (a' := ?_) (ba 26 131071) rfl rfl (any_of HT_.out (by kernel_rfl)) (fun _ _ _ h => h) (Or.inr ⟨by rfl,rfl⟩) ?_ ?_
                   rotate_left
                   · simp only [Act.put,NRM]
                     rfl
                   refine pure_ (i := 17) (N := some 113) (v := undef) (a' := ?_) (ba 26 262143) rfl rfl (any_of HT_.out (by kernel_rfl)) (fun _ _ _ h => h) (Or.inr ⟨by rfl,rfl⟩) ?_ ?_
                   rotate_left
                   · simp only [Act.put,NRM]
                     rfl
                   refine pure_ (i := 18) (N := some 114) (v := undef) (a' := ?_) (ba 26 524287) rfl rfl (any_of HT_.out (by kernel_rfl)) (fun _ _ _ h => h) (Or.inr ⟨by rfl,rfl⟩) ?_ ?_
                   rotate_left
                   · simp only [Act.put,NRM]
                     rfl
                   refine pure_ (i := 19) (N := some 115) (v := undef) (a' := ?_) (ba 26 1048575) rfl rfl (any_of HT_.out (by kernel_rfl)) (fun _ _ _ h => h) (Or.inr ⟨by rfl,rfl⟩) ?_ ?_
                   rotate_left
                   · simp only [Act.put,NRM]
                     rfl
                   refine pure_ (i := 20) (N := some 116) (v := undef) (a' := ?_) (ba 26 2097151) rfl rfl (any_of HT_.out (by kernel_rfl)) (fun _ _ _ h => h) (Or.inr ⟨by rfl,rfl⟩) ?_ ?_
                   rotate_left
                   · simp only [Act.put,NRM]
                     rfl
                   refine pure_ (i := 21) (N := some 117) (v := undef) (a' := ?_) (ba 26 4194303) rfl rfl (any_of HT_.out (by kernel_rfl)) (fun _ _ _ h => h) (Or.inr ⟨by rfl,rfl⟩) ?_ ?_
                   rotate_left
                   · simp only [Act.put,NRM]
                     rfl
                   refine pure_ (i := 22) (N := some 118) (v := undef) (a' := ?_) (ba 26 8388607) rfl rfl (any_of HT_.out (by kernel_rfl)) (fun _ _ _ h => h) (Or.inr ⟨by rfl,rfl⟩) ?_ ?_
                   rotate_left
                   · simp only [Act.put,NRM]
                     rfl
                   refine pure_ (i := 23) (N := some 119) (v := undef) (a' := ?_) (ba 26 16777215) rfl rfl (any_of HT_.out (by kernel_rfl)) (fun _ _ _ h => h) (Or.inr ⟨by rfl,rfl⟩) ?_ ?_
                   rotate_left
                   · simp only [Act.put,NRM]
                     rfl
                   refine pure_ (i := 24) (N := some 120) (v := ?_) (a' := ?_) (ba 26 33554431) rfl rfl (any_of HT_.out (by kernel_rfl)) (fun _ _ _ h => h) (Or.inl ⟨by rfl,?_⟩) ?_ ?_
                   rotate_left
                   · intro w'
                     go_simp
                     with_reducible rfl
                   rotate_left
                   · simp only [Act.put,NRM]
                     rfl
                   refine pure_ (i := 25) (N := some 14) (v := ?_) (a' := ?_) (ba 26 67108863) rfl rfl (any_of HT_.out (by kernel_rfl)) (fun _ _ _ h => h) (Or.inl ⟨by rfl,?_⟩) ?_ ?_
                   rotate_left
                   · intro w'
                     go_simp
                     with_reducible rfl
                   rotate_left
                   · simp only [Act.put,NRM]
                     rfl
                   refine done_ (done_of HT_.out (by kernel_rfl)) ?_
                   try go_wp2
                   go_roundg k3
                   case measure => have := HJ4.out;have := HJ50.out;have := HK3.out;omega
                   case rel => exact ⟨(false),(wrap64 (x15_3 + 1)),(by first | rfl | (simp;done) | (simp [*];done)),(by first | rfl | (simp;done) | (simp [*];done)),H',⟨by have := HJ4.out;have := HJ50.out;have := HK3.out;omega⟩,⟨by (with_reducible repeat (first | apply Kd.R_alloc | apply Kd.R_drewN | apply Kd.R_drew));exact HO_9.out⟩,⟨by (with_reducible repeat (first | apply Kd.R_alloc | apply Kd.R_drewN | apply Kd.R_drew));exact HO_11.out⟩,⟨BK624.out⟩,⟨BK625.out⟩,⟨HB.out⟩⟩
                 as_aux_lemma =>
                  subst c65
                  replace H : (if 0 ≤ x15_3 then (if x15_3 < (l2.length : Int) then (if (rd t649 x15_3) ≥ ((rd_T54 l2 x15_3).f0) then (l4_CastleFound.l0 k3 l2 t633 t649 (decide ((rd t649 x15_3) ≤ ((rd_T54 l2 x15_3).f1))) (wrap64 (x15_3 + 1)) a3_0 a3_1) else (l4_CastleFound.l0 k3 l2 t633 t649 false (wrap64 (x15_3 + 1)) a3_0 a3_1)) else (none)) else (none)) = some r := by rw [if_pos rfl] at H;exact H
                  by_cases c66 : 0 ≤ x15_3
                  case neg =>
                   rw [if_neg c66] at H
                   exact absurd H (by simp)
                  as_aux_lemma =>
                   rw [if_pos c66] at H
                   have c66b0 : decide (0 ≤ x15_3) = true := decide_eq_true c66
                   clear c66
                   by_cases c67 : x15_3 < (l2.length : Int)
                   case neg =>
                    rw [if_neg c67] at H
                    exact absurd H (by simp)
                   as_aux_lemma =>
                    rw [if_pos c67] at H
                    have c67b0 : decide (x15_3 < (l2.length : Int)) = true := decide_eq_true c67
                    clear c67
                    by_cases c68 : (rd t649 x15_3) ≥ ((rd_T54 l2 x15_3).f0)
                    case neg =>
                     as_aux_lemma =>
                      rw [if_neg c68] at H
                      have c68b0 : decide (((rd_T54 l2 x15_3).f0) ≤ (rd t649 x15_3)) = false := decide_eq_false c68
                      clear c68
                      replace H' := am H
                      obtain ⟨Ao71,co71,eo71⟩ := Kd.R_slice HO_11.out
                      subst eo71
                      try go_wp2
                      replace HO_9 := am (Kd.R_drew HO_9.out)
                      replace HO_11 := am (Kd.R_drew HO_11.out)
                      replace BK624 := am (blk_drew BK624.out)
                      replace BK625 := am (blk_drew BK625.out)
                      replace HB := am (below_drew1 HB.out)
                      have p654 : 0 ≤ (x15_3 : Int) := of_decide_eq_true (by assumption)
                      have q654 : x15_3 < (t649.length : Int) := of_decide_eq_true (by assumption)
                      obtain ⟨ad654,e654,hx654_0⟩ := Kd.at_int (Kd.R_reads' HO_11.out).2.2 x15_3 p654 q654
                      cases e654
                      replace p654 := eq_true p654
                      replace q654 := eq_true q654
                      have p655 : 0 ≤ (x15_3 : Int) := of_decide_eq_true (by assumption)
                      have q655 : x15_3 < (l2.length : Int) := of_decide_eq_true (by assumption)
                      obtain ⟨ad655,e655,hx655_0,hx655_1⟩ := at_T54 HR2.out x15_3 p655 q655
                      have hw655_1 := hx655_1
                      have hw655_0 := hx655_0
                      cases e655
                      replace hx655_0 := (HB.out.cell (wbl hx655_0)).trans hx655_0
                      replace hx655_1 := (HB.out.cell (wbl hx655_1)).trans hx655_1
                      replace p655 := eq_true p655
                      replace q655 := eq_true q655
                      refine start_ (n := 26) (S := fun w' => w'.cell? (ad654.add (x15_3).toNat) = some (.int .i64 (rd t649 x15_3)) ∧ w'.cell? (ad655.add ((x15_3).toNat * 2)) = some (.int .i64 ((rd_T54 l2 x15_3).f0)) ∧ w'.cell? ⟨(ad655.add ((x15_3).toNat * 2)).block,(ad655.add ((x15_3).toNat * 2)).off + 1,none⟩ = some (.int .i64 ((rd_T54 l2 x15_3).f1))) (ds := []) (ba 26 0) (by kernel_rfl) rfl rfl ⟨hx654_0,((HB.out.cell (wbl hw655_0)).trans hw655_0),((HB.out.cell (wbl hw655_1)).trans hw655_1)⟩ (fun hHeld => ?_);refine with_tabW l4_CastleFound.tab11 l4_CastleFound.bits11 (fun HT_ HW_ => ?_)
                      generalize wr.drew = w72 at HO_9 HO_11 BK624 BK625 HB hx654_0 hx655_0 hx655_1 hHeld ⊢
                      refine pure_ (i := 0) (N := some 96) (v := ?_) (a' := ?_) (ba 26 1) rfl rfl (any_of HT_.out (by kernel_rfl)) (fun _ _ _ h => h) (Or.inl ⟨by rfl,?_⟩) ?_ ?_
                      rotate_left
                      · intro w'
                        go_simp
                        with_reducible rfl
                      rotate_left
                      · simp only [Act.put,NRM]
                        rfl
                      refine pure_ (i := 1) (N := some 97) (v := ?_) (a' := ?_) (ba 26 3) rfl rfl (any_of HT_.out (by kernel_rfl)) (fun _ _ _ h => h) (Or.inl ⟨by rfl,?_⟩) ?_ ?_
                      rotate_left
                      · intro w'
                        go_simp
                        with_reducible rfl
                      rotate_left
                      · simp only [Act.put,NRM]
                        rfl
                      refine pure_ (i := 2) (N := some 98) (v := ?_) (a' := ?_) (ba 26 7) rfl rfl (any_of HT_.out (by kernel_rfl)) (fun _ _ _ h => h) (Or.inl ⟨by rfl,?_⟩) ?_ ?_
                      rotate_left
                      · intro w'
                        go_simp
                        with_reducible rfl
                      rotate_left
                      · simp only [Act.put,NRM]
                        rfl
                      refine pure_ (i := 3) (N := some 99) (v := ?_) (a' := ?_) (ba 26 15) rfl rfl (any_of HT_.out (by kernel_rfl)) (fun _ _ _ h => h) (Or.inl ⟨by rfl,?_⟩) ?_ ?_
                      rotate_left
                      · intro w'
                        go_simp
                        with_reducible rfl
                      rotate_left
                      · simp only [Act.put,NRM]
                        rfl
                      refine pure_ (i := 4) (N := some 100) (v := ?_) (a' := ?_) (ba 26 31) rfl rfl (any_of HT_.out (by kernel_rfl)) (fun _ _ _ h => h) (Or.inl ⟨by rfl,?_⟩) ?_ ?_
                      rotate_left
                      · intro w'
                        go_simp
                        with_reducible rfl
                      rotate_left
                      · simp only [Act.put,NRM]
                        rfl
                      refine pure_ (i := 6) (N := some 102) (v := ?_) (a' := ?_) (ba 26 95) rfl rfl (any_of HT_.out (by kernel_rfl)) (fun _ _ _ h => h) (Or.inl ⟨by rfl,?_⟩) ?_ ?_
                      rotate_left
                      · intro w'
                        go_simp
                        with_reducible rfl
                      rotate_left
                      · simp only [Act.put,NRM]
                        rfl
                      refine pure_ (i := 7) (N := some 103) (v := ?_) (a' := ?_) (ba 26 223) rfl rfl (any_of HT_.out (by kernel_rfl)) (fun _ _ _ h => h) (Or.inl ⟨by rfl,?_⟩) ?_ ?_
                      rotate_left
                      · intro w'
                        go_simp
                        with_reducible rfl
                      rotate_left
                      · simp only [Act.put,NRM]
                        rfl
                      refine pure_ (i := 8) (N := some 104) (v := ?_) (a' := ?_) (ba 26 479) rfl rfl (any_of HT_.out (by kernel_rfl)) (fun _ _ _ h => h) (Or.inl ⟨by rfl,?_⟩) ?_ ?_
                      rotate_left
                      · intro w'
                        go_simp
                        with_reducible rfl
                      rotate_left
                      · simp only [Act.put,NRM]
                        rfl
                      refine pure_ (i := 9) (N := some 105) (v := ?_) (a' := ?_) (ba 26 991) rfl rfl (any_of HT_.out (by kernel_rfl)) (fun _ _ _ h => h) (Or.inl ⟨by rfl,?_⟩) ?_ ?_
                      rotate_left
                      · intro w'
                        go_simp
                        with_reducible rfl
                      rotate_left
                      · simp only [Act.put,NRM]
                        rfl
                      refine take_ (i := 5) (N := some 101) (v := ?_) (a' := ?_) (ba 26 1023) rfl rfl (take_ofW HT_.out HW_.out (by kernel_rfl)) (fun _ _ _ h => h) (Or.inl ⟨by rfl,?_⟩) hHeld ?_ ?_
                      rotate_left
                      · rintro w' ⟨s0,s1,s2⟩
                        go_simp
                        with_reducible rfl
                      rotate_left
                      · simp only [Act.put,NRM]
                        rfl
                      refine take_ (i := 10) (N := some 106) (v := ?_) (a' := ?_) (ba 26 2047) rfl rfl (take_ofW HT_.out HW_.out (by kernel_rfl)) (fun _ _ _ h => h) (Or.inl ⟨by rfl,?_⟩) hHeld ?_ ?_
                      rotate_left
                      · rintro w' ⟨s0,s1,s2⟩
                        go_simp
                        with_reducible rfl
                      rotate_left
                      · simp only [Act.put,NRM]
                        rfl
                      refine pure_ (i := 11) (N := some 107) (v := ?_) (a' := ?_) (ba 26 4095) rfl rfl (any_of HT_.out (by kernel_rfl)) (fun _ _ _ h => h) (Or.inl ⟨by rfl,?_⟩) ?_ ?_
                      rotate_left
                      · intro w'
                        go_simp
                        with_reducible rfl
                      rotate_left
                      · simp only [Act.put,NRM]
                        rfl
                      refine pure_ (i := 12) (N := some 108) (v := ?_) (a' := ?_) (ba 26 8191) rfl rfl (any_of HT_.out (by kernel_rfl)) (fun _ _ _ h => h) (Or.inl ⟨by rfl,?_⟩) ?_ ?_
                      rotate_left
                      · intro w'
                        go_simp
                        with_reducible rfl
                      rotate_left
                      · simp only [Act.put,NRM]
                        rfl
                      refine pure_ (i := 13) (N := some 109) (v := ?_) (a' := ?_) (ba 26 16383) rfl rfl (any_of HT_.out (by kernel_rfl)) (fun _ _ _ h => h) (Or.inl ⟨by rfl,?_⟩) ?_ ?_
                      rotate_left
                      · intro w'
                        go_simp
                        with_reducible rfl
                      rotate_left
                      · simp only [Act.put,NRM]
                        rfl
                      refine pure_ (i := 14) (N := some 110) (v := undef) (a' := ?_) (ba 26 32767) rfl rfl (any_of HT_.out (by kernel_rfl)) (fun _ _ _ h => h) (Or.inr ⟨by rfl,rfl⟩) ?_ ?_
                      rotate_left
                      · simp only [Act.put,NRM]
                        rfl
                      refine pure_ (i := 15) (N := some 111) (v := undef) (a' := ?_) (ba 26 65535) rfl rfl (any_of HT_.out (by kernel_rfl)) (fun _ _ _ h => h) (Or.inr ⟨by rfl,rfl⟩) ?_ ?_
                      rotate_left
                      · simp only [Act.put,NRM]
                        rfl
                      refine pure_ (i := 16) (N := some 112) (v := undef) (a' := ?_) (ba 26 131071) rfl rfl (any_of HT_.out (by kernel_rfl)) (fun _ _ _ h => h) (Or.inr ⟨by rfl,rfl⟩) ?_ ?_
                      rotate_left
                      · simp only [Act.put,NRM]
                        rfl
                      refine pure_ (i := 17) (N := some 113) (v := undef) (a' := ?_) (ba 26 262143) rfl rfl (any_of HT_.out (by kernel_rfl)) (fun _ _ _ h => h) (Or.inr ⟨by rfl,rfl⟩) ?_ ?_
                      rotate_left
                      · simp only [Act.put,NRM]
                        rfl
                      refine pure_ (i := 18) (N := some 114) (v := undef) (a' := ?_) (ba 26 524287) rfl rfl (any_of HT_.out (by kernel_rfl)) (fun _ _ _ h => h) (Or.inr ⟨by rfl,rfl⟩) ?_ ?_
                      rotate_left
                      · simp only [Act.put,NRM]
                        rfl
                      refine pure_ (i := 19) (N := some 115) (v := undef) (a' := ?_) (ba 26 1048575) rfl rfl (any_of HT_.out (by kernel_rfl)) (fun _ _ _ h => h) (Or.inr ⟨by rfl,rfl⟩) ?_ ?_
                      rotate_left
                      · simp only [Act.put,NRM]
                        rfl
                      refine pure_ (i := 20) (N := some 116) (v := undef) (a' := ?_) (ba 26 2097151) rfl rfl (any_of HT_.out (by kernel_rfl)) (fun _ _ _ h => h) (Or.inr ⟨by rfl,rfl⟩) ?_ ?_
                      rotate_left
                      · simp only [Act.put,NRM]
                        rfl
                      refine pure_ (i := 21) (N := some 117) (v := undef) (a' := ?_) (ba 26 4194303) rfl rfl (any_of HT_.out (by kernel_rfl)) (fun _ _ _ h => h) (Or.inr ⟨by rfl,rfl⟩) ?_ ?_
                      rotate_left
                      · simp only [Act.put,NRM]
                        rfl
                      refine pure_ (i := 22) (N := some 118) (v := undef) (a' := ?_) (ba 26 8388607) rfl rfl (any_of HT_.out (by kernel_rfl)) (fun _ _ _ h => h) (Or.inr ⟨by rfl,rfl⟩) ?_ ?_
                      rotate_left
                      · simp only [Act.put,NRM]
                        rfl
                      refine pure_ (i := 23) (N := some 119) (v := undef) (a' := ?_) (ba 26 16777215) rfl rfl (any_of HT_.out (by kernel_rfl)) (fun _ _ _ h => h) (Or.inr ⟨by rfl,rfl⟩) ?_ ?_
                      rotate_left
                      · simp only [Act.put,NRM]
                        rfl
                      refine pure_ (i := 24) (N := some 120) (v := ?_) (a' := ?_) (ba 26 33554431) rfl rfl (any_of HT_.out (by kernel_rfl)) (fun _ _ _ h => h) (Or.inl ⟨by rfl,?_⟩) ?_ ?_
                      rotate_left
                      · intro w'
                        go_simp
                        with_reducible rfl
                      rotate_left
                      · simp only [Act.put,NRM]
                        rfl
                      refine pure_ (i := 25) (N := some 14) (v := ?_) (a' := ?_) (ba 26 67108863) rfl rfl (any_of HT_.out (by kernel_rfl)) (fun _ _ _ h => h) (Or.inl ⟨by rfl,?_⟩) ?_ ?_
                      rotate_left
                      · intro w'
                        go_simp
                        with_reducible rfl
                      rotate_left
                      · simp only [Act.put,NRM]
                        rfl
                      refine done_ (done_of HT_.out (by kernel_rfl)) ?_
                      try go_wp2
                      go_roundg k3
                      case measure => have := HJ4.out;have := HJ50.out;have := HK3.out;omega
                      case rel => exact ⟨(false),(wrap64 (x15_3 + 1)),(by first | rfl | (simp;done) | (simp [*];done)),(by first | rfl | (simp;done) | (simp [*];done)),H',⟨by have := HJ4.out;have := HJ50.out;have := HK3.out;omega⟩,⟨by (with_reducible repeat (first | apply Kd.R_alloc | apply Kd.R_drewN | apply Kd.R_drew));exact HO_9.out⟩,⟨by (with_reducible repeat (first | apply Kd.R_alloc | apply Kd.R_drewN | apply Kd.R_drew));exact HO_11.out⟩,⟨BK624.out⟩,⟨BK625.out⟩,⟨HB.out⟩⟩
                    as_aux_lemma =>
                     rw [if_pos c68] at H
                     have c68b0 : decide (((rd_T54 l2 x15_3).f0) ≤ (rd t649 x15_3)) = true := decide_eq_true c68
                     clear c68
                     replace H' := am H
                     obtain ⟨Ao69,co69,eo69⟩ := Kd.R_slice HO_11.out
                     subst eo69
                     try go_wp2
                     replace HO_9 := am (Kd.R_drew HO_9.out)
                     replace HO_11 := am (Kd.R_drew HO_11.out)
                     replace BK624 := am (blk_drew BK624.out)
                     replace BK625 := am (blk_drew BK625.out)
                     replace HB := am (below_drew1 HB.out)
                     have p654 : 0 ≤ (x15_3 : Int) := of_decide_eq_true (by assumption)
                     have q654 : x15_3 < (t649.length : Int) := of_decide_eq_true (by assumption)
                     obtain ⟨ad654,e654,hx654_0⟩ := Kd.at_int (Kd.R_reads' HO_11.out).2.2 x15_3 p654 q654
                     cases e654
                     replace p654 := eq_true p654
                     replace q654 := eq_true q654
                     have p655 : 0 ≤ (x15_3 : Int) := of_decide_eq_true (by assumption)
                     have q655 : x15_3 < (l2.length : Int) := of_decide_eq_true (by assumption)
                     obtain ⟨ad655,e655,hx655_0,hx655_1⟩ := at_T54 HR2.out x15_3 p655 q655
                     have hw655_1 := hx655_1
                     have hw655_0 := hx655_0
                     cases e655
                     replace hx655_0 := (HB.out.cell (wbl hx655_0)).trans hx655_0
                     replace hx655_1 := (HB.out.cell (wbl hx655_1)).trans hx655_1
                     replace p655 := eq_true p655
                     replace q655 := eq_true q655
                     have p656 : 0 ≤ (x15_3 : Int) := of_decide_eq_true (by assumption)
                     have q656 : x15_3 < (t649.length : Int) := of_decide_eq_true (by assumption)
                     obtain ⟨ad656,e656,hx656_0⟩ := Kd.at_int (Kd.R_reads' HO_11.out).2.2 x15_3 p656 q656
                     obtain rfl : ad654 = ad656 := (by injection e656)
                     replace p656 := eq_true p656
                     replace q656 := eq_true q656
                     have p657 : 0 ≤ (x15_3 : Int) := of_decide_eq_true (by assumption)
                     have q657 : x15_3 < (l2.length : Int) := of_decide_eq_true (by assumption)
                     obtain ⟨ad657,e657,hx657_0,hx657_1⟩ := at_T54 HR2.out x15_3 p657 q657
                     have hw657_1 := hx657_1
                     have hw657_0 := hx657_0
                     obtain rfl : ad655 = ad657 := (by injection e657)
                     replace hx657_0 := (HB.out.cell (wbl hx657_0)).trans hx657_0
                     replace hx657_1 := (HB.out.cell (wbl hx657_1)).trans hx657_1
                     replace p657 := eq_true p657
                     replace q657 := eq_true q657
                     refine start_ (n := 26) (S := fun w' => w'.cell? (ad654.add (x15_3).toNat) = some (.int .i64 (rd t649 x15_3)) ∧ w'.cell? (ad655.add ((x15_3).toNat * 2)) = some (.int .i64 ((rd_T54 l2 x15_3).f0)) ∧ w'.cell? ⟨(ad655.add ((x15_3).toNat * 2)).block,(ad655.add ((x15_3).toNat * 2)).off + 1,none⟩ = some (.int .i64 ((rd_T54 l2 x15_3).f1)) ∧ w'.cell? (ad654.add (x15_3).toNat) = some (.int .i64 (rd t649 x15_3)) ∧ w'.cell? (ad655.add ((x15_3).toNat * 2)) = some (.int .i64 ((rd_T54 l2 x15_3).f0)) ∧ w'.cell? ⟨(ad655.add ((x15_3).toNat * 2)).block,(ad655.add ((x15_3).toNat * 2)).off + 1,none⟩ = some (.int .i64 ((rd_T54 l2 x15_3).f1))) (ds := []) (ba 26 0) (by kernel_rfl) rfl rfl ⟨hx654_0,((HB.out.cell (wbl hw655_0)).trans hw655_0),((HB.out.cell (wbl hw655_1)).trans hw655_1),hx656_0,((HB.out.cell (wbl hw657_0)).trans hw657_0),((HB.out.cell (wbl hw657_1)).trans hw657_1)⟩ (fun hHeld => ?_);refine with_tabW l4_CastleFound.tab11 l4_CastleFound.bits11 (fun HT_ HW_ => ?_)
                     generalize wr.drew = w70 at HO_9 HO_11 BK624 BK625 HB hx654_0 hx655_0 hx655_1 hx656_0 hx657_0 hx657_1 hHeld ⊢
                     refine pure_ (i := 0) (N := some 96) (v := ?_) (a' := ?_) (ba 26 1) rfl rfl (any_of HT_.out (by kernel_rfl)) (fun _ _ _ h => h) (Or.inl ⟨by rfl,?_⟩) ?_ ?_
                     rotate_left
                     · intro w'
                       go_simp
                       with_reducible rfl
                     rotate_left
                     · simp only [Act.put,NRM]
                       rfl
                     refine pure_ (i := 1) (N := some 97) (v := ?_) (a' := ?_) (ba 26 3) rfl rfl (any_of HT_.out (by kernel_rfl)) (fun _ _ _ h => h) (Or.inl ⟨by rfl,?_⟩) ?_ ?_
                     rotate_left
                     · intro w'
                       go_simp
                       with_reducible rfl
                     rotate_left
                     · simp only [Act.put,NRM]
                       rfl
                     refine pure_ (i := 2) (N := some 98) (v := ?_) (a' := ?_) (ba 26 7) rfl rfl (any_of HT_.out (by kernel_rfl)) (fun _ _ _ h => h) (Or.inl ⟨by rfl,?_⟩) ?_ ?_
                     rotate_left
                     · intro w'
                       go_simp
                       with_reducible rfl
                     rotate_left
                     · simp only [Act.put,NRM]
                       rfl
                     refine pure_ (i := 3) (N := some 99) (v := ?_) (a' := ?_) (ba 26 15) rfl rfl (any_of HT_.out (by kernel_rfl)) (fun _ _ _ h => h) (Or.inl ⟨by rfl,?_⟩) ?_ ?_
                     rotate_left
                     · intro w'
                       go_simp
                       with_reducible rfl
                     rotate_left
                     · simp only [Act.put,NRM]
                       rfl
                     refine pure_ (i := 4) (N := some 100) (v := ?_) (a' := ?_) (ba 26 31) rfl rfl (any_of HT_.out (by kernel_rfl)) (fun _ _ _ h => h) (Or.inl ⟨by rfl,?_⟩) ?_ ?_
                     rotate_left
                     · intro w'
                       go_simp
                       with_reducible rfl
                     rotate_left
                     · simp only [Act.put,NRM]
                       rfl
                     refine pure_ (i := 6) (N := some 102) (v := ?_) (a' := ?_) (ba 26 95) rfl rfl (any_of HT_.out (by kernel_rfl)) (fun _ _ _ h => h) (Or.inl ⟨by rfl,?_⟩) ?_ ?_
                     rotate_left
                     · intro w'
                       go_simp
                       with_reducible rfl
                     rotate_left
                     · simp only [Act.put,NRM]
                       rfl
                     refine pure_ (i := 7) (N := some 103) (v := ?_) (a' := ?_) (ba 26 223) rfl rfl (any_of HT_.out (by kernel_rfl)) (fun _ _ _ h => h) (Or.inl ⟨by rfl,?_⟩) ?_ ?_
                     rotate_left
                     · intro w'
                       go_simp
                       with_reducible rfl
                     rotate_left
                     · simp only [Act.put,NRM]
                       rfl
                     refine pure_ (i := 8) (N := some 104) (v := ?_) (a' := ?_) (ba 26 479) rfl rfl (any_of HT_.out (by kernel_rfl)) (fun _ _ _ h => h) (Or.inl ⟨by rfl,?_⟩) ?_ ?_
                     rotate_left
                     · intro w'
                       go_simp
                       with_reducible rfl
                     rotate_left
                     · simp only [Act.put,NRM]
                       rfl
                     refine pure_ (i := 9) (N := some 105) (v := ?_) (a' := ?_) (ba 26 991) rfl rfl (any_of HT_.out (by kernel_rfl)) (fun _ _ _ h => h) (Or.inl ⟨by rfl,?_⟩) ?_ ?_
                     rotate_left
                     · intro w'
                       go_simp
                       with_reducible rfl
                     rotate_left
                     · simp only [Act.put,NRM]
                       rfl
                     refine take_ (i := 5) (N := some 101) (v := ?_) (a' := ?_) (ba 26 1023) rfl rfl (take_ofW HT_.out HW_.out (by kernel_rfl)) (fun _ _ _ h => h) (Or.inl ⟨by rfl,?_⟩) hHeld ?_ ?_
                     rotate_left
                     · rintro w' ⟨s0,s1,s2,s3,s4,s5⟩
                       go_simp
                       with_reducible rfl
                     rotate_left
                     · simp only [Act.put,NRM]
                       rfl
                     refine take_ (i := 10) (N := some 106) (v := ?_) (a' := ?_) (ba 26 2047) rfl rfl (take_ofW HT_.out HW_.out (by kernel_rfl)) (fun _ _ _ h => h) (Or.inl ⟨by rfl,?_⟩) hHeld ?_ ?_
                     rotate_left
                     · rintro w' ⟨s0,s1,s2,s3,s4,s5⟩
                       go_simp
                       with_reducible rfl
                     rotate_left
                     · simp only [Act.put,NRM]
                       rfl
                     refine pure_ (i := 11) (N := some 107) (v := ?_) (a' := ?_) (ba 26 4095) rfl rfl (any_of HT_.out (by kernel_rfl)) (fun _ _ _ h => h) (Or.inl ⟨by rfl,?_⟩) ?_ ?_
                     rotate_left
                     · intro w'
                       go_simp
                       with_reducible rfl
                     rotate_left
                     · simp only [Act.put,NRM]
                       rfl
                     refine pure_ (i := 12) (N := some 108) (v := ?_) (a' := ?_) (ba 26 8191) rfl rfl (any_of HT_.out (by kernel_rfl)) (fun _ _ _ h => h) (Or.inl ⟨by rfl,?_⟩) ?_ ?_
                     rotate_left
                     · intro w'
                       go_simp
                       with_reducible rfl
                     rotate_left
                     · simp only [Act.put,NRM]
                       rfl
                     refine pure_ (i := 13) (N := some 109) (v := ?_) (a' := ?_) (ba 26 16383) rfl rfl (any_of HT_.out (by kernel_rfl)) (fun _ _ _ h => h) (Or.inl ⟨by rfl,?_⟩) ?_ ?_
                     rotate_left
                     · intro w'
                       go_simp
                       with_reducible rfl
                     rotate_left
                     · simp only [Act.put,NRM]
                       rfl
                     refine pure_ (i := 14) (N := some 110) (v := ?_) (a' := ?_) (ba 26 32767) rfl rfl (any_of HT_.out (by kernel_rfl)) (fun _ _ _ h => h) (Or.inl ⟨by rfl,?_⟩) ?_ ?_
                     rotate_left
                     · intro w'
                       go_simp
                       with_reducible rfl
                     rotate_left
                     · simp only [Act.put,NRM]
                       rfl
                     refine pure_ (i := 15) (N := some 111) (v := ?_) (a' := ?_) (ba 26 65535) rfl rfl (any_of HT_.out (by kernel_rfl)) (fun _ _ _ h => h) (Or.inl ⟨by rfl,?_⟩) ?_ ?_
                     rotate_left
                     · intro w'
                       go_simp
                       with_reducible rfl
                     rotate_left
                     · simp only [Act.put,NRM]
                       rfl
                     refine pure_ (i := 16) (N := some 112) (v := ?_) (a' := ?_) (ba 26 131071) rfl rfl (any_of HT_.out (by kernel_rfl)) (fun _ _ _ h => h) (Or.inl ⟨by rfl,?_⟩) ?_ ?_
                     rotate_left
                     · intro w'
                       go_simp
                       with_reducible rfl
                     rotate_left
                     · simp only [Act.put,NRM]
                       rfl
                     refine pure_ (i := 18) (N := some 114) (v := ?_) (a' := ?_) (ba 26 393215) rfl rfl (any_of HT_.out (by kernel_rfl)) (fun _ _ _ h => h) (Or.inl ⟨by rfl,?_⟩) ?_ ?_
                     rotate_left
                     · intro w'
                       go_simp
                       with_reducible rfl
                     rotate_left
                     · simp only [Act.put,NRM]
                       rfl
                     refine pure_ (i := 19) (N := some 115) (v := ?_) (a' := ?_) (ba 26 917503) rfl rfl (any_of HT_.out (by kernel_rfl)) (fun _ _ _ h => h) (Or.inl ⟨by rfl,?_⟩) ?_ ?_
                     rotate_left
                     · intro w'
                       go_simp
                       with_reducible rfl
                     rotate_left
                     · simp only [Act.put,NRM]
                       rfl
                     refine pure_ (i := 20) (N := some 116) (v := ?_) (a' := ?_) (ba 26 1966079) rfl rfl (any_of HT_.out (by kernel_rfl)) (fun _ _ _ h => h) (Or.inl ⟨by rfl,?_⟩) ?_ ?_
                     rotate_left
                     · intro w'
                       go_simp
                       with_reducible rfl
                     rotate_left
                     · simp only [Act.put,NRM]
                       rfl
                     refine pure_ (i := 21) (N := some 117) (v := ?_) (a' := ?_) (ba 26 4063231) rfl rfl (any_of HT_.out (by kernel_rfl)) (fun _ _ _ h => h) (Or.inl ⟨by rfl,?_⟩) ?_ ?_
                     rotate_left
                     · intro w'
                       go_simp
                       with_reducible rfl
                     rotate_left
                     · simp only [Act.put,NRM]
                       rfl
                     refine take_ (i := 17) (N := some 113) (v := ?_) (a' := ?_) (ba 26 4194303) rfl rfl (take_ofW HT_.out HW_.out (by kernel_rfl)) (fun _ _ _ h => h) (Or.inl ⟨by rfl,?_⟩) hHeld ?_ ?_
                     rotate_left
                     · rintro w' ⟨s0,s1,s2,s3,s4,s5⟩
                       go_simp
                       with_reducible rfl
                     rotate_left
                     · simp only [Act.put,NRM]
                       rfl
                     refine take_ (i := 22) (N := some 118) (v := ?_) (a' := ?_) (ba 26 8388607) rfl rfl (take_ofW HT_.out HW_.out (by kernel_rfl)) (fun _ _ _ h => h) (Or.inl ⟨by rfl,?_⟩) hHeld ?_ ?_
                     rotate_left
                     · rintro w' ⟨s0,s1,s2,s3,s4,s5⟩
                       go_simp
                       with_reducible rfl
                     rotate_left
                     · simp only [Act.put,NRM]
                       rfl
                     refine pure_ (i := 23) (N := some 119) (v := ?_) (a' := ?_) (ba 26 16777215) rfl rfl (any_of HT_.out (by kernel_rfl)) (fun _ _ _ h => h) (Or.inl ⟨by rfl,?_⟩) ?_ ?_
                     rotate_left
                     · intro w'
                       go_simp
                       with_reducible rfl
                     rotate_left
                     · simp only [Act.put,NRM]
                       rfl
                     refine pure_ (i := 24) (N := some 120) (v := ?_) (a' := ?_) (ba 26 33554431) rfl rfl (any_of HT_.out (by kernel_rfl)) (fun _ _ _ h => h) (Or.inl ⟨by rfl,?_⟩) ?_ ?_
                     rotate_left
                     · intro w'
                       go_simp
                       with_reducible rfl
                     rotate_left
                     · simp only [Act.put,NRM]
                       rfl
                     refine pure_ (i := 25) (N := some 14) (v := ?_) (a' := ?_) (ba 26 67108863) rfl rfl (any_of HT_.out (by kernel_rfl)) (fun _ _ _ h => h) (Or.inl ⟨by rfl,?_⟩) ?_ ?_
                     rotate_left
                     · intro w'
                       go_simp
                       with_reducible rfl
                     rotate_left
                     · simp only [Act.put,NRM]
                       rfl
                     refine done_ (done_of HT_.out (by kernel_rfl)) ?_
                     try go_wp2
                     go_roundg k3
                     case measure => have := HJ4.out;have := HJ50.out;have := HK3.out;omega
                     case rel => exact ⟨(decide ((rd t649 x15_3) ≤ ((rd_T54 l2 x15_3).f1))),(wrap64 (x15_3 + 1)),(by first | rfl | (simp;done) | (simp [*];done)),(by first | rfl | (simp;done) | (simp [*];done)),H',⟨by have := HJ4.out;have := HJ50.out;have := HK3.out;omega⟩,⟨by (with_reducible repeat (first | apply Kd.R_alloc | apply Kd.R_drewN | apply Kd.R_drew));exact HO_9.out⟩,⟨by (with_reducible repeat (first | apply Kd.R_alloc | apply Kd.R_drewN | apply Kd.R_drew));exact HO_11.out⟩,⟨BK624.out⟩,⟨BK625.out⟩,⟨HB.out⟩⟩
end
end Go.Proofs.YtnnmnhpeblhiiaaGreatDoor.C

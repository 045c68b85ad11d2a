/- A part of the proof: the walks of the functions that it reaches. TIGHT. -/
import Derived.Test.YtnnmnhpeblhiiaaGreatDoorMP19
import Derived.Test.YtnnmnhpeblhiiaaGreatDoorMP14
set_option linter.unusedVariables false
set_option linter.unusedSimpArgs false
namespace Go.Proofs.YtnnmnhpeblhiiaaGreatDoor.C
open Go.RowKit Go.Proofs.YtnnmnhpeblhiiaaGreatDoorW.PrintWords Go.Proofs.YtnnmnhpeblhiiaaGreatDoorW.PrintLast Go.Proofs.YtnnmnhpeblhiiaaGreatDoorW.PrintMore
set_option linter.unusedVariables false
set_option linter.unusedSimpArgs false
set_option maxHeartbeats 16000000
set_option maxRecDepth 100000
section
attribute [local go_sem] max2_int min2_int max_two min_two
def sl_IsSorted_int_int.l0 : Nat → List Int → Int → Option (Bool)
 | 0,_,_ => none
 | k + 1,x0,x3 => if x3 > 0 then (if 0 ≤ x3 then (if x3 < (x0.length : Int) then (if 0 ≤ (wrap64 (x3 - 1)) then (if (wrap64 (x3 - 1)) < (x0.length : Int) then ((cmp_Less_int.f (rd x0 x3) (rd x0 (wrap64 (x3 - 1)))).bind fun t142 => (if t142 = true then (some false) else (sl_IsSorted_int_int.l0 k x0 (wrap64 (x3 - 1))))) else (none)) else (none)) else (none)) else (none)) else (some true)
def sl_IsSorted_int_int.f (k : Nat) (l0 : List Int) : Option (Bool) := sl_IsSorted_int_int.l0 k l0 (wrap64 ((l0.length : Int) - 1))
theorem sl_IsSorted_int_int.calls (k : Nat) (A0 : Option Addr) (c0 : Nat) (l0 : List Int) (r : Bool) (w : World) (hr0 : Kd.C (Kd.int .i64) w A0 l0.length l0) (hc0 : l0.length ≤ c0) (h : sl_IsSorted_int_int.f k l0 = some r) :
 Calls Tryz.prog 138 #[.slice A0 l0.length c0] w fun e w' => e = .returned (.bool r) ∧ Drawn0 w w' := by
 have HR0 := am hr0
 have HC0 := am hc0
 clear hr0 hc0
 have H : (sl_IsSorted_int_int.l0 k l0 (wrap64 ((l0.length : Int) - 1))) = some r := h
 clear h
 replace H' := am H
 go_enter Tryz.func138,Tryz.ntmps138
 go_wp2
 repeat (go_quiet (fail);try go_wp2)
 go_loopg [3] k (fun kq v3 w' => ∃ (x3_1 : Int),v3 = .int .i64 x3_1 ∧ Aside0 (sl_IsSorted_int_int.l0 kq l0 x3_1 = some r) ∧ Aside0 (kq ≤ k) ∧ Drawn0 w w')
 case atStart => exact ⟨(wrap64 ((l0.length : Int) - 1)),(by first | rfl | (simp;done) | (simp [*];done)),H',⟨Nat.le_refl _⟩,by repeat (first | exact Drawn0.refl _ | apply Drawn0.step)⟩
 case round =>
  clear H'
  obtain ⟨x3_1,rfl,HA,HK1,⟨m1,rfl⟩⟩ := hrel
  cases gk with
  | zero => exact absurd HA.out (by simp [sl_IsSorted_int_int.l0])
  | succ k1 =>
   have H := HA.out
   clear HA
   simp only [sl_IsSorted_int_int.l0] at H
   by_cases c2 : x3_1 > 0
   case neg =>
    rw [if_neg c2] at H
    have c2b0 : decide (0 < x3_1) = false := decide_eq_false c2
    clear c2
    obtain rfl := Option.some.inj H
    go_wp2
    repeat (go_quiet (fail);try go_wp2)
    go_ret
    exact ⟨by first | rfl | (simp;done) | (simp [*];done),by repeat (first | exact Drawn0.refl _ | apply Drawn0.step)⟩
   rw [if_pos c2] at H
   have c2b0 : decide (0 < x3_1) = true := decide_eq_true c2
   clear c2
   by_cases c3 : 0 ≤ x3_1
   case neg =>
    rw [if_neg c3] at H
    exact absurd H (by simp)
   rw [if_pos c3] at H
   have c3b0 : decide (0 ≤ x3_1) = true := decide_eq_true c3
   clear c3
   by_cases c4 : x3_1 < (l0.length : Int)
   case neg =>
    rw [if_neg c4] at H
    exact absurd H (by simp)
   rw [if_pos c4] at H
   have c4b0 : decide (x3_1 < (l0.length : Int)) = true := decide_eq_true c4
   clear c4
   obtain ⟨ji5,hji5⟩ : ∃ j_ : Int,(wrap64 (x3_1 - 1)) = j_ := ⟨_,rfl⟩
   replace H : (if 0 ≤ (ji5) then (if (ji5) < (l0.length : Int) then ((cmp_Less_int.f (rd l0 x3_1) (rd l0 (ji5))).bind fun t142 => (if t142 = true then (some false) else (sl_IsSorted_int_int.l0 k1 l0 ji5))) else (none)) else (none)) = some r := by first | (rw [hji5] at H;exact H) | (simp only [hji5] at H ⊢;exact H)
   have hji5w : (IntKind.i64.wrap (x3_1 - 1)) = ji5 := (i64_w _).trans hji5
   by_cases c6 : 0 ≤ (ji5)
   case neg =>
    rw [if_neg c6] at H
    exact absurd H (by simp)
   rw [if_pos c6] at H
   have c6b0 : decide (0 ≤ (ji5)) = true := decide_eq_true c6
   clear c6
   by_cases c7 : (ji5) < (l0.length : Int)
   case neg =>
    rw [if_neg c7] at H
    exact absurd H (by simp)
   rw [if_pos c7] at H
   have c7b0 : decide ((ji5) < (l0.length : Int)) = true := decide_eq_true c7
   clear c7
   replace H := obm H
   obtain ⟨t142,A80,H⟩ := H
   replace H : (if t142 = true then (some false) else (sl_IsSorted_int_int.l0 k1 l0 ji5)) = some r := H
   have A8 := am A80
   clear A80
   by_cases c9 : t142 = true
   · subst c9
     replace H : (some false) = some r := by rw [if_pos rfl] at H;exact H
     obtain rfl := Option.some.inj H
     have p140 : 0 ≤ (x3_1 : Int) := of_decide_eq_true (by assumption)
     have q140 : x3_1 < (l0.length : Int) := of_decide_eq_true (by assumption)
     obtain ⟨ad140,e140,hx140_0⟩ := Kd.at_int HR0.out x3_1 p140 q140
     cases e140
     replace p140 := eq_true p140
     replace q140 := eq_true q140
     have p141 : 0 ≤ ((ji5) : Int) := of_decide_eq_true (by assumption)
     have q141 : (ji5) < (l0.length : Int) := of_decide_eq_true (by assumption)
     obtain ⟨ad141,e141,hx141_0⟩ := Kd.at_int HR0.out (ji5) p141 q141
     obtain rfl : ad140 = ad141 := (by injection e141)
     replace p141 := eq_true p141
     replace q141 := eq_true q141
     go_wp2_with (first | (go_at_call 147;(with_reducible refine (cmp_Less_int.calls (rd l0 x3_1) (rd l0 (ji5)) true _ A8.out).mono ?_);rintro e w' ⟨rfl,⟨nd,rfl⟩⟩;(try first | exact ⟨rfl,_,World.drewN_drewN _ _ _⟩ | exact ⟨rfl,_,Eq.trans (World.drewN_drewN _ _ _) (congrArg (World.drewN _) (Nat.add_assoc _ _ _))⟩)))
     repeat (go_quiet (first | (go_at_call 147;(with_reducible refine (cmp_Less_int.calls (rd l0 x3_1) (rd l0 (ji5)) true _ A8.out).mono ?_);rintro e w' ⟨rfl,⟨nd,rfl⟩⟩;(try first | exact ⟨rfl,_,World.drewN_drewN _ _ _⟩ | exact ⟨rfl,_,Eq.trans (World.drewN_drewN _ _ _) (congrArg (World.drewN _) (Nat.add_assoc _ _ _))⟩)));try go_wp2_with (first | (go_at_call 147;(with_reducible refine (cmp_Less_int.calls (rd l0 x3_1) (rd l0 (ji5)) true _ A8.out).mono ?_);rintro e w' ⟨rfl,⟨nd,rfl⟩⟩;(try first | exact ⟨rfl,_,World.drewN_drewN _ _ _⟩ | exact ⟨rfl,_,Eq.trans (World.drewN_drewN _ _ _) (congrArg (World.drewN _) (Nat.add_assoc _ _ _))⟩))))
     go_ret
     exact ⟨by first | rfl | (simp;done) | (simp only [← hji5] <;> (first | rfl | simp)) | (simp [*];done),by repeat (first | exact Drawn0.refl _ | apply Drawn0.step)⟩
   · replace c9 := Bool.eq_false_iff.mpr c9
     subst c9
     replace H : (sl_IsSorted_int_int.l0 k1 l0 ji5) = some r := by rw [if_neg (show ¬ (false = true) by decide)] at H;exact H
     replace H' := am H
     have p140 : 0 ≤ (x3_1 : Int) := of_decide_eq_true (by assumption)
     have q140 : x3_1 < (l0.length : Int) := of_decide_eq_true (by assumption)
     obtain ⟨ad140,e140,hx140_0⟩ := Kd.at_int HR0.out x3_1 p140 q140
     cases e140
     replace p140 := eq_true p140
     replace q140 := eq_true q140
     have p141 : 0 ≤ ((ji5) : Int) := of_decide_eq_true (by assumption)
     have q141 : (ji5) < (l0.length : Int) := of_decide_eq_true (by assumption)
     obtain ⟨ad141,e141,hx141_0⟩ := Kd.at_int HR0.out (ji5) p141 q141
     obtain rfl : ad140 = ad141 := (by injection e141)
     replace p141 := eq_true p141
     replace q141 := eq_true q141
     go_wp2_with (first | (go_at_call 147;(with_reducible refine (cmp_Less_int.calls (rd l0 x3_1) (rd l0 (ji5)) false _ A8.out).mono ?_);rintro e w' ⟨rfl,⟨nd,rfl⟩⟩;(try first | exact ⟨rfl,_,World.drewN_drewN _ _ _⟩ | exact ⟨rfl,_,Eq.trans (World.drewN_drewN _ _ _) (congrArg (World.drewN _) (Nat.add_assoc _ _ _))⟩)))
     repeat (go_quiet (first | (go_at_call 147;(with_reducible refine (cmp_Less_int.calls (rd l0 x3_1) (rd l0 (ji5)) false _ A8.out).mono ?_);rintro e w' ⟨rfl,⟨nd,rfl⟩⟩;(try first | exact ⟨rfl,_,World.drewN_drewN _ _ _⟩ | exact ⟨rfl,_,Eq.trans (World.drewN_drewN _ _ _) (congrArg (World.drewN _) (Nat.add_assoc _ _ _))⟩)));try go_wp2_with (first | (go_at_call 147;(with_reducible refine (cmp_Less_int.calls (rd l0 x3_1) (rd l0 (ji5)) false _ A8.out).mono ?_);rintro e w' ⟨rfl,⟨nd,rfl⟩⟩;(try first | exact ⟨rfl,_,World.drewN_drewN _ _ _⟩ | exact ⟨rfl,_,Eq.trans (World.drewN_drewN _ _ _) (congrArg (World.drewN _) (Nat.add_assoc _ _ _))⟩))))
     go_roundg k1
     case measure => have := HK1.out;omega
     case rel => exact ⟨(ji5),(by first | rfl | (simp;done) | (simp only [← hji5] <;> (first | rfl | simp)) | (simp [*];done)),H',⟨by have := HK1.out;omega⟩,by repeat (first | exact Drawn0.refl _ | apply Drawn0.step)⟩
def nz_isRow.f (l0_0 : List (S126)) (a0_1 : Int) (a1 : Int) : Option (Bool) := (nz_in.f a1 0 (wrap64 ((l0_0.length : Int) - 1))).bind fun t1063 => (some t1063)
theorem nz_isRow.calls (A0_0 : Option Addr) (c0_0 : Nat) (l0_0 : List (S126)) (a0_1 : Int) (a1 : Int) (r : Bool) (w : World) (hr0_0 : Kd.C k126 w A0_0 l0_0.length l0_0) (hc0_0 : l0_0.length ≤ c0_0) (h : nz_isRow.f l0_0 a0_1 a1 = some r) :
 Calls Tryz.prog 140 #[.agg #[.slice A0_0 l0_0.length c0_0,.int .i64 a0_1],.int .i64 a1] w fun e w' => e = .returned (.bool r) ∧ Below w.heap.size w w' := by
 have hu24 := Tryz.underlying24
 have HR0_0 := am hr0_0
 have HC0_0 := am hc0_0
 clear hr0_0 hc0_0
 have HB := am (Below.refl w.heap.size w)
 have H : ((nz_in.f a1 0 (wrap64 ((l0_0.length : Int) - 1))).bind fun t1063 => (some t1063)) = some r := h
 clear h
 replace H := obm H
 obtain ⟨t1063,A30,H⟩ := H
 replace H : (some t1063) = some r := H
 have A3 := am A30
 clear A30
 obtain rfl := Option.some.inj H
 go_enter Tryz.func140,Tryz.ntmps140
 go_wp2_with (first | ((refine gate_dst (N := 2) rfl ?_);refine box_event rfl (N := 2) rfl (cs := #[.slice A0_0 l0_0.length c0_0,.int .i64 a0_1]) (t := 24) ?hr ?_;(case hr => go_simp;try rfl);intro gb1062 hg w4 hbox hb;have BK1062 := am (hbox);have GW1062 := am (ge_new (HB.out) hg);have GE1062 := am (ge_new (HB.out) hg);replace HB := am (below_step (HB.out) hb);clear hb hbox hg;obtain ⟨hcz5_0,hcz5_1⟩ := cO2 BK1062.out) | ((with_reducible refine gate_callee (f := 135) rfl ?_);refine goesL_ (some 10) rfl rfl Tryz.func135 (by kernel_rfl) rfl #[.int .i64 a1,.int .i64 0,.int .i64 (wrap64 ((l0_0.length : Int) - 1))] rfl (by (try simp only [List.map_toArray,List.map_cons,List.map_nil]);first | done | rfl | (simp only [List.length_drop,List.length_take];rfl)) ?_;(with_reducible refine (nz_in.calls a1 0 (wrap64 ((l0_0.length : Int) - 1)) t1063 _ A3.out).mono ?_);rintro e w' ⟨rfl,⟨nd,rfl⟩⟩;refine ⟨_,rfl,?_⟩))
 go_ret
 exact ⟨by first | rfl | (simp [*] <;> rfl),pw_below_drewN HB.out _⟩
end
theorem isSet1_calls (g : Nat) (A0 : Option Addr) (c0 : Nat) (l0 : List S126) (a1 : Int) (n : Int) (r : Bool) (W : World) (hb : W.heap[g]? = some (.cells #[.slice A0 l0.length c0,.int .i64 a1] 24 (0,0)))
 (hr0 : Kd.C k126 W A0 l0.length l0) (hc0 : l0.length ≤ c0) (h : nz_isRow.f l0 a1 n = some r) :
 Calls Tryz.prog 139 #[.int .i64 n,.pointer (some ⟨g,0,none⟩)] W fun e W' => e = .returned (.bool (!r)) ∧ Below W.heap.size W W' := by
 have hu := Tryz.underlying24
 have HR := am hr0
 have HC := am hc0
 have H := am h
 obtain ⟨hcz0,hcz1⟩ := cO2 hb
 clear hr0 hc0 h hb
 go_enter Tryz.func139,Tryz.ntmps139
 go_wp2_with (go_at_call 140;refine (nz_isRow.calls _ _ l0 a1 n r _ HR.out HC.out H.out).mono ?_;rintro e W' ⟨rfl,hb⟩)
 go_ret
 exact ⟨rfl,hb⟩
def nz_isSet.f (l0 : List S126) (a1 : Int) (l1 : List Int) : Option Bool :=
 if (l1.length : Int) ≤ 6 then (sl_IsSorted_int_int.f (l1.length + 1) l1).bind fun t => (if t = true then (anyM (fun n => (nz_isRow.f l0 a1 n).bind fun b => some (!b)) l1).bind fun u => some (!u) else some false) else some false
theorem nz_isSet.calls (A0_0 : Option Addr) (c0_0 : Nat) (l0_0 : List S126) (a0_1 : Int) (A1 : Option Addr) (c1 : Nat) (l1 : List Int) (r : Bool) (w : World) (hr0_0 : Kd.C k126 w A0_0 l0_0.length l0_0) (hc0_0 : l0_0.length ≤ c0_0) (hr1 : Kd.C (Kd.int .i64) w A1 l1.length l1) (hc1 : l1.length ≤ c1) (h : nz_isSet.f l0_0 a0_1 l1 = some r) :
 Calls Tryz.prog 129 #[.agg #[.slice A0_0 l0_0.length c0_0,.int .i64 a0_1],.slice A1 l1.length c1] w fun e w' => e = .returned (.bool r) ∧ Below w.heap.size w w' := by
 have hu := Tryz.underlying24
 have HR := am hr0_0
 have HC := am hc0_0
 have HR1 := am (kC hr1 (below_alloc (Below.refl _ w) (.cells #[.slice A0_0 l0_0.length c0_0,.int .i64 a0_1] 24)))
 have HC1 := am hc1
 have HBX := am (blk_new w (.cells #[.slice A0_0 l0_0.length c0_0,.int .i64 a0_1] 24))
 have HB := am (below_alloc (Below.refl w.heap.size w) (.cells #[.slice A0_0 l0_0.length c0_0,.int .i64 a0_1] 24))
 have hm : l1.length ≤ 9223372036854775807 := Kd.C_max hr1
 clear hr0_0 hc0_0 hr1 hc1
 unfold nz_isSet.f at h
 by_cases h1 : (l1.length : Int) ≤ 6
 case neg =>
  rw [if_neg h1] at h
  have b1 : decide ((l1.length : Int) ≤ 6) = false := decide_eq_false h1
  clear h1
  obtain rfl := Option.some.inj h
  clear h
  go_enter Tryz.func129,Tryz.ntmps129
  go_wp2
  go_ret
  exact ⟨rfl,HB.out⟩
 rw [if_pos h1] at h
 have b1 : decide ((l1.length : Int) ≤ 6) = true := decide_eq_true h1
 clear h1
 obtain ⟨t,ht,h⟩ := obm h
 have H1 := am ht
 clear ht
 cases t with
 | true =>
  rw [if_pos rfl] at h
  obtain ⟨u,hu',h⟩ := obm h
  obtain rfl := Option.some.inj h
  have H2 := am hu'
  clear hu' h
  have HP := am (show ∀ W0,Below (w.alloc (.cells #[.slice A0_0 l0_0.length c0_0,.int .i64 a0_1] 24)).heap.size (w.alloc (.cells #[.slice A0_0 l0_0.length c0_0,.int .i64 a0_1] 24)) W0 → Pred_isSet w.heap.size (fun n => (nz_isRow.f l0_0 a0_1 n).bind fun b => some (!b)) W0 l1 from by
   intro W0 h0 x b W hx hq hb
   obtain ⟨b',hb',he⟩ := obm hq
   obtain rfl := Option.some.inj he
   exact isSet1_calls w.heap.size A0_0 c0_0 l0_0 a0_1 x b' W (blk_below (blk_below HBX.out h0) hb) (kC (kC (kC HR.out HB.out) h0) hb) HC.out hb')
  go_enter Tryz.func129,Tryz.ntmps129
  go_wp2_with (first | (go_at_call 138;refine (sl_IsSorted_int_int.calls _ _ _ l1 true _ HR1.out HC1.out H1.out).mono ?_;rintro e w1 ⟨rfl,hd⟩;have HB1 := am hd.below;clear hd) | (go_at_call 65;refine (any_isSet w.heap.size _ _ _ l1 u _ (kC HR1.out HB1.out) (HP.out _ HB1.out) H2.out).mono ?_;rintro e w' ⟨rfl,hb⟩))
  go_ret
  exact ⟨rfl,below_then (below_then HB.out HB.out.size HB1.out) (below_then HB.out HB.out.size HB1.out).size hb⟩
 | false =>
  rw [if_neg (by decide)] at h
  obtain rfl := Option.some.inj h
  clear h
  go_enter Tryz.func129,Tryz.ntmps129
  go_wp2_with (go_at_call 138;refine (sl_IsSorted_int_int.calls _ _ _ l1 false _ HR1.out HC1.out H1.out).mono ?_;rintro e w' ⟨rfl,hd⟩)
  go_ret
  exact ⟨rfl,below_then HB.out HB.out.size hd.below⟩
section
attribute [local go_sem] max2_int min2_int max_two min_two
def nz_Gives.f (k : Nat) (l0_0 : List (S126)) (a0_1 : Int) (l1 : List Int) : Option (Int × Int) := (nz_isTable.f l0_0 a0_1).bind fun t152 => (if t152 = true then ((nz_isSet.f l0_0 a0_1 l1).bind fun t153 => (if t153 = true then ((nz_gives.f k l0_0 a0_1 l1).bind fun t154 => (some (t154,0))) else (some (0,2)))) else (some (0,2)))
theorem nz_Gives.calls (k : Nat) (A0_0 : Option Addr) (c0_0 : Nat) (l0_0 : List (S126)) (a0_1 : Int) (A1 : Option Addr) (c1 : Nat) (l1 : List Int) (r1 : Int) (r2 : Int) (w : World) (hr0_0 : Kd.C k126 w A0_0 l0_0.length l0_0) (hc0_0 : l0_0.length ≤ c0_0) (hr1 : Kd.C (Kd.int .i64) w A1 l1.length l1) (hc1 : l1.length ≤ c1) (h : nz_Gives.f k l0_0 a0_1 l1 = some (r1,r2)) :
 Calls Tryz.prog 106 #[.agg #[.slice A0_0 l0_0.length c0_0,.int .i64 a0_1],.slice A1 l1.length c1] w fun e w' => e = .returned (.tuple #[.int .i64 r1,.int .i64 r2]) ∧ Below w.heap.size w w' := by
 have hu24 := Tryz.underlying24
 have HR0_0 := am hr0_0
 have HC0_0 := am hc0_0
 clear hr0_0 hc0_0
 have HR1 := am hr1
 have HC1 := am hc1
 clear hr1 hc1
 have HB := am (Below.refl w.heap.size w)
 have H : ((nz_isTable.f l0_0 a0_1).bind fun t152 => (if t152 = true then ((nz_isSet.f l0_0 a0_1 l1).bind fun t153 => (if t153 = true then ((nz_gives.f k l0_0 a0_1 l1).bind fun t154 => (some (t154,0))) else (some (0,2)))) else (some (0,2)))) = some (r1,r2) := h
 clear h
 replace H := obm H
 obtain ⟨t152,A30,H⟩ := H
 replace H : (if t152 = true then ((nz_isSet.f l0_0 a0_1 l1).bind fun t153 => (if t153 = true then ((nz_gives.f k l0_0 a0_1 l1).bind fun t154 => (some (t154,0))) else (some (0,2)))) else (some (0,2))) = some (r1,r2) := H
 have A3 := am A30
 clear A30
 by_cases c4 : t152 = true
 case neg =>
  replace c4 := Bool.eq_false_iff.mpr c4
  subst c4
  replace H : (some (0,2)) = some (r1,r2) := by rw [if_neg (show ¬ (false = true) by decide)] at H;exact H
  simp only [Option.some.injEq,Prod.mk.injEq] at H
  obtain ⟨rfl,rfl⟩ := H
  go_enter Tryz.func106,Tryz.ntmps106
  go_wp2_with (first | ((refine gate_dst (N := 2) rfl ?_);refine box_event rfl (N := 2) rfl (cs := #[.slice A0_0 l0_0.length c0_0,.int .i64 a0_1]) (t := 24) ?hr ?_;(case hr => go_simp;try rfl);intro gb151 hg w20 hbox hb;have BK151 := am (hbox);have GW151 := am (ge_new (HB.out) hg);have GE151 := am (ge_new (HB.out) hg);replace HB := am (below_step (HB.out) hb);clear hb hbox hg;obtain ⟨hcz21_0,hcz21_1⟩ := cO2 BK151.out) | ((with_reducible refine gate_callee (f := 127) rfl ?_);refine goesL_ (some 7) rfl rfl Tryz.func127 (by kernel_rfl) rfl #[.agg #[.slice A0_0 l0_0.length c0_0,.int .i64 a0_1]] rfl (by (try simp only [List.map_toArray,List.map_cons,List.map_nil]);first | done | rfl | (simp only [List.length_drop,List.length_take];rfl)) ?_;(refine (nz_isTable.calls _ _ l0_0 a0_1 false _ ?side1 ?side2 A3.out).mono ?_);(case side1 => exact kC HR0_0.out HB.out);(case side2 => exact HC0_0.out);rintro e w22 ⟨rfl,hb⟩;refine ⟨_,rfl,?_⟩;replace BK151 := (kmv hb BK151);replace HB := am (below_step (HB.out) hb);(try clear hb);(try clear hb2);(try clear hk);(try clear hi)))
  go_ret2
  exact ⟨by first | rfl | (simp [*] <;> rfl),HB.out⟩
 subst c4
 replace H : ((nz_isSet.f l0_0 a0_1 l1).bind fun t153 => (if t153 = true then ((nz_gives.f k l0_0 a0_1 l1).bind fun t154 => (some (t154,0))) else (some (0,2)))) = some (r1,r2) := by rw [if_pos rfl] at H;exact H
 replace H := obm H
 obtain ⟨t153,A50,H⟩ := H
 replace H : (if t153 = true then ((nz_gives.f k l0_0 a0_1 l1).bind fun t154 => (some (t154,0))) else (some (0,2))) = some (r1,r2) := H
 have A5 := am A50
 clear A50
 by_cases c6 : t153 = true
 case neg =>
  replace c6 := Bool.eq_false_iff.mpr c6
  subst c6
  replace H : (some (0,2)) = some (r1,r2) := by rw [if_neg (show ¬ (false = true) by decide)] at H;exact H
  simp only [Option.some.injEq,Prod.mk.injEq] at H
  obtain ⟨rfl,rfl⟩ := H
  go_enter Tryz.func106,Tryz.ntmps106
  go_wp2_with (first | ((refine gate_dst (N := 2) rfl ?_);refine box_event rfl (N := 2) rfl (cs := #[.slice A0_0 l0_0.length c0_0,.int .i64 a0_1]) (t := 24) ?hr ?_;(case hr => go_simp;try rfl);intro gb151 hg w15 hbox hb;have BK151 := am (hbox);have GW151 := am (ge_new (HB.out) hg);have GE151 := am (ge_new (HB.out) hg);replace HB := am (below_step (HB.out) hb);clear hb hbox hg;obtain ⟨hcz16_0,hcz16_1⟩ := cO2 BK151.out) | ((with_reducible refine gate_callee (f := 127) rfl ?_);refine goesL_ (some 7) rfl rfl Tryz.func127 (by kernel_rfl) rfl #[.agg #[.slice A0_0 l0_0.length c0_0,.int .i64 a0_1]] rfl (by (try simp only [List.map_toArray,List.map_cons,List.map_nil]);first | done | rfl | (simp only [List.length_drop,List.length_take];rfl)) ?_;(refine (nz_isTable.calls _ _ l0_0 a0_1 true _ ?side1 ?side2 A3.out).mono ?_);(case side1 => exact kC HR0_0.out HB.out);(case side2 => exact HC0_0.out);rintro e w17 ⟨rfl,hb⟩;refine ⟨_,rfl,?_⟩;replace BK151 := (kmv hb BK151);replace HB := am (below_step (HB.out) hb);(try clear hb);(try clear hb2);(try clear hk);(try clear hi);obtain ⟨hcz18_0,hcz18_1⟩ := cO2 BK151.out) | (go_at_call 129;(refine (nz_isSet.calls _ _ l0_0 a0_1 _ _ l1 false _ ?side1 ?side2 ?side3 ?side4 A5.out).mono ?_);(case side1 => exact kC HR0_0.out HB.out);(case side2 => exact HC0_0.out);(case side3 => exact kC HR1.out HB.out);(case side4 => exact HC1.out);rintro e w19 ⟨rfl,hb⟩;replace BK151 := (kmv hb BK151);replace HB := am (below_step (HB.out) hb);(try clear hb);(try clear hb2);(try clear hk);(try clear hi)))
  go_ret2
  exact ⟨by first | rfl | (simp [*] <;> rfl),HB.out⟩
 subst c6
 replace H : ((nz_gives.f k l0_0 a0_1 l1).bind fun t154 => (some (t154,0))) = some (r1,r2) := by rw [if_pos rfl] at H;exact H
 replace H := obm H
 obtain ⟨t154,A70,H⟩ := H
 replace H : (some (t154,0)) = some (r1,r2) := H
 have A7 := am A70
 clear A70
 simp only [Option.some.injEq,Prod.mk.injEq] at H
 obtain ⟨rfl,rfl⟩ := H
 go_enter Tryz.func106,Tryz.ntmps106
 go_wp2_with (first | ((refine gate_dst (N := 2) rfl ?_);refine box_event rfl (N := 2) rfl (cs := #[.slice A0_0 l0_0.length c0_0,.int .i64 a0_1]) (t := 24) ?hr ?_;(case hr => go_simp;try rfl);intro gb151 hg w8 hbox hb;have BK151 := am (hbox);have GW151 := am (ge_new (HB.out) hg);have GE151 := am (ge_new (HB.out) hg);replace HB := am (below_step (HB.out) hb);clear hb hbox hg;obtain ⟨hcz9_0,hcz9_1⟩ := cO2 BK151.out) | ((with_reducible refine gate_callee (f := 127) rfl ?_);refine goesL_ (some 7) rfl rfl Tryz.func127 (by kernel_rfl) rfl #[.agg #[.slice A0_0 l0_0.length c0_0,.int .i64 a0_1]] rfl (by (try simp only [List.map_toArray,List.map_cons,List.map_nil]);first | done | rfl | (simp only [List.length_drop,List.length_take];rfl)) ?_;(refine (nz_isTable.calls _ _ l0_0 a0_1 true _ ?side1 ?side2 A3.out).mono ?_);(case side1 => exact kC HR0_0.out HB.out);(case side2 => exact HC0_0.out);rintro e w10 ⟨rfl,hb⟩;refine ⟨_,rfl,?_⟩;replace BK151 := (kmv hb BK151);replace HB := am (below_step (HB.out) hb);(try clear hb);(try clear hb2);(try clear hk);(try clear hi);obtain ⟨hcz11_0,hcz11_1⟩ := cO2 BK151.out) | (go_at_call 129;(refine (nz_isSet.calls _ _ l0_0 a0_1 _ _ l1 true _ ?side1 ?side2 ?side3 ?side4 A5.out).mono ?_);(case side1 => exact kC HR0_0.out HB.out);(case side2 => exact HC0_0.out);(case side3 => exact kC HR1.out HB.out);(case side4 => exact HC1.out);rintro e w12 ⟨rfl,hb⟩;replace BK151 := (kmv hb BK151);replace HB := am (below_step (HB.out) hb);(try clear hb);(try clear hb2);(try clear hk);(try clear hi);obtain ⟨hcz13_0,hcz13_1⟩ := cO2 BK151.out) | ((with_reducible refine gate_callee (f := 130) rfl ?_);refine goesL_ (some 17) rfl rfl Tryz.func130 (by kernel_rfl) rfl #[.agg #[.slice A0_0 l0_0.length c0_0,.int .i64 a0_1],.slice A1 l1.length c1] rfl (by (try simp only [List.map_toArray,List.map_cons,List.map_nil]);first | done | rfl | (simp only [List.length_drop,List.length_take];rfl)) ?_;(refine (nz_gives.calls k _ _ l0_0 a0_1 _ _ l1 t154 _ ?side1 ?side2 ?side3 ?side4 A7.out).mono ?_);(case side1 => exact kC HR0_0.out HB.out);(case side2 => exact HC0_0.out);(case side3 => exact kC HR1.out HB.out);(case side4 => exact HC1.out);rintro e w14 ⟨rfl,hb⟩;refine ⟨_,rfl,?_⟩;replace BK151 := (kmv hb BK151);replace HB := am (below_step (HB.out) hb);(try clear hb);(try clear hb2);(try clear hk);(try clear hi)))
 go_ret2
 exact ⟨by first | rfl | (simp [*] <;> rfl),HB.out⟩
end
end Go.Proofs.YtnnmnhpeblhiiaaGreatDoor.C

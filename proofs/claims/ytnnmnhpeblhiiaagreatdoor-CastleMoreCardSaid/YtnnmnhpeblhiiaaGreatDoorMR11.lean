/- A part of the proof: the walks of the functions that it reaches. TIGHT. -/
import Derived.Test.YtnnmnhpeblhiiaaGreatDoorMR10
set_option linter.unusedVariables false
set_option linter.unusedSimpArgs false
namespace Go.Proofs.YtnnmnhpeblhiiaaGreatDoor.C
open Go.RowKit Go.Proofs.YtnnmnhpeblhiiaaGreatDoorW.PrintWords Go.Proofs.YtnnmnhpeblhiiaaGreatDoorW.PrintLast Go.Proofs.YtnnmnhpeblhiiaaGreatDoorW.PrintMore
set_option linter.unusedVariables false
set_option linter.unusedSimpArgs false
set_option maxHeartbeats 16000000
set_option maxRecDepth 100000
section
attribute [local go_sem] max2_int min2_int max_two min_two
def q4_Basin.l0 : Nat → Int → List (S126) → Int → List (S48) → Int → Int → Option (Bool)
 | 0,_,_,_,_,_,_ => none
 | k + 1,x3,x112000,x112001,x112002,x112003,x112004 => if x3 < (x112002.length : Int) then (if 0 ≤ x3 then ((q4_in.f ((rd_T48 x112002 x3).f0) 0 (wrap64 ((x112000.length : Int) - 1))).bind fun t113 => (if t113 = true then ((q4_Height.f ((rd_T48 x112002 x3).f1)).bind fun t115 => (if t115 = true then (q4_Basin.l0 k (wrap64 (x3 + 1)) x112000 x112001 x112002 x112003 x112004) else (some false))) else (some false))) else (none)) else ((q3_Table.f k x112000 x112001).bind fun t116 => (if t116 = true then ((q4_in.f (x112002.length : Int) 1 6).bind fun t117 => (if t117 = true then ((q4_Height.f x112003).bind fun t118 => (if t118 = true then ((q4_in.f x112004 0 100).bind fun t119 => (some t119)) else (some false))) else (some false))) else (some false)))
def q4_Basin.f (k : Nat) (l0_0 : List (S126)) (a0_1 : Int) (l0_2 : List (S48)) (a0_3 : Int) (a0_4 : Int) : Option (Bool) := q4_Basin.l0 k 0 l0_0 a0_1 l0_2 a0_3 a0_4
theorem in_w {a b c : Int} {r : Bool} (h : q4_in.f a b (wrap64 c) = some r) : q4_in.f a b (IntKind.i64.wrap c) = some r := by rw [i64_w];exact h
theorem q4_Basin.calls (k : Nat) (A0_0 : Option Addr) (c0_0 : Nat) (l0_0 : List (S126)) (a0_1 : Int) (A0_2 : Option Addr) (c0_2 : Nat) (l0_2 : List (S48)) (a0_3 : Int) (a0_4 : Int) (r : Bool) (w : World) (hr0_0 : Kd.C k126 w A0_0 l0_0.length l0_0) (hc0_0 : l0_0.length ≤ c0_0) (hr0_2 : Kd.C k48 w A0_2 l0_2.length l0_2) (hc0_2 : l0_2.length ≤ c0_2) (h : q4_Basin.f k l0_0 a0_1 l0_2 a0_3 a0_4 = some r) :
 Calls Tryz.prog 15 #[.agg #[.slice A0_0 l0_0.length c0_0,.int .i64 a0_1,.slice A0_2 l0_2.length c0_2,.int .i64 a0_3,.int .i64 a0_4]] w fun e w' => e = .returned (.bool r) ∧ Below w.heap.size w w' := by
 have hu27 := Tryz.underlying27
 have hu24 := Tryz.underlying24
 have HR0_0 := am hr0_0
 have HC0_0 := am hc0_0
 clear hr0_0 hc0_0
 have HR0_2 := am hr0_2
 have HC0_2 := am hc0_2
 clear hr0_2 hc0_2
 have HB := am (Below.refl w.heap.size w)
 have H : (q4_Basin.l0 k 0 l0_0 a0_1 l0_2 a0_3 a0_4) = some r := h
 clear h
 replace H' := am H
 go_enter Tryz.func15,Tryz.ntmps15
 go_wp2_with (first | ((refine gate_dst (N := 1) rfl ?_);(try (refine gate_guard (by rfl) ?_;dsimp only));refine box_event rfl (N := 1) rfl (cs := #[.slice A0_0 l0_0.length c0_0,.int .i64 a0_1,.slice A0_2 l0_2.length c0_2,.int .i64 a0_3,.int .i64 a0_4]) (t := 27) ?hr ?_;(case hr => go_simp;try rfl);intro gb111 hg w2 hbox hb;have BK111 := am (hbox);have GW111 := am (ge_new (HB.out) hg);have GE111 := am (ge_new (HB.out) hg);replace HB := am (below_step (HB.out) hb);clear hb hbox hg))
 repeat (go_quiet (first | ((refine gate_dst (N := 1) rfl ?_);(try (refine gate_guard (by rfl) ?_;dsimp only));refine box_event rfl (N := 1) rfl (cs := #[.slice A0_0 l0_0.length c0_0,.int .i64 a0_1,.slice A0_2 l0_2.length c0_2,.int .i64 a0_3,.int .i64 a0_4]) (t := 27) ?hr ?_;(case hr => go_simp;try rfl);intro gb111 hg w2 hbox hb;have BK111 := am (hbox);have GW111 := am (ge_new (by repeat (first | (with_reducible first | exact HB.out | apply below_alloc | apply pw_below_drewN) | exact HB.out)) hg);have GE111 := am (ge_new (by repeat (first | (with_reducible first | exact HB.out | apply below_alloc | apply pw_below_drewN) | exact HB.out)) hg);replace HB := am (below_step (by repeat (first | (with_reducible first | exact HB.out | apply below_alloc | apply pw_below_drewN) | exact HB.out)) hb);clear hb hbox hg));try go_wp2_with (first | ((refine gate_dst (N := 1) rfl ?_);(try (refine gate_guard (by rfl) ?_;dsimp only));refine box_event rfl (N := 1) rfl (cs := #[.slice A0_0 l0_0.length c0_0,.int .i64 a0_1,.slice A0_2 l0_2.length c0_2,.int .i64 a0_3,.int .i64 a0_4]) (t := 27) ?hr ?_;(case hr => go_simp;try rfl);intro gb111 hg w2 hbox hb;have BK111 := am (hbox);have GW111 := am (ge_new (by repeat (first | (with_reducible first | exact HB.out | apply below_alloc | apply pw_below_drewN) | exact HB.out)) hg);have GE111 := am (ge_new (by repeat (first | (with_reducible first | exact HB.out | apply below_alloc | apply pw_below_drewN) | exact HB.out)) hg);replace HB := am (below_step (by repeat (first | (with_reducible first | exact HB.out | apply below_alloc | apply pw_below_drewN) | exact HB.out)) hb);clear hb hbox hg)))
 go_loopg [3] k (fun kq v3 w' => ∃ (x3_1 : Int),v3 = .int .i64 x3_1 ∧ Aside0 (q4_Basin.l0 kq x3_1 l0_0 a0_1 l0_2 a0_3 a0_4 = some r) ∧ Aside0 (kq ≤ k) ∧ Aside0 (w'.heap[gb111]? = some (.cells #[(.slice A0_0 l0_0.length c0_0),.int .i64 a0_1,(.slice A0_2 l0_2.length c0_2),.int .i64 a0_3,.int .i64 a0_4] 27 (0,0))) ∧ Aside0 (Below w.heap.size w w'))
 case atStart => exact ⟨(0),(by first | rfl | (simp;done) | (simp [*];done)),H',⟨Nat.le_refl _⟩,⟨BK111.out⟩,⟨HB.out⟩⟩
 case round =>
  clear H'
  obtain ⟨x3_1,rfl,HA,HK1,BK111,HB⟩ := hrel
  cases gk with
  | zero => exact absurd HA.out (by simp [q4_Basin.l0])
  | succ k1 =>
   have H := HA.out
   clear HA
   simp only [q4_Basin.l0] at H
   by_cases c3 : x3_1 < (l0_2.length : Int)
   · rw [if_pos c3] at H
     have c3b0 : decide (x3_1 < (l0_2.length : Int)) = true := decide_eq_true c3
     clear c3
     by_cases c4 : 0 ≤ x3_1
     case neg =>
      rw [if_neg c4] at H
      exact absurd H (by simp)
     rw [if_pos c4] at H
     have c4b0 : decide (0 ≤ x3_1) = true := decide_eq_true c4
     clear c4
     replace H := obm H
     obtain ⟨t113,A50,H⟩ := H
     replace H : (if t113 = true then ((q4_Height.f ((rd_T48 l0_2 x3_1).f1)).bind fun t115 => (if t115 = true then (q4_Basin.l0 k1 (wrap64 (x3_1 + 1)) l0_0 a0_1 l0_2 a0_3 a0_4) else (some false))) else (some false)) = some r := H
     have A5 := am A50
     clear A50
     by_cases c6 : t113 = true
     case neg =>
      replace c6 := Bool.eq_false_iff.mpr c6
      subst c6
      replace H : (some false) = some r := by rw [if_neg (show ¬ (false = true) by decide)] at H;exact H
      obtain rfl := Option.some.inj H
      obtain ⟨hcz11_0,hcz11_1,hcz11_2,hcz11_3,hcz11_4⟩ := cO5 BK111.out
      have p112 : 0 ≤ (x3_1 : Int) := of_decide_eq_true (by assumption)
      have q112 : x3_1 < (l0_2.length : Int) := of_decide_eq_true (by assumption)
      obtain ⟨ad112,e112,hx112_0,hx112_1⟩ := at_T48 HR0_2.out x3_1 p112 q112
      cases e112
      replace hx112_0 := (HB.out.cell (wbl hx112_0)).trans hx112_0
      replace hx112_1 := (HB.out.cell (wbl hx112_1)).trans hx112_1
      replace p112 := eq_true p112
      replace q112 := eq_true q112
      go_wp2_with (first | (go_at_call 54;(with_reducible refine (q4_in.calls ((rd_T48 l0_2 x3_1).f0) 0 (wrap64 ((l0_0.length : Int) - 1)) false _ A5.out).mono ?_);rintro e w' ⟨rfl,⟨nd,rfl⟩⟩;(try first | exact ⟨rfl,_,World.drewN_drewN _ _ _⟩ | exact ⟨rfl,_,Eq.trans (World.drewN_drewN _ _ _) (congrArg (World.drewN _) (Nat.add_assoc _ _ _))⟩)))
      repeat (go_quiet (first | (go_at_call 54;(with_reducible refine (q4_in.calls ((rd_T48 l0_2 x3_1).f0) 0 (wrap64 ((l0_0.length : Int) - 1)) false _ A5.out).mono ?_);rintro e w' ⟨rfl,⟨nd,rfl⟩⟩;(try first | exact ⟨rfl,_,World.drewN_drewN _ _ _⟩ | exact ⟨rfl,_,Eq.trans (World.drewN_drewN _ _ _) (congrArg (World.drewN _) (Nat.add_assoc _ _ _))⟩)));try go_wp2_with (first | (go_at_call 54;(with_reducible refine (q4_in.calls ((rd_T48 l0_2 x3_1).f0) 0 (wrap64 ((l0_0.length : Int) - 1)) false _ A5.out).mono ?_);rintro e w' ⟨rfl,⟨nd,rfl⟩⟩;(try first | exact ⟨rfl,_,World.drewN_drewN _ _ _⟩ | exact ⟨rfl,_,Eq.trans (World.drewN_drewN _ _ _) (congrArg (World.drewN _) (Nat.add_assoc _ _ _))⟩))))
      go_ret
      exact ⟨by first | rfl | (simp [*] <;> rfl),pw_below_drewN HB.out _⟩
     subst c6
     replace H : ((q4_Height.f ((rd_T48 l0_2 x3_1).f1)).bind fun t115 => (if t115 = true then (q4_Basin.l0 k1 (wrap64 (x3_1 + 1)) l0_0 a0_1 l0_2 a0_3 a0_4) else (some false))) = some r := by rw [if_pos rfl] at H;exact H
     replace H := obm H
     obtain ⟨t115,A70,H⟩ := H
     replace H : (if t115 = true then (q4_Basin.l0 k1 (wrap64 (x3_1 + 1)) l0_0 a0_1 l0_2 a0_3 a0_4) else (some false)) = some r := H
     have A7 := am A70
     clear A70
     by_cases c8 : t115 = true
     · subst c8
       replace H : (q4_Basin.l0 k1 (wrap64 (x3_1 + 1)) l0_0 a0_1 l0_2 a0_3 a0_4) = some r := by rw [if_pos rfl] at H;exact H
       replace H' := am H
       obtain ⟨hcz9_0,hcz9_1,hcz9_2,hcz9_3,hcz9_4⟩ := cO5 BK111.out
       have p112 : 0 ≤ (x3_1 : Int) := of_decide_eq_true (by assumption)
       have q112 : x3_1 < (l0_2.length : Int) := of_decide_eq_true (by assumption)
       obtain ⟨ad112,e112,hx112_0,hx112_1⟩ := at_T48 HR0_2.out x3_1 p112 q112
       cases e112
       replace hx112_0 := (HB.out.cell (wbl hx112_0)).trans hx112_0
       replace hx112_1 := (HB.out.cell (wbl hx112_1)).trans hx112_1
       replace p112 := eq_true p112
       replace q112 := eq_true q112
       go_wp2_with (first | (go_at_call 54;(with_reducible refine (q4_in.calls ((rd_T48 l0_2 x3_1).f0) 0 (IntKind.i64.wrap ((l0_0.length : Int) - 1)) true _ (in_w A5.out)).mono ?_);rintro e w' ⟨rfl,⟨nd,rfl⟩⟩;(try first | exact ⟨rfl,_,World.drewN_drewN _ _ _⟩ | exact ⟨rfl,_,Eq.trans (World.drewN_drewN _ _ _) (congrArg (World.drewN _) (Nat.add_assoc _ _ _))⟩);have p114 : 0 ≤ (x3_1 : Int) := of_decide_eq_true (by assumption);have q114 : x3_1 < (l0_2.length : Int) := of_decide_eq_true (by assumption);obtain ⟨ad114,e114,hx114_0,hx114_1⟩ := at_T48 HR0_2.out x3_1 p114 q114;obtain rfl : ad112 = ad114 := (by injection e114);replace hx114_0 := (HB.out.cell (wbl hx114_0)).trans hx114_0;replace hx114_1 := (HB.out.cell (wbl hx114_1)).trans hx114_1;replace p114 := eq_true p114;replace q114 := eq_true q114) | (go_at_call 39;(with_reducible refine (q4_Height.calls ((rd_T48 l0_2 x3_1).f1) true _ A7.out).mono ?_);rintro e w' ⟨rfl,⟨nd,rfl⟩⟩;(try first | exact ⟨rfl,_,World.drewN_drewN _ _ _⟩ | exact ⟨rfl,_,Eq.trans (World.drewN_drewN _ _ _) (congrArg (World.drewN _) (Nat.add_assoc _ _ _))⟩)))
       repeat (go_quiet (first | (go_at_call 54;(with_reducible refine (q4_in.calls ((rd_T48 l0_2 x3_1).f0) 0 (IntKind.i64.wrap ((l0_0.length : Int) - 1)) true _ (in_w A5.out)).mono ?_);rintro e w' ⟨rfl,⟨nd,rfl⟩⟩;(try first | exact ⟨rfl,_,World.drewN_drewN _ _ _⟩ | exact ⟨rfl,_,Eq.trans (World.drewN_drewN _ _ _) (congrArg (World.drewN _) (Nat.add_assoc _ _ _))⟩);have p114 : 0 ≤ (x3_1 : Int) := of_decide_eq_true (by assumption);have q114 : x3_1 < (l0_2.length : Int) := of_decide_eq_true (by assumption);obtain ⟨ad114,e114,hx114_0,hx114_1⟩ := at_T48 HR0_2.out x3_1 p114 q114;obtain rfl : ad112 = ad114 := (by injection e114);replace hx114_0 := (HB.out.cell (wbl hx114_0)).trans hx114_0;replace hx114_1 := (HB.out.cell (wbl hx114_1)).trans hx114_1;replace p114 := eq_true p114;replace q114 := eq_true q114) | (go_at_call 39;(with_reducible refine (q4_Height.calls ((rd_T48 l0_2 x3_1).f1) true _ A7.out).mono ?_);rintro e w' ⟨rfl,⟨nd,rfl⟩⟩;(try first | exact ⟨rfl,_,World.drewN_drewN _ _ _⟩ | exact ⟨rfl,_,Eq.trans (World.drewN_drewN _ _ _) (congrArg (World.drewN _) (Nat.add_assoc _ _ _))⟩)));try go_wp2_with (first | (go_at_call 54;(with_reducible refine (q4_in.calls ((rd_T48 l0_2 x3_1).f0) 0 (IntKind.i64.wrap ((l0_0.length : Int) - 1)) true _ (in_w A5.out)).mono ?_);rintro e w' ⟨rfl,⟨nd,rfl⟩⟩;(try first | exact ⟨rfl,_,World.drewN_drewN _ _ _⟩ | exact ⟨rfl,_,Eq.trans (World.drewN_drewN _ _ _) (congrArg (World.drewN _) (Nat.add_assoc _ _ _))⟩);have p114 : 0 ≤ (x3_1 : Int) := of_decide_eq_true (by assumption);have q114 : x3_1 < (l0_2.length : Int) := of_decide_eq_true (by assumption);obtain ⟨ad114,e114,hx114_0,hx114_1⟩ := at_T48 HR0_2.out x3_1 p114 q114;obtain rfl : ad112 = ad114 := (by injection e114);replace hx114_0 := (HB.out.cell (wbl hx114_0)).trans hx114_0;replace hx114_1 := (HB.out.cell (wbl hx114_1)).trans hx114_1;replace p114 := eq_true p114;replace q114 := eq_true q114) | (go_at_call 39;(with_reducible refine (q4_Height.calls ((rd_T48 l0_2 x3_1).f1) true _ A7.out).mono ?_);rintro e w' ⟨rfl,⟨nd,rfl⟩⟩;(try first | exact ⟨rfl,_,World.drewN_drewN _ _ _⟩ | exact ⟨rfl,_,Eq.trans (World.drewN_drewN _ _ _) (congrArg (World.drewN _) (Nat.add_assoc _ _ _))⟩))))
       go_roundg k1
       case measure => have := HK1.out;omega
       case rel => exact ⟨(wrap64 (x3_1 + 1)),(by first | rfl | (simp;done) | (simp [*];done)),H',⟨by have := HK1.out;omega⟩,⟨BK111.out⟩,⟨pw_below_drewN HB.out _⟩⟩
     · replace c8 := Bool.eq_false_iff.mpr c8
       subst c8
       replace H : (some false) = some r := by rw [if_neg (show ¬ (false = true) by decide)] at H;exact H
       obtain rfl := Option.some.inj H
       obtain ⟨hcz10_0,hcz10_1,hcz10_2,hcz10_3,hcz10_4⟩ := cO5 BK111.out
       have p112 : 0 ≤ (x3_1 : Int) := of_decide_eq_true (by assumption)
       have q112 : x3_1 < (l0_2.length : Int) := of_decide_eq_true (by assumption)
       obtain ⟨ad112,e112,hx112_0,hx112_1⟩ := at_T48 HR0_2.out x3_1 p112 q112
       cases e112
       replace hx112_0 := (HB.out.cell (wbl hx112_0)).trans hx112_0
       replace hx112_1 := (HB.out.cell (wbl hx112_1)).trans hx112_1
       replace p112 := eq_true p112
       replace q112 := eq_true q112
       go_wp2_with (first | (go_at_call 54;(with_reducible refine (q4_in.calls ((rd_T48 l0_2 x3_1).f0) 0 (IntKind.i64.wrap ((l0_0.length : Int) - 1)) true _ (in_w A5.out)).mono ?_);rintro e w' ⟨rfl,⟨nd,rfl⟩⟩;(try first | exact ⟨rfl,_,World.drewN_drewN _ _ _⟩ | exact ⟨rfl,_,Eq.trans (World.drewN_drewN _ _ _) (congrArg (World.drewN _) (Nat.add_assoc _ _ _))⟩);have p114 : 0 ≤ (x3_1 : Int) := of_decide_eq_true (by assumption);have q114 : x3_1 < (l0_2.length : Int) := of_decide_eq_true (by assumption);obtain ⟨ad114,e114,hx114_0,hx114_1⟩ := at_T48 HR0_2.out x3_1 p114 q114;obtain rfl : ad112 = ad114 := (by injection e114);replace hx114_0 := (HB.out.cell (wbl hx114_0)).trans hx114_0;replace hx114_1 := (HB.out.cell (wbl hx114_1)).trans hx114_1;replace p114 := eq_true p114;replace q114 := eq_true q114) | (go_at_call 39;(with_reducible refine (q4_Height.calls ((rd_T48 l0_2 x3_1).f1) false _ A7.out).mono ?_);rintro e w' ⟨rfl,⟨nd,rfl⟩⟩;(try first | exact ⟨rfl,_,World.drewN_drewN _ _ _⟩ | exact ⟨rfl,_,Eq.trans (World.drewN_drewN _ _ _) (congrArg (World.drewN _) (Nat.add_assoc _ _ _))⟩)))
       repeat (go_quiet (first | (go_at_call 54;(with_reducible refine (q4_in.calls ((rd_T48 l0_2 x3_1).f0) 0 (IntKind.i64.wrap ((l0_0.length : Int) - 1)) true _ (in_w A5.out)).mono ?_);rintro e w' ⟨rfl,⟨nd,rfl⟩⟩;(try first | exact ⟨rfl,_,World.drewN_drewN _ _ _⟩ | exact ⟨rfl,_,Eq.trans (World.drewN_drewN _ _ _) (congrArg (World.drewN _) (Nat.add_assoc _ _ _))⟩);have p114 : 0 ≤ (x3_1 : Int) := of_decide_eq_true (by assumption);have q114 : x3_1 < (l0_2.length : Int) := of_decide_eq_true (by assumption);obtain ⟨ad114,e114,hx114_0,hx114_1⟩ := at_T48 HR0_2.out x3_1 p114 q114;obtain rfl : ad112 = ad114 := (by injection e114);replace hx114_0 := (HB.out.cell (wbl hx114_0)).trans hx114_0;replace hx114_1 := (HB.out.cell (wbl hx114_1)).trans hx114_1;replace p114 := eq_true p114;replace q114 := eq_true q114) | (go_at_call 39;(with_reducible refine (q4_Height.calls ((rd_T48 l0_2 x3_1).f1) false _ A7.out).mono ?_);rintro e w' ⟨rfl,⟨nd,rfl⟩⟩;(try first | exact ⟨rfl,_,World.drewN_drewN _ _ _⟩ | exact ⟨rfl,_,Eq.trans (World.drewN_drewN _ _ _) (congrArg (World.drewN _) (Nat.add_assoc _ _ _))⟩)));try go_wp2_with (first | (go_at_call 54;(with_reducible refine (q4_in.calls ((rd_T48 l0_2 x3_1).f0) 0 (IntKind.i64.wrap ((l0_0.length : Int) - 1)) true _ (in_w A5.out)).mono ?_);rintro e w' ⟨rfl,⟨nd,rfl⟩⟩;(try first | exact ⟨rfl,_,World.drewN_drewN _ _ _⟩ | exact ⟨rfl,_,Eq.trans (World.drewN_drewN _ _ _) (congrArg (World.drewN _) (Nat.add_assoc _ _ _))⟩);have p114 : 0 ≤ (x3_1 : Int) := of_decide_eq_true (by assumption);have q114 : x3_1 < (l0_2.length : Int) := of_decide_eq_true (by assumption);obtain ⟨ad114,e114,hx114_0,hx114_1⟩ := at_T48 HR0_2.out x3_1 p114 q114;obtain rfl : ad112 = ad114 := (by injection e114);replace hx114_0 := (HB.out.cell (wbl hx114_0)).trans hx114_0;replace hx114_1 := (HB.out.cell (wbl hx114_1)).trans hx114_1;replace p114 := eq_true p114;replace q114 := eq_true q114) | (go_at_call 39;(with_reducible refine (q4_Height.calls ((rd_T48 l0_2 x3_1).f1) false _ A7.out).mono ?_);rintro e w' ⟨rfl,⟨nd,rfl⟩⟩;(try first | exact ⟨rfl,_,World.drewN_drewN _ _ _⟩ | exact ⟨rfl,_,Eq.trans (World.drewN_drewN _ _ _) (congrArg (World.drewN _) (Nat.add_assoc _ _ _))⟩))))
       go_ret
       exact ⟨by first | rfl | (simp [*] <;> rfl),pw_below_drewN HB.out _⟩
   · rw [if_neg c3] at H
     have c3b0 : decide (x3_1 < (l0_2.length : Int)) = false := decide_eq_false c3
     clear c3
     replace H := obm H
     obtain ⟨t116,A120,H⟩ := H
     replace H : (if t116 = true then ((q4_in.f (l0_2.length : Int) 1 6).bind fun t117 => (if t117 = true then ((q4_Height.f a0_3).bind fun t118 => (if t118 = true then ((q4_in.f a0_4 0 100).bind fun t119 => (some t119)) else (some false))) else (some false))) else (some false)) = some r := H
     have A12 := am A120
     clear A120
     by_cases c13 : t116 = true
     case neg =>
      replace c13 := Bool.eq_false_iff.mpr c13
      subst c13
      replace H : (some false) = some r := by rw [if_neg (show ¬ (false = true) by decide)] at H;exact H
      obtain rfl := Option.some.inj H
      obtain ⟨hcz28_0,hcz28_1,hcz28_2,hcz28_3,hcz28_4⟩ := cO5 BK111.out
      go_wp2_with (first | (go_at_call 55;(with_reducible refine (q3_Table.calls k1 _ _ l0_0 a0_1 false _ ?side1 ?side2 A12.out).mono ?_);(case side1 => exact kC HR0_0.out HB.out);(case side2 => exact HC0_0.out);rintro e w29 ⟨rfl,hb⟩;replace BK111 := (kmv hb BK111);replace HB := am (below_step (HB.out) hb);(try clear hb);(try clear hb2);(try clear hk);(try clear hi)))
      repeat (go_quiet (first | (go_at_call 55;(with_reducible refine (q3_Table.calls k1 _ _ l0_0 a0_1 false _ ?side1 ?side2 A12.out).mono ?_);(case side1 => repeat (first | exact (kC HR0_0.out HB.out) | (with_reducible refine Kd.C_alloc ?_ _) | (with_reducible refine Kd.C_drewN ?_ _) | (with_reducible refine Kd.C_drew ?_)));(case side2 => exact HC0_0.out);rintro e w29 ⟨rfl,hb⟩;replace BK111 := (kmv hb BK111);replace HB := am (below_step (by repeat (first | (with_reducible first | exact HB.out | refine below_set ?_ GE111.out | apply below_alloc | apply pw_below_drewN) | exact HB.out)) hb);(try clear hb);(try clear hb2);(try clear hk);(try clear hi)));try go_wp2_with (first | (go_at_call 55;(with_reducible refine (q3_Table.calls k1 _ _ l0_0 a0_1 false _ ?side1 ?side2 A12.out).mono ?_);(case side1 => repeat (first | exact (kC HR0_0.out HB.out) | (with_reducible refine Kd.C_alloc ?_ _) | (with_reducible refine Kd.C_drewN ?_ _) | (with_reducible refine Kd.C_drew ?_)));(case side2 => exact HC0_0.out);rintro e w29 ⟨rfl,hb⟩;replace BK111 := (kmv hb BK111);replace HB := am (below_step (by repeat (first | (with_reducible first | exact HB.out | refine below_set ?_ GE111.out | apply below_alloc | apply pw_below_drewN) | exact HB.out)) hb);(try clear hb);(try clear hb2);(try clear hk);(try clear hi))))
      go_ret
      exact ⟨by first | rfl | (simp [*] <;> rfl),HB.out⟩
     subst c13
     replace H : ((q4_in.f (l0_2.length : Int) 1 6).bind fun t117 => (if t117 = true then ((q4_Height.f a0_3).bind fun t118 => (if t118 = true then ((q4_in.f a0_4 0 100).bind fun t119 => (some t119)) else (some false))) else (some false))) = some r := by rw [if_pos rfl] at H;exact H
     replace H := obm H
     obtain ⟨t117,A140,H⟩ := H
     replace H : (if t117 = true then ((q4_Height.f a0_3).bind fun t118 => (if t118 = true then ((q4_in.f a0_4 0 100).bind fun t119 => (some t119)) else (some false))) else (some false)) = some r := H
     have A14 := am A140
     clear A140
     by_cases c15 : t117 = true
     case neg =>
      replace c15 := Bool.eq_false_iff.mpr c15
      subst c15
      replace H : (some false) = some r := by rw [if_neg (show ¬ (false = true) by decide)] at H;exact H
      obtain rfl := Option.some.inj H
      obtain ⟨hcz25_0,hcz25_1,hcz25_2,hcz25_3,hcz25_4⟩ := cO5 BK111.out
      go_wp2_with (first | (go_at_call 55;(with_reducible refine (q3_Table.calls k1 _ _ l0_0 a0_1 true _ ?side1 ?side2 A12.out).mono ?_);(case side1 => exact kC HR0_0.out HB.out);(case side2 => exact HC0_0.out);rintro e w26 ⟨rfl,hb⟩;replace BK111 := (kmv hb BK111);replace HB := am (below_step (HB.out) hb);(try clear hb);(try clear hb2);(try clear hk);(try clear hi);obtain ⟨hcz27_0,hcz27_1,hcz27_2,hcz27_3,hcz27_4⟩ := cO5 BK111.out) | (go_at_call 54;(with_reducible refine (q4_in.calls (l0_2.length : Int) 1 6 false _ A14.out).mono ?_);rintro e w' ⟨rfl,⟨nd,rfl⟩⟩;(try first | exact ⟨rfl,_,World.drewN_drewN _ _ _⟩ | exact ⟨rfl,_,Eq.trans (World.drewN_drewN _ _ _) (congrArg (World.drewN _) (Nat.add_assoc _ _ _))⟩)))
      repeat (go_quiet (first | (go_at_call 55;(with_reducible refine (q3_Table.calls k1 _ _ l0_0 a0_1 true _ ?side1 ?side2 A12.out).mono ?_);(case side1 => repeat (first | exact (kC HR0_0.out HB.out) | (with_reducible refine Kd.C_alloc ?_ _) | (with_reducible refine Kd.C_drewN ?_ _) | (with_reducible refine Kd.C_drew ?_)));(case side2 => exact HC0_0.out);rintro e w26 ⟨rfl,hb⟩;replace BK111 := (kmv hb BK111);replace HB := am (below_step (by repeat (first | (with_reducible first | exact HB.out | refine below_set ?_ GE111.out | apply below_alloc | apply pw_below_drewN) | exact HB.out)) hb);(try clear hb);(try clear hb2);(try clear hk);(try clear hi);obtain ⟨hcz27_0,hcz27_1,hcz27_2,hcz27_3,hcz27_4⟩ := cO5 BK111.out) | (go_at_call 54;(with_reducible refine (q4_in.calls (l0_2.length : Int) 1 6 false _ A14.out).mono ?_);rintro e w' ⟨rfl,⟨nd,rfl⟩⟩;(try first | exact ⟨rfl,_,World.drewN_drewN _ _ _⟩ | exact ⟨rfl,_,Eq.trans (World.drewN_drewN _ _ _) (congrArg (World.drewN _) (Nat.add_assoc _ _ _))⟩)));try go_wp2_with (first | (go_at_call 55;(with_reducible refine (q3_Table.calls k1 _ _ l0_0 a0_1 true _ ?side1 ?side2 A12.out).mono ?_);(case side1 => repeat (first | exact (kC HR0_0.out HB.out) | (with_reducible refine Kd.C_alloc ?_ _) | (with_reducible refine Kd.C_drewN ?_ _) | (with_reducible refine Kd.C_drew ?_)));(case side2 => exact HC0_0.out);rintro e w26 ⟨rfl,hb⟩;replace BK111 := (kmv hb BK111);replace HB := am (below_step (by repeat (first | (with_reducible first | exact HB.out | refine below_set ?_ GE111.out | apply below_alloc | apply pw_below_drewN) | exact HB.out)) hb);(try clear hb);(try clear hb2);(try clear hk);(try clear hi);obtain ⟨hcz27_0,hcz27_1,hcz27_2,hcz27_3,hcz27_4⟩ := cO5 BK111.out) | (go_at_call 54;(with_reducible refine (q4_in.calls (l0_2.length : Int) 1 6 false _ A14.out).mono ?_);rintro e w' ⟨rfl,⟨nd,rfl⟩⟩;(try first | exact ⟨rfl,_,World.drewN_drewN _ _ _⟩ | exact ⟨rfl,_,Eq.trans (World.drewN_drewN _ _ _) (congrArg (World.drewN _) (Nat.add_assoc _ _ _))⟩))))
      go_ret
      exact ⟨by first | rfl | (simp [*] <;> rfl),pw_below_drewN HB.out _⟩
     subst c15
     replace H : ((q4_Height.f a0_3).bind fun t118 => (if t118 = true then ((q4_in.f a0_4 0 100).bind fun t119 => (some t119)) else (some false))) = some r := by rw [if_pos rfl] at H;exact H
     replace H := obm H
     obtain ⟨t118,A160,H⟩ := H
     replace H : (if t118 = true then ((q4_in.f a0_4 0 100).bind fun t119 => (some t119)) else (some false)) = some r := H
     have A16 := am A160
     clear A160
     by_cases c17 : t118 = true
     case neg =>
      replace c17 := Bool.eq_false_iff.mpr c17
      subst c17
      replace H : (some false) = some r := by rw [if_neg (show ¬ (false = true) by decide)] at H;exact H
      obtain rfl := Option.some.inj H
      obtain ⟨hcz22_0,hcz22_1,hcz22_2,hcz22_3,hcz22_4⟩ := cO5 BK111.out
      go_wp2_with (first | (go_at_call 55;(with_reducible refine (q3_Table.calls k1 _ _ l0_0 a0_1 true _ ?side1 ?side2 A12.out).mono ?_);(case side1 => exact kC HR0_0.out HB.out);(case side2 => exact HC0_0.out);rintro e w23 ⟨rfl,hb⟩;replace BK111 := (kmv hb BK111);replace HB := am (below_step (HB.out) hb);(try clear hb);(try clear hb2);(try clear hk);(try clear hi);obtain ⟨hcz24_0,hcz24_1,hcz24_2,hcz24_3,hcz24_4⟩ := cO5 BK111.out) | (go_at_call 54;(with_reducible refine (q4_in.calls (l0_2.length : Int) 1 6 true _ A14.out).mono ?_);rintro e w' ⟨rfl,⟨nd,rfl⟩⟩;(try first | exact ⟨rfl,_,World.drewN_drewN _ _ _⟩ | exact ⟨rfl,_,Eq.trans (World.drewN_drewN _ _ _) (congrArg (World.drewN _) (Nat.add_assoc _ _ _))⟩)) | (go_at_call 39;(with_reducible refine (q4_Height.calls a0_3 false _ A16.out).mono ?_);rintro e w' ⟨rfl,⟨nd,rfl⟩⟩;(try first | exact ⟨rfl,_,World.drewN_drewN _ _ _⟩ | exact ⟨rfl,_,Eq.trans (World.drewN_drewN _ _ _) (congrArg (World.drewN _) (Nat.add_assoc _ _ _))⟩)))
      repeat (go_quiet (first | (go_at_call 55;(with_reducible refine (q3_Table.calls k1 _ _ l0_0 a0_1 true _ ?side1 ?side2 A12.out).mono ?_);(case side1 => repeat (first | exact (kC HR0_0.out HB.out) | (with_reducible refine Kd.C_alloc ?_ _) | (with_reducible refine Kd.C_drewN ?_ _) | (with_reducible refine Kd.C_drew ?_)));(case side2 => exact HC0_0.out);rintro e w23 ⟨rfl,hb⟩;replace BK111 := (kmv hb BK111);replace HB := am (below_step (by repeat (first | (with_reducible first | exact HB.out | refine below_set ?_ GE111.out | apply below_alloc | apply pw_below_drewN) | exact HB.out)) hb);(try clear hb);(try clear hb2);(try clear hk);(try clear hi);obtain ⟨hcz24_0,hcz24_1,hcz24_2,hcz24_3,hcz24_4⟩ := cO5 BK111.out) | (go_at_call 54;(with_reducible refine (q4_in.calls (l0_2.length : Int) 1 6 true _ A14.out).mono ?_);rintro e w' ⟨rfl,⟨nd,rfl⟩⟩;(try first | exact ⟨rfl,_,World.drewN_drewN _ _ _⟩ | exact ⟨rfl,_,Eq.trans (World.drewN_drewN _ _ _) (congrArg (World.drewN _) (Nat.add_assoc _ _ _))⟩)) | (go_at_call 39;(with_reducible refine (q4_Height.calls a0_3 false _ A16.out).mono ?_);rintro e w' ⟨rfl,⟨nd,rfl⟩⟩;(try first | exact ⟨rfl,_,World.drewN_drewN _ _ _⟩ | exact ⟨rfl,_,Eq.trans (World.drewN_drewN _ _ _) (congrArg (World.drewN _) (Nat.add_assoc _ _ _))⟩)));try go_wp2_with (first | (go_at_call 55;(with_reducible refine (q3_Table.calls k1 _ _ l0_0 a0_1 true _ ?side1 ?side2 A12.out).mono ?_);(case side1 => repeat (first | exact (kC HR0_0.out HB.out) | (with_reducible refine Kd.C_alloc ?_ _) | (with_reducible refine Kd.C_drewN ?_ _) | (with_reducible refine Kd.C_drew ?_)));(case side2 => exact HC0_0.out);rintro e w23 ⟨rfl,hb⟩;replace BK111 := (kmv hb BK111);replace HB := am (below_step (by repeat (first | (with_reducible first | exact HB.out | refine below_set ?_ GE111.out | apply below_alloc | apply pw_below_drewN) | exact HB.out)) hb);(try clear hb);(try clear hb2);(try clear hk);(try clear hi);obtain ⟨hcz24_0,hcz24_1,hcz24_2,hcz24_3,hcz24_4⟩ := cO5 BK111.out) | (go_at_call 54;(with_reducible refine (q4_in.calls (l0_2.length : Int) 1 6 true _ A14.out).mono ?_);rintro e w' ⟨rfl,⟨nd,rfl⟩⟩;(try first | exact ⟨rfl,_,World.drewN_drewN _ _ _⟩ | exact ⟨rfl,_,Eq.trans (World.drewN_drewN _ _ _) (congrArg (World.drewN _) (Nat.add_assoc _ _ _))⟩)) | (go_at_call 39;(with_reducible refine (q4_Height.calls a0_3 false _ A16.out).mono ?_);rintro e w' ⟨rfl,⟨nd,rfl⟩⟩;(try first | exact ⟨rfl,_,World.drewN_drewN _ _ _⟩ | exact ⟨rfl,_,Eq.trans (World.drewN_drewN _ _ _) (congrArg (World.drewN _) (Nat.add_assoc _ _ _))⟩))))
      go_ret
      exact ⟨by first | rfl | (simp [*] <;> rfl),pw_below_drewN HB.out _⟩
     subst c17
     replace H : ((q4_in.f a0_4 0 100).bind fun t119 => (some t119)) = some r := by rw [if_pos rfl] at H;exact H
     replace H := obm H
     obtain ⟨t119,A180,H⟩ := H
     replace H : (some t119) = some r := H
     have A18 := am A180
     clear A180
     obtain rfl := Option.some.inj H
     obtain ⟨hcz19_0,hcz19_1,hcz19_2,hcz19_3,hcz19_4⟩ := cO5 BK111.out
     go_wp2_with (first | (go_at_call 55;(with_reducible refine (q3_Table.calls k1 _ _ l0_0 a0_1 true _ ?side1 ?side2 A12.out).mono ?_);(case side1 => exact kC HR0_0.out HB.out);(case side2 => exact HC0_0.out);rintro e w20 ⟨rfl,hb⟩;replace BK111 := (kmv hb BK111);replace HB := am (below_step (HB.out) hb);(try clear hb);(try clear hb2);(try clear hk);(try clear hi);obtain ⟨hcz21_0,hcz21_1,hcz21_2,hcz21_3,hcz21_4⟩ := cO5 BK111.out) | (go_at_call 54;(with_reducible refine (q4_in.calls (l0_2.length : Int) 1 6 true _ A14.out).mono ?_);rintro e w' ⟨rfl,⟨nd,rfl⟩⟩;(try first | exact ⟨rfl,_,World.drewN_drewN _ _ _⟩ | exact ⟨rfl,_,Eq.trans (World.drewN_drewN _ _ _) (congrArg (World.drewN _) (Nat.add_assoc _ _ _))⟩)) | (go_at_call 39;(with_reducible refine (q4_Height.calls a0_3 true _ A16.out).mono ?_);rintro e w' ⟨rfl,⟨nd,rfl⟩⟩;(try first | exact ⟨rfl,_,World.drewN_drewN _ _ _⟩ | exact ⟨rfl,_,Eq.trans (World.drewN_drewN _ _ _) (congrArg (World.drewN _) (Nat.add_assoc _ _ _))⟩)) | (go_at_call 54;(with_reducible refine (q4_in.calls a0_4 0 100 t119 _ A18.out).mono ?_);rintro e w' ⟨rfl,⟨nd,rfl⟩⟩;(try first | exact ⟨rfl,_,World.drewN_drewN _ _ _⟩ | exact ⟨rfl,_,Eq.trans (World.drewN_drewN _ _ _) (congrArg (World.drewN _) (Nat.add_assoc _ _ _))⟩)))
     repeat (go_quiet (first | (go_at_call 55;(with_reducible refine (q3_Table.calls k1 _ _ l0_0 a0_1 true _ ?side1 ?side2 A12.out).mono ?_);(case side1 => repeat (first | exact (kC HR0_0.out HB.out) | (with_reducible refine Kd.C_alloc ?_ _) | (with_reducible refine Kd.C_drewN ?_ _) | (with_reducible refine Kd.C_drew ?_)));(case side2 => exact HC0_0.out);rintro e w20 ⟨rfl,hb⟩;replace BK111 := (kmv hb BK111);replace HB := am (below_step (by repeat (first | (with_reducible first | exact HB.out | refine below_set ?_ GE111.out | apply below_alloc | apply pw_below_drewN) | exact HB.out)) hb);(try clear hb);(try clear hb2);(try clear hk);(try clear hi);obtain ⟨hcz21_0,hcz21_1,hcz21_2,hcz21_3,hcz21_4⟩ := cO5 BK111.out) | (go_at_call 54;(with_reducible refine (q4_in.calls (l0_2.length : Int) 1 6 true _ A14.out).mono ?_);rintro e w' ⟨rfl,⟨nd,rfl⟩⟩;(try first | exact ⟨rfl,_,World.drewN_drewN _ _ _⟩ | exact ⟨rfl,_,Eq.trans (World.drewN_drewN _ _ _) (congrArg (World.drewN _) (Nat.add_assoc _ _ _))⟩)) | (go_at_call 39;(with_reducible refine (q4_Height.calls a0_3 true _ A16.out).mono ?_);rintro e w' ⟨rfl,⟨nd,rfl⟩⟩;(try first | exact ⟨rfl,_,World.drewN_drewN _ _ _⟩ | exact ⟨rfl,_,Eq.trans (World.drewN_drewN _ _ _) (congrArg (World.drewN _) (Nat.add_assoc _ _ _))⟩)) | (go_at_call 54;(with_reducible refine (q4_in.calls a0_4 0 100 t119 _ A18.out).mono ?_);rintro e w' ⟨rfl,⟨nd,rfl⟩⟩;(try first | exact ⟨rfl,_,World.drewN_drewN _ _ _⟩ | exact ⟨rfl,_,Eq.trans (World.drewN_drewN _ _ _) (congrArg (World.drewN _) (Nat.add_assoc _ _ _))⟩)));try go_wp2_with (first | (go_at_call 55;(with_reducible refine (q3_Table.calls k1 _ _ l0_0 a0_1 true _ ?side1 ?side2 A12.out).mono ?_);(case side1 => repeat (first | exact (kC HR0_0.out HB.out) | (with_reducible refine Kd.C_alloc ?_ _) | (with_reducible refine Kd.C_drewN ?_ _) | (with_reducible refine Kd.C_drew ?_)));(case side2 => exact HC0_0.out);rintro e w20 ⟨rfl,hb⟩;replace BK111 := (kmv hb BK111);replace HB := am (below_step (by repeat (first | (with_reducible first | exact HB.out | refine below_set ?_ GE111.out | apply below_alloc | apply pw_below_drewN) | exact HB.out)) hb);(try clear hb);(try clear hb2);(try clear hk);(try clear hi);obtain ⟨hcz21_0,hcz21_1,hcz21_2,hcz21_3,hcz21_4⟩ := cO5 BK111.out) | (go_at_call 54;(with_reducible refine (q4_in.calls (l0_2.length : Int) 1 6 true _ A14.out).mono ?_);rintro e w' ⟨rfl,⟨nd,rfl⟩⟩;(try first | exact ⟨rfl,_,World.drewN_drewN _ _ _⟩ | exact ⟨rfl,_,Eq.trans (World.drewN_drewN _ _ _) (congrArg (World.drewN _) (Nat.add_assoc _ _ _))⟩)) | (go_at_call 39;(with_reducible refine (q4_Height.calls a0_3 true _ A16.out).mono ?_);rintro e w' ⟨rfl,⟨nd,rfl⟩⟩;(try first | exact ⟨rfl,_,World.drewN_drewN _ _ _⟩ | exact ⟨rfl,_,Eq.trans (World.drewN_drewN _ _ _) (congrArg (World.drewN _) (Nat.add_assoc _ _ _))⟩)) | (go_at_call 54;(with_reducible refine (q4_in.calls a0_4 0 100 t119 _ A18.out).mono ?_);rintro e w' ⟨rfl,⟨nd,rfl⟩⟩;(try first | exact ⟨rfl,_,World.drewN_drewN _ _ _⟩ | exact ⟨rfl,_,Eq.trans (World.drewN_drewN _ _ _) (congrArg (World.drewN _) (Nat.add_assoc _ _ _))⟩))))
     go_ret
     exact ⟨by first | rfl | (simp [*] <;> rfl),pw_below_drewN HB.out _⟩
def q4_Cups.f (a0 : Int) : Option (Bool) := (q4_in.f a0 0 10000).bind fun t120 => (some t120)
theorem q4_Cups.calls (a0 : Int) (r : Bool) (w : World) (h : q4_Cups.f a0 = some r) :
 Calls Tryz.prog 17 #[.int .i64 a0] w fun e w' => e = .returned (.bool r) ∧ Drawn0 w w' := by
 have H : ((q4_in.f a0 0 10000).bind fun t120 => (some t120)) = some r := h
 clear h
 replace H := obm H
 obtain ⟨t120,A20,H⟩ := H
 replace H : (some t120) = some r := H
 have A2 := am A20
 clear A20
 obtain rfl := Option.some.inj H
 go_enter Tryz.func17,Tryz.ntmps17
 go_wp2_with (first | ((with_reducible refine gate_callee (f := 54) rfl ?_);refine goesL_ (some 4) rfl rfl Tryz.func54 (by kernel_rfl) rfl #[.int .i64 a0,.int .i64 0,.int .i64 10000] rfl (by (try simp only [List.map_toArray,List.map_cons,List.map_nil]);first | done | rfl | (simp only [List.length_drop,List.length_take];rfl)) ?_;(with_reducible refine (q4_in.calls a0 0 10000 t120 _ A2.out).mono ?_);rintro e w' ⟨rfl,⟨nd,rfl⟩⟩;refine ⟨_,rfl,?_⟩))
 go_ret
 exact ⟨by first | rfl | (simp;done) | (simp [*];done),by repeat (first | exact Drawn0.refl _ | apply Drawn0.step)⟩
def nz_in.f (a0 : Int) (a1 : Int) (a2 : Int) : Option (Bool) := if a0 ≥ a1 then (some (decide (a0 ≤ a2))) else (some false)
theorem nz_in.calls (a0 : Int) (a1 : Int) (a2 : Int) (r : Bool) (w : World) (h : nz_in.f a0 a1 a2 = some r) :
 Calls Tryz.prog 135 #[.int .i64 a0,.int .i64 a1,.int .i64 a2] w fun e w' => e = .returned (.bool r) ∧ Drawn0 w w' := by
 have H : (if a0 ≥ a1 then (some (decide (a0 ≤ a2))) else (some false)) = some r := h
 clear h
 by_cases c4 : a0 ≥ a1
 · rw [if_pos c4] at H
   have c4b0 : decide (a1 ≤ a0) = true := decide_eq_true c4
   clear c4
   obtain rfl := Option.some.inj H
   go_enter Tryz.func135,Tryz.ntmps135
   go_wp2
   go_ret
   exact ⟨by first | rfl | (simp;done) | (simp [*];done),by repeat (first | exact Drawn0.refl _ | apply Drawn0.step)⟩
 · rw [if_neg c4] at H
   have c4b0 : decide (a1 ≤ a0) = false := decide_eq_false c4
   clear c4
   obtain rfl := Option.some.inj H
   go_enter Tryz.func135,Tryz.ntmps135
   go_wp2
   go_ret
   exact ⟨by first | rfl | (simp;done) | (simp [*];done),by repeat (first | exact Drawn0.refl _ | apply Drawn0.step)⟩
def nz_isTable_1.f (a0_0 : Int) (a0_1 : Int) (a0_2 : Int) : Option (Bool) := (nz_in.f a0_0 1 60).bind fun t1054 => (if t1054 = true then ((nz_in.f a0_1 1 60).bind fun t1055 => (if t1055 = true then ((nz_in.f a0_2 1 1000).bind fun t1056 => (some (!t1056))) else (some true))) else (some true))
theorem nz_isTable_1.calls (a0_0 : Int) (a0_1 : Int) (a0_2 : Int) (r : Bool) (w : World) (h : nz_isTable_1.f a0_0 a0_1 a0_2 = some r) :
 Calls Tryz.prog 137 #[.agg #[.int .i64 a0_0,.int .i64 a0_1,.int .i64 a0_2]] w fun e w' => e = .returned (.bool r) ∧ Below w.heap.size w w' := by
 have hu126 := Tryz.underlying126
 have HB := am (Below.refl w.heap.size w)
 have H : ((nz_in.f a0_0 1 60).bind fun t1054 => (if t1054 = true then ((nz_in.f a0_1 1 60).bind fun t1055 => (if t1055 = true then ((nz_in.f a0_2 1 1000).bind fun t1056 => (some (!t1056))) else (some true))) else (some true))) = some r := h
 clear h
 replace H := obm H
 obtain ⟨t1054,A20,H⟩ := H
 replace H : (if t1054 = true then ((nz_in.f a0_1 1 60).bind fun t1055 => (if t1055 = true then ((nz_in.f a0_2 1 1000).bind fun t1056 => (some (!t1056))) else (some true))) else (some true)) = some r := H
 have A2 := am A20
 clear A20
 by_cases c3 : t1054 = true
 case neg =>
  replace c3 := Bool.eq_false_iff.mpr c3
  subst c3
  replace H : (some true) = some r := by rw [if_neg (show ¬ (false = true) by decide)] at H;exact H
  obtain rfl := Option.some.inj H
  go_enter Tryz.func137,Tryz.ntmps137
  go_wp2_with (first | ((refine gate_dst (N := 1) rfl ?_);refine box_event rfl (N := 1) rfl (cs := #[.int .i64 a0_0,.int .i64 a0_1,.int .i64 a0_2]) (t := 126) ?hr ?_;(case hr => go_simp;try rfl);intro gb1053 hg w11 hbox hb;have BK1053 := am (hbox);have GW1053 := am (ge_new (HB.out) hg);have GE1053 := am (ge_new (HB.out) hg);replace HB := am (below_step (HB.out) hb);clear hb hbox hg;obtain ⟨hcz12_0,hcz12_1,hcz12_2⟩ := cO3 BK1053.out) | ((with_reducible refine gate_callee (f := 135) rfl ?_);refine goesL_ (some 5) rfl rfl Tryz.func135 (by kernel_rfl) rfl #[.int .i64 a0_0,.int .i64 1,.int .i64 60] rfl (by (try simp only [List.map_toArray,List.map_cons,List.map_nil]);first | done | rfl | (simp only [List.length_drop,List.length_take];rfl)) ?_;(with_reducible refine (nz_in.calls a0_0 1 60 false _ A2.out).mono ?_);rintro e w' ⟨rfl,⟨nd,rfl⟩⟩;refine ⟨_,rfl,?_⟩))
  go_ret
  exact ⟨by first | rfl | (simp [*] <;> rfl),pw_below_drewN HB.out _⟩
 subst c3
 replace H : ((nz_in.f a0_1 1 60).bind fun t1055 => (if t1055 = true then ((nz_in.f a0_2 1 1000).bind fun t1056 => (some (!t1056))) else (some true))) = some r := by rw [if_pos rfl] at H;exact H
 replace H := obm H
 obtain ⟨t1055,A40,H⟩ := H
 replace H : (if t1055 = true then ((nz_in.f a0_2 1 1000).bind fun t1056 => (some (!t1056))) else (some true)) = some r := H
 have A4 := am A40
 clear A40
 by_cases c5 : t1055 = true
 case neg =>
  replace c5 := Bool.eq_false_iff.mpr c5
  subst c5
  replace H : (some true) = some r := by rw [if_neg (show ¬ (false = true) by decide)] at H;exact H
  obtain rfl := Option.some.inj H
  go_enter Tryz.func137,Tryz.ntmps137
  go_wp2_with (first | ((refine gate_dst (N := 1) rfl ?_);refine box_event rfl (N := 1) rfl (cs := #[.int .i64 a0_0,.int .i64 a0_1,.int .i64 a0_2]) (t := 126) ?hr ?_;(case hr => go_simp;try rfl);intro gb1053 hg w9 hbox hb;have BK1053 := am (hbox);have GW1053 := am (ge_new (HB.out) hg);have GE1053 := am (ge_new (HB.out) hg);replace HB := am (below_step (HB.out) hb);clear hb hbox hg;obtain ⟨hcz10_0,hcz10_1,hcz10_2⟩ := cO3 BK1053.out) | ((with_reducible refine gate_callee (f := 135) rfl ?_);refine goesL_ (some 5) rfl rfl Tryz.func135 (by kernel_rfl) rfl #[.int .i64 a0_0,.int .i64 1,.int .i64 60] rfl (by (try simp only [List.map_toArray,List.map_cons,List.map_nil]);first | done | rfl | (simp only [List.length_drop,List.length_take];rfl)) ?_;(with_reducible refine (nz_in.calls a0_0 1 60 true _ A2.out).mono ?_);rintro e w' ⟨rfl,⟨nd,rfl⟩⟩;refine ⟨_,rfl,?_⟩) | (go_at_call 135;(with_reducible refine (nz_in.calls a0_1 1 60 false _ A4.out).mono ?_);rintro e w' ⟨rfl,⟨nd,rfl⟩⟩))
  go_ret
  exact ⟨by first | rfl | (simp [*] <;> rfl),pw_below_drewN HB.out _⟩
 subst c5
 replace H : ((nz_in.f a0_2 1 1000).bind fun t1056 => (some (!t1056))) = some r := by rw [if_pos rfl] at H;exact H
 replace H := obm H
 obtain ⟨t1056,A60,H⟩ := H
 replace H : (some (!t1056)) = some r := H
 have A6 := am A60
 clear A60
 obtain rfl := Option.some.inj H
 go_enter Tryz.func137,Tryz.ntmps137
 go_wp2_with (first | ((refine gate_dst (N := 1) rfl ?_);refine box_event rfl (N := 1) rfl (cs := #[.int .i64 a0_0,.int .i64 a0_1,.int .i64 a0_2]) (t := 126) ?hr ?_;(case hr => go_simp;try rfl);intro gb1053 hg w7 hbox hb;have BK1053 := am (hbox);have GW1053 := am (ge_new (HB.out) hg);have GE1053 := am (ge_new (HB.out) hg);replace HB := am (below_step (HB.out) hb);clear hb hbox hg;obtain ⟨hcz8_0,hcz8_1,hcz8_2⟩ := cO3 BK1053.out) | ((with_reducible refine gate_callee (f := 135) rfl ?_);refine goesL_ (some 5) rfl rfl Tryz.func135 (by kernel_rfl) rfl #[.int .i64 a0_0,.int .i64 1,.int .i64 60] rfl (by (try simp only [List.map_toArray,List.map_cons,List.map_nil]);first | done | rfl | (simp only [List.length_drop,List.length_take];rfl)) ?_;(with_reducible refine (nz_in.calls a0_0 1 60 true _ A2.out).mono ?_);rintro e w' ⟨rfl,⟨nd,rfl⟩⟩;refine ⟨_,rfl,?_⟩) | (go_at_call 135;(with_reducible refine (nz_in.calls a0_1 1 60 true _ A4.out).mono ?_);rintro e w' ⟨rfl,⟨nd,rfl⟩⟩) | (go_at_call 135;(with_reducible refine (nz_in.calls a0_2 1 1000 t1056 _ A6.out).mono ?_);rintro e w' ⟨rfl,⟨nd,rfl⟩⟩))
 go_ret
 exact ⟨by first | rfl | (simp [*] <;> rfl),pw_below_drewN HB.out _⟩
end
def Pred_isTable (q : S126 → Option Bool) (w : World) (xs : List S126) : Prop := ∀ (x : S126) (b : Bool) (W : World) , x ∈ xs → q x = some b → Below w.heap.size w W → 
 Calls Tryz.prog 137 #[.agg #[.int .i64 x.f0,.int .i64 x.f1,.int .i64 x.f2]] W fun e W' => e = .returned (.bool b) ∧ Below W.heap.size W W'
theorem idx_isTable (q : S126 → Option Bool) (A : Option Addr) (c : Nat) (xs : List S126) (r : Int) (w : World) (hr : Kd.C k126 w A xs.length xs) (hp : Pred_isTable q w xs) (h : idxM q xs 0 = some r) :
 Calls Tryz.prog 146 #[.slice A xs.length c,.func (.func 137) #[] #[]] w fun e w' => e = .returned (.int .i64 r) ∧ Below w.heap.size w w' := by
 have huE := Tryz.underlying126
 have HR := am hr
 have HP := am hp
 have HQ := am (show idxM q (xs.drop (0 : Int).toNat) 0 = some r from h)
 have hm : xs.length ≤ 9223372036854775807 := Kd.C_max hr
 clear hr hp h
 go_enter Tryz.func146,Tryz.ntmps146
 go_wp2
 go_loopw [5,8] (fun v5 v8 w' => ∃ i : Int,0 ≤ i ∧ i ≤ xs.length ∧ v8 = .int .i64 i ∧ Aside0 (idxM q (xs.drop i.toNat) i = some r) ∧ Aside0 (Below w.heap.size w w')) (fun _ v8 _ => xs.length - (intOf v8).toNat)
 case atStart => exact ⟨0,by omega,by omega,rfl,HQ,⟨Below.refl _ _⟩⟩
 case round =>
  clear HQ
  obtain ⟨i,p1,hi,rfl,HQ,HB⟩ := hrel
  by_cases hlt : i < (xs.length : Int)
  case neg =>
   go_wp2
   go_ret
   exact ⟨ret_int_eq (idxM_end (by omega) HQ.out),HB.out⟩
  obtain ⟨ad,e1,hx0,hx1,hx2⟩ := at_T126 HR.out i p1 hlt
  cases e1
  replace hx0 := (HB.out.cell (wbl hx0)).trans hx0
  replace hx1 := (HB.out.cell (wbl hx1)).trans hx1
  replace hx2 := (HB.out.cell (wbl hx2)).trans hx2
  rcases idxM_step z126 p1 hlt HQ.out with ⟨hq,he⟩ | ⟨hq,hn⟩
  · have H1 := am hq
    have X1 := am (getD_mem z126 p1 hlt)
    have H2 := am he
    clear hq he
    go_wp2_with (go_at_call 137;refine (HP.out (xs.getD i.toNat z126) _ _ X1.out H1.out HB.out).mono ?_;rintro e W' ⟨rfl,hb⟩)
    go_ret
    exact ⟨ret_int_eq H2.out,below_then HB.out HB.out.size hb⟩
  · have H1 := am hq
    have X1 := am (getD_mem z126 p1 hlt)
    have H2 := am hn
    clear hq hn
    go_wp2_with (go_at_call 137;refine (HP.out (xs.getD i.toNat z126) _ _ X1.out H1.out HB.out).mono ?_;rintro e W' ⟨rfl,hb⟩)
    go_roundw
    case rel => exact ⟨i + 1,by omega,by omega,by go_num,H2,⟨below_then HB.out HB.out.size hb⟩⟩
    case measure => simp [intOf];omega
theorem any_isTable (q : S126 → Option Bool) (A : Option Addr) (c : Nat) (xs : List S126) (r : Bool) (w : World) (hr : Kd.C k126 w A xs.length xs) (hp : Pred_isTable q w xs) (h : anyM q xs = some r) :
 Calls Tryz.prog 136 #[.slice A xs.length c,.func (.func 137) #[] #[]] w fun e w' => e = .returned (.bool r) ∧ Below w.heap.size w w' := by
 obtain ⟨j,hj,hd⟩ := idxM_of_anyM q xs 0 r (by omega) h
 have H1 := am hj
 have H2 := am hd
 have HR := am hr
 have HP := am hp
 clear hr hp h hj hd
 go_enter Tryz.func136,Tryz.ntmps136
 go_wp2_with (go_at_call 146;refine (idx_isTable q _ _ xs j _ HR.out HP.out H1.out).mono ?_;rintro e W' ⟨rfl,hb⟩)
 go_ret
 exact ⟨ret_bool_eq H2.out,hb⟩
def cf_isTable.f (l0 : List S126) : Option Bool := anyM (fun x => nz_isTable_1.f x.f0 x.f1 x.f2) l0
theorem cf_isTable.calls (A0 : Option Addr) (c0 : Nat) (l0 : List S126) (r : Bool) (w : World) (hr0 : Kd.C k126 w A0 l0.length l0) (hc0 : l0.length ≤ c0) (h : cf_isTable.f l0 = some r) :
 Calls Tryz.prog 136 #[.slice A0 l0.length c0,.func (.func 137) #[] #[]] w fun e w' => e = .returned (.bool r) ∧ Below w.heap.size w w' :=
 any_isTable (fun x => nz_isTable_1.f x.f0 x.f1 x.f2) A0 c0 l0 r w hr0 (fun x b W hx hq hb => (nz_isTable_1.calls _ _ _ b W hq).mono fun e W' ⟨he,hd⟩ => ⟨he,hd⟩) h
section
attribute [local go_sem] max2_int min2_int max_two min_two
def nz_isTable.f (l0_0 : List (S126)) (a0_1 : Int) : Option (Bool) := (nz_in.f (l0_0.length : Int) 1 12).bind fun t132 => (if t132 = true then ((nz_in.f a0_1 0 100).bind fun t133 => (if t133 = true then ((cf_isTable.f l0_0).bind fun t134 => (some (!t134))) else (some false))) else (some false))
theorem nz_isTable.calls (A0_0 : Option Addr) (c0_0 : Nat) (l0_0 : List (S126)) (a0_1 : Int) (r : Bool) (w : World) (hr0_0 : Kd.C k126 w A0_0 l0_0.length l0_0) (hc0_0 : l0_0.length ≤ c0_0) (h : nz_isTable.f l0_0 a0_1 = some r) :
 Calls Tryz.prog 127 #[.agg #[.slice A0_0 l0_0.length c0_0,.int .i64 a0_1]] w fun e w' => e = .returned (.bool r) ∧ Below w.heap.size w w' := by
 have hu24 := Tryz.underlying24
 have HR0_0 := am hr0_0
 have HC0_0 := am hc0_0
 clear hr0_0 hc0_0
 have HB := am (Below.refl w.heap.size w)
 have H : ((nz_in.f (l0_0.length : Int) 1 12).bind fun t132 => (if t132 = true then ((nz_in.f a0_1 0 100).bind fun t133 => (if t133 = true then ((cf_isTable.f l0_0).bind fun t134 => (some (!t134))) else (some false))) else (some false))) = some r := h
 clear h
 replace H := obm H
 obtain ⟨t132,A20,H⟩ := H
 replace H : (if t132 = true then ((nz_in.f a0_1 0 100).bind fun t133 => (if t133 = true then ((cf_isTable.f l0_0).bind fun t134 => (some (!t134))) else (some false))) else (some false)) = some r := H
 have A2 := am A20
 clear A20
 by_cases c3 : t132 = true
 case neg =>
  replace c3 := Bool.eq_false_iff.mpr c3
  subst c3
  replace H : (some false) = some r := by rw [if_neg (show ¬ (false = true) by decide)] at H;exact H
  obtain rfl := Option.some.inj H
  go_enter Tryz.func127,Tryz.ntmps127
  go_wp2_with (first | ((refine gate_dst (N := 1) rfl ?_);refine box_event rfl (N := 1) rfl (cs := #[.slice A0_0 l0_0.length c0_0,.int .i64 a0_1]) (t := 24) ?hr ?_;(case hr => go_simp;try rfl);intro gb131 hg w12 hbox hb;have BK131 := am (hbox);have GW131 := am (ge_new (HB.out) hg);have GE131 := am (ge_new (HB.out) hg);replace HB := am (below_step (HB.out) hb);clear hb hbox hg;obtain ⟨hcz13_0,hcz13_1⟩ := cO2 BK131.out) | ((with_reducible refine gate_callee (f := 135) rfl ?_);refine goesL_ (some 6) rfl rfl Tryz.func135 (by kernel_rfl) rfl #[.int .i64 (l0_0.length : Int),.int .i64 1,.int .i64 12] rfl (by (try simp only [List.map_toArray,List.map_cons,List.map_nil]);first | done | rfl | (simp only [List.length_drop,List.length_take];rfl)) ?_;(refine (nz_in.calls (l0_0.length : Int) 1 12 false _ A2.out).mono ?_);rintro e w' ⟨rfl,⟨nd,rfl⟩⟩;refine ⟨_,rfl,?_⟩))
  go_ret
  exact ⟨by first | rfl | (simp [*] <;> rfl),pw_below_drewN HB.out _⟩
 subst c3
 replace H : ((nz_in.f a0_1 0 100).bind fun t133 => (if t133 = true then ((cf_isTable.f l0_0).bind fun t134 => (some (!t134))) else (some false))) = some r := by rw [if_pos rfl] at H;exact H
 replace H := obm H
 obtain ⟨t133,A40,H⟩ := H
 replace H : (if t133 = true then ((cf_isTable.f l0_0).bind fun t134 => (some (!t134))) else (some false)) = some r := H
 have A4 := am A40
 clear A40
 by_cases c5 : t133 = true
 case neg =>
  replace c5 := Bool.eq_false_iff.mpr c5
  subst c5
  replace H : (some false) = some r := by rw [if_neg (show ¬ (false = true) by decide)] at H;exact H
  obtain rfl := Option.some.inj H
  go_enter Tryz.func127,Tryz.ntmps127
  go_wp2_with (first | ((refine gate_dst (N := 1) rfl ?_);refine box_event rfl (N := 1) rfl (cs := #[.slice A0_0 l0_0.length c0_0,.int .i64 a0_1]) (t := 24) ?hr ?_;(case hr => go_simp;try rfl);intro gb131 hg w10 hbox hb;have BK131 := am (hbox);have GW131 := am (ge_new (HB.out) hg);have GE131 := am (ge_new (HB.out) hg);replace HB := am (below_step (HB.out) hb);clear hb hbox hg;obtain ⟨hcz11_0,hcz11_1⟩ := cO2 BK131.out) | ((with_reducible refine gate_callee (f := 135) rfl ?_);refine goesL_ (some 6) rfl rfl Tryz.func135 (by kernel_rfl) rfl #[.int .i64 (l0_0.length : Int),.int .i64 1,.int .i64 12] rfl (by (try simp only [List.map_toArray,List.map_cons,List.map_nil]);first | done | rfl | (simp only [List.length_drop,List.length_take];rfl)) ?_;(refine (nz_in.calls (l0_0.length : Int) 1 12 true _ A2.out).mono ?_);rintro e w' ⟨rfl,⟨nd,rfl⟩⟩;refine ⟨_,rfl,?_⟩) | (go_at_call 135;(refine (nz_in.calls a0_1 0 100 false _ A4.out).mono ?_);rintro e w' ⟨rfl,⟨nd,rfl⟩⟩))
  go_ret
  exact ⟨by first | rfl | (simp [*] <;> rfl),pw_below_drewN HB.out _⟩
 subst c5
 replace H : ((cf_isTable.f l0_0).bind fun t134 => (some (!t134))) = some r := by rw [if_pos rfl] at H;exact H
 replace H := obm H
 obtain ⟨t134,A60,H⟩ := H
 replace H : (some (!t134)) = some r := H
 have A6 := am A60
 clear A60
 obtain rfl := Option.some.inj H
 go_enter Tryz.func127,Tryz.ntmps127
 go_wp2_with (first | ((refine gate_dst (N := 1) rfl ?_);refine box_event rfl (N := 1) rfl (cs := #[.slice A0_0 l0_0.length c0_0,.int .i64 a0_1]) (t := 24) ?hr ?_;(case hr => go_simp;try rfl);intro gb131 hg w7 hbox hb;have BK131 := am (hbox);have GW131 := am (ge_new (HB.out) hg);have GE131 := am (ge_new (HB.out) hg);replace HB := am (below_step (HB.out) hb);clear hb hbox hg;obtain ⟨hcz8_0,hcz8_1⟩ := cO2 BK131.out) | ((with_reducible refine gate_callee (f := 135) rfl ?_);refine goesL_ (some 6) rfl rfl Tryz.func135 (by kernel_rfl) rfl #[.int .i64 (l0_0.length : Int),.int .i64 1,.int .i64 12] rfl (by (try simp only [List.map_toArray,List.map_cons,List.map_nil]);first | done | rfl | (simp only [List.length_drop,List.length_take];rfl)) ?_;(refine (nz_in.calls (l0_0.length : Int) 1 12 true _ A2.out).mono ?_);rintro e w' ⟨rfl,⟨nd,rfl⟩⟩;refine ⟨_,rfl,?_⟩) | (go_at_call 135;(refine (nz_in.calls a0_1 0 100 true _ A4.out).mono ?_);rintro e w' ⟨rfl,⟨nd,rfl⟩⟩) | (go_at_call 136;(refine (cf_isTable.calls _ _ l0_0  t134 _ ?side1 ?side2 A6.out).mono ?_);(case side1 => repeat (first | exact (kC HR0_0.out (pw_below_drewN HB.out _)) | (with_reducible refine Kd.C_alloc ?_ _) | (with_reducible refine Kd.C_drewN ?_ _) | (with_reducible refine Kd.C_drew ?_)));(case side2 => exact HC0_0.out);rintro e w9 ⟨rfl,hb⟩;replace BK131 := (kmv hb BK131);replace HB := am (below_step (pw_below_drewN HB.out _) hb);(try clear hb);(try clear hb2);(try clear hk);(try clear hi)))
 go_ret
 exact ⟨by first | rfl | (simp [*] <;> rfl),HB.out⟩
def nz_sum.l0 : Nat → Int → List Int → Int → Int → Option (Int)
 | 0,_,_,_,_ => none
 | k + 1,x3,x6,x7,x8 => if x8 < x7 then (if 0 ≤ x8 then (if x8 < (x6.length : Int) then (nz_sum.l0 k (wrap64 (x3 + (rd x6 x8))) x6 x7 (wrap64 (x8 + 1))) else (none)) else (none)) else (some x3)
def nz_sum.f (k : Nat) (l0 : List Int) : Option (Int) := nz_sum.l0 k 0 l0 (l0.length : Int) 0
theorem nz_sum.calls (k : Nat) (A0 : Option Addr) (c0 : Nat) (l0 : List Int) (r : Int) (w : World) (hr0 : Kd.C (Kd.int .i64) w A0 l0.length l0) (hc0 : l0.length ≤ c0) (h : nz_sum.f k l0 = some r) :
 Calls Tryz.prog 141 #[.slice A0 l0.length c0] w fun e w' => e = .returned (.int .i64 r) ∧ Drawn0 w w' := by
 have HR0 := am hr0
 have HC0 := am hc0
 clear hr0 hc0
 have H : (nz_sum.l0 k 0 l0 (l0.length : Int) 0) = some r := h
 clear h
 replace H' := am H
 go_enter Tryz.func141,Tryz.ntmps141
 go_wp2
 go_loopg [3,8] k (fun kq v3 v8 w' => ∃ (x3_1 : Int) (x8_1 : Int),v3 = .int .i64 x3_1 ∧ v8 = .int .i64 x8_1 ∧ Aside0 (nz_sum.l0 kq x3_1 l0 (l0.length : Int) x8_1 = some r) ∧ Aside0 (kq ≤ k) ∧ Drawn0 w w')
 case atStart => exact ⟨(0),(0),(by first | rfl | (simp;done) | (simp [*];done)),(by first | rfl | (simp;done) | (simp [*];done)),H',⟨Nat.le_refl _⟩,by repeat (first | exact Drawn0.refl _ | apply Drawn0.step)⟩
 case round =>
  clear H'
  obtain ⟨x3_1,x8_1,rfl,rfl,HA,HK1,⟨m1,rfl⟩⟩ := hrel
  cases gk with
  | zero => exact absurd HA.out (by simp [nz_sum.l0])
  | succ k1 =>
   have H := HA.out
   clear HA
   simp only [nz_sum.l0] at H
   by_cases c2 : x8_1 < (l0.length : Int)
   case neg =>
    rw [if_neg c2] at H
    have c2b0 : decide (x8_1 < (l0.length : Int)) = false := decide_eq_false c2
    clear c2
    obtain rfl := Option.some.inj H
    go_wp2
    go_ret
    exact ⟨by first | rfl | (simp;done) | (simp [*];done),by repeat (first | exact Drawn0.refl _ | apply Drawn0.step)⟩
   rw [if_pos c2] at H
   have c2b0 : decide (x8_1 < (l0.length : Int)) = true := decide_eq_true c2
   clear c2
   by_cases c3 : 0 ≤ x8_1
   case neg =>
    rw [if_neg c3] at H
    exact absurd H (by simp)
   rw [if_pos c3] at H
   have c3b0 : decide (0 ≤ x8_1) = true := decide_eq_true c3
   clear c3
   by_cases c4 : x8_1 < (l0.length : Int)
   case neg =>
    rw [if_neg c4] at H
    exact absurd H (by simp)
   rw [if_pos c4] at H
   have c4b0 : decide (x8_1 < (l0.length : Int)) = true := decide_eq_true c4
   clear c4
   replace H' := am H
   have p143 : 0 ≤ (x8_1 : Int) := of_decide_eq_true (by assumption)
   have q143 : x8_1 < (l0.length : Int) := of_decide_eq_true (by assumption)
   obtain ⟨ad143,e143,hx143_0⟩ := Kd.at_int HR0.out x8_1 p143 q143
   cases e143
   replace p143 := eq_true p143
   replace q143 := eq_true q143
   go_wp2
   go_roundg k1
   case measure => have := HK1.out;omega
   case rel => exact ⟨(wrap64 (x3_1 + (rd l0 x8_1))),(wrap64 (x8_1 + 1)),(by first | rfl | (simp;done) | (simp [*];done)),(by first | rfl | (simp;done) | (simp [*];done)),H',⟨by have := HK1.out;omega⟩,by repeat (first | exact Drawn0.refl _ | apply Drawn0.step)⟩
def nz_gives.l0 : Nat → List Int → List Int → Int → Int → List (S126) → Int → Option (Int)
 | 0,_,_,_,_,_,_ => none
 | k + 1,x5,x8,x9,x10,x145000,x145001 => if x10 < x9 then (if 0 ≤ x10 then (if x10 < (x8.length : Int) then (if 0 ≤ (rd x8 x10) then (if (rd x8 x10) < (x145000.length : Int) then (if x5.length < 17592186044416 then (nz_gives.l0 k (x5 ++ [(rd_T126 x145000 (rd x8 x10)).f2]) x8 x9 (wrap64 (x10 + 1)) x145000 x145001) else (none)) else (none)) else (none)) else (none)) else (none)) else ((nz_sum.f k x5).bind fun t150 => (some t150))
def nz_gives.f (k : Nat) (l0_0 : List (S126)) (a0_1 : Int) (l1 : List Int) : Option (Int) := nz_gives.l0 k ([] : List Int) l1 (l1.length : Int) 0 l0_0 a0_1
theorem nz_gives.calls (k : Nat) (A0_0 : Option Addr) (c0_0 : Nat) (l0_0 : List (S126)) (a0_1 : Int) (A1 : Option Addr) (c1 : Nat) (l1 : List Int) (r : Int) (w : World) (hr0_0 : Kd.C k126 w A0_0 l0_0.length l0_0) (hc0_0 : l0_0.length ≤ c0_0) (hr1 : Kd.C (Kd.int .i64) w A1 l1.length l1) (hc1 : l1.length ≤ c1) (h : nz_gives.f k l0_0 a0_1 l1 = some r) :
 Calls Tryz.prog 130 #[.agg #[.slice A0_0 l0_0.length c0_0,.int .i64 a0_1],.slice A1 l1.length c1] w fun e w' => e = .returned (.int .i64 r) ∧ Below w.heap.size w w' := by
 have hu24 := Tryz.underlying24
 have HR0_0 := am hr0_0
 have HC0_0 := am hc0_0
 clear hr0_0 hc0_0
 have HR1 := am hr1
 have HC1 := am hc1
 clear hr1 hc1
 have HB := am (Below.refl w.heap.size w)
 have H : (nz_gives.l0 k ([] : List Int) l1 (l1.length : Int) 0 l0_0 a0_1) = some r := h
 clear h
 replace H' := am H
 go_enter Tryz.func130,Tryz.ntmps130
 go_wp2_with (first | ((refine gate_dst (N := 2) rfl ?_);refine box_event rfl (N := 2) rfl (cs := #[.slice A0_0 l0_0.length c0_0,.int .i64 a0_1]) (t := 24) ?hr ?_;(case hr => go_simp;try rfl);intro gb144 hg w3 hbox hb;have BK144 := am (hbox);have GW144 := am (ge_new (HB.out) hg);have GE144 := am (ge_new (HB.out) hg);replace HB := am (below_step (HB.out) hb);clear hb hbox hg))
 go_loopg [5,10] k (fun kq v5 v10 w' => ∃ (x5_1 : List Int) (x10_1 : Int),v10 = .int .i64 x10_1 ∧ Aside0 (nz_gives.l0 kq x5_1 l1 (l1.length : Int) x10_1 l0_0 a0_1 = some r) ∧ Aside0 (kq ≤ k) ∧ Aside0 (Kd.R (Kd.int .i64) 3 w' w.heap.size (fun _ => True) v5 x5_1) ∧ Aside0 (w'.heap[gb144]? = some (.cells #[(.slice A0_0 l0_0.length c0_0),.int .i64 a0_1] 24 (0,0))) ∧ Aside0 (Below w.heap.size w w'))
 case atStart => exact ⟨(([] : List Int)),(0),(by first | rfl | (simp;done) | (simp [*];done)),H',⟨Nat.le_refl _⟩,⟨by first | exact Kd.R_nil _ _ _ _ _ | exact Kd.N_nil _ _ _ _ _ | exact Kd.V_nil _ _ _ _ _ | exact Kd.Q_nil _ _ _ _ _ | exact Kd.S_nil _ _ _ _ _⟩,⟨BK144.out⟩,⟨HB.out⟩⟩
 case round =>
  clear H'
  obtain ⟨x5_1,x10_1,rfl,HA,HK1,HO_5,BK144,HB⟩ := hrel
  cases gk with
  | zero => exact absurd HA.out (by simp [nz_gives.l0])
  | succ k1 =>
   have H := HA.out
   clear HA
   simp only [nz_gives.l0] at H
   by_cases c4 : x10_1 < (l1.length : Int)
   case neg =>
    rw [if_neg c4] at H
    have c4b0 : decide (x10_1 < (l1.length : Int)) = false := decide_eq_false c4
    clear c4
    replace H := obm H
    obtain ⟨t150,A120,H⟩ := H
    replace H : (some t150) = some r := H
    have A12 := am A120
    clear A120
    obtain rfl := Option.some.inj H
    obtain ⟨Ao13,co13,eo13⟩ := Kd.R_slice HO_5.out
    subst eo13
    go_wp2_with (first | ((with_reducible refine gate_callee (f := 141) rfl ?_);refine goesL_ (some 25) rfl rfl Tryz.func141 (by kernel_rfl) rfl #[.slice Ao13 x5_1.length co13] rfl (by (try simp only [List.map_toArray,List.map_cons,List.map_nil]);first | done | rfl | (simp only [List.length_drop,List.length_take];rfl)) ?_;(refine (nz_sum.calls k1 _ _ x5_1 t150 _ ?side1 ?side2 A12.out).mono ?_);(case side1 => repeat (first | exact (Kd.R_reads' HO_5.out).2.2 | (with_reducible refine Kd.C_alloc ?_ _) | (with_reducible refine Kd.C_drewN ?_ _) | (with_reducible refine Kd.C_drew ?_)));(case side2 => exact (Kd.R_reads' HO_5.out).2.1);rintro e w' ⟨rfl,⟨nd,rfl⟩⟩;refine ⟨_,rfl,?_⟩))
    go_ret
    exact ⟨by first | rfl | (simp [*] <;> rfl),pw_below_drewN HB.out _⟩
   rw [if_pos c4] at H
   have c4b0 : decide (x10_1 < (l1.length : Int)) = true := decide_eq_true c4
   clear c4
   by_cases c5 : 0 ≤ x10_1
   case neg =>
    rw [if_neg c5] at H
    exact absurd H (by simp)
   rw [if_pos c5] at H
   have c5b0 : decide (0 ≤ x10_1) = true := decide_eq_true c5
   clear c5
   by_cases c6 : x10_1 < (l1.length : Int)
   case neg =>
    rw [if_neg c6] at H
    exact absurd H (by simp)
   rw [if_pos c6] at H
   have c6b0 : decide (x10_1 < (l1.length : Int)) = true := decide_eq_true c6
   clear c6
   by_cases c7 : 0 ≤ (rd l1 x10_1)
   case neg =>
    rw [if_neg c7] at H
    exact absurd H (by simp)
   rw [if_pos c7] at H
   have c7b0 : decide (0 ≤ (rd l1 x10_1)) = true := decide_eq_true c7
   clear c7
   by_cases c8 : (rd l1 x10_1) < (l0_0.length : Int)
   case neg =>
    rw [if_neg c8] at H
    exact absurd H (by simp)
   rw [if_pos c8] at H
   have c8b0 : decide ((rd l1 x10_1) < (l0_0.length : Int)) = true := decide_eq_true c8
   clear c8
   by_cases c9 : x5_1.length < 17592186044416
   case neg =>
    rw [if_neg c9] at H
    exact absurd H (by simp)
   rw [if_pos c9] at H
   have LMc9 := am c9
   clear c9
   obtain ⟨y147,hy147⟩ : ∃ y_ : List Int,y_ = (x5_1 ++ [(rd_T126 l0_0 (rd l1 x10_1)).f2]) := ⟨_,rfl⟩
   replace H : (nz_gives.l0 k1 y147 l1 (l1.length : Int) (wrap64 (x10_1 + 1)) l0_0 a0_1) = some r := by first | (rw [hy147];with_reducible exact H) | (have H2_ := (Option.bind_some _ _).symm.trans H;rw [hy147];with_reducible exact H2_) | (have H2_ := (Option.bind_some _ _).symm.trans H;with_reducible exact H2_) | with_reducible exact H | (rw [hy147];exact H) | exact H
   have Ny147 := am hy147
   clear hy147
   replace H' := am H
   have p145 : 0 ≤ (x10_1 : Int) := of_decide_eq_true (by assumption)
   have q145 : x10_1 < (l1.length : Int) := of_decide_eq_true (by assumption)
   obtain ⟨ad145,e145,hx145_0⟩ := Kd.at_int HR1.out x10_1 p145 q145
   cases e145
   replace hx145_0 := (HB.out.cell (wbl hx145_0)).trans hx145_0
   replace p145 := eq_true p145
   replace q145 := eq_true q145
   obtain ⟨hcz10_0,hcz10_1⟩ := cO2 BK144.out
   have p146 : 0 ≤ ((rd l1 x10_1) : Int) := of_decide_eq_true (by assumption)
   have q146 : (rd l1 x10_1) < (l0_0.length : Int) := of_decide_eq_true (by assumption)
   obtain ⟨ad146,e146,hx146_0,hx146_1,hx146_2⟩ := at_T126 HR0_0.out (rd l1 x10_1) p146 q146
   cases e146
   replace hx146_0 := (HB.out.cell (wbl hx146_0)).trans hx146_0
   replace hx146_1 := (HB.out.cell (wbl hx146_1)).trans hx146_1
   replace hx146_2 := (HB.out.cell (wbl hx146_2)).trans hx146_2
   replace p146 := eq_true p146
   replace q146 := eq_true q146
   go_wp2_with (first | ((with_reducible refine gate_builtin (b := .append) (xs := #[.tmp 14,.tmp 21]) rfl ?_);at_builtin;refine Kd.R_append (Kd.int .i64) (w0 := w) w.heap.size rfl (.tmp 14) (.tmp 21) 28 3 (.int .i64 0) 8 rfl Tryz.underlying28 info3 rfl (by decide) (by omega) u5 x5_1 ((rd_T126 l0_0 (rd l1 x10_1)).f2) [.int .i64 ((rd_T126 l0_0 (rd l1 x10_1)).f2)] (fun _ => True) (fun _ => False) rfl rfl ?aP (fun _ hk => hk.elim) ?aF ?aO ?aB ?aS ?aL ?_;(case aP => exact rfl);(case aB => exact (HB.out));(case aF => exact (fun _ _ => trivial));(case aO => exact HO_5.out);(case aS => exact (below_size (HB.out)));(case aL => have := LMc9.out;omega);intro v148 w11 ho hb hg hat;rw [← Ny147.out] at ho;have n0_ := am (blk_grown (g := gb144) (o := .cells #[.slice (some ad146) l0_0.length c0_0,.int .i64 a0_1] 24 (0,0)) BK144.out hg (Kd.R_ne HO_5.out BK144.out (by decide)));have n1_ := am (hb);have n2_ := am (ho);clear BK144;clear HB;clear HO_5;have BK144 := n0_;have HB := n1_;have HO149 := n2_;clear n0_ n1_ n2_;clear ho hb hg hat))
   go_roundg k1
   case measure => have := HK1.out;omega
   case rel => exact ⟨(y147),(wrap64 (x10_1 + 1)),(by first | rfl | (simp;done) | (simp [*];done)),H',⟨by have := HK1.out;omega⟩,⟨by (with_reducible repeat (first | apply Kd.R_alloc | apply Kd.R_drewN | apply Kd.R_drew));exact HO149.out⟩,⟨BK144.out⟩,⟨HB.out⟩⟩
end
def Pred_isSet (g : Nat) (q : Int → Option Bool) (w : World) (xs : List Int) : Prop := ∀ (x : Int) (b : Bool) (W : World) , x ∈ xs → q x = some b → Below w.heap.size w W → 
 Calls Tryz.prog 139 #[.int .i64 x,.pointer (some ⟨g,0,none⟩)] W fun e W' => e = .returned (.bool b) ∧ Below W.heap.size W W'
theorem idx_isSet (g : Nat) (q : Int → Option Bool) (A : Option Addr) (c : Nat) (xs : List Int) (r : Int) (w : World) (hr : Kd.C (Kd.int .i64) w A xs.length xs) (hp : Pred_isSet g q w xs) (h : idxM q xs 0 = some r) :
 Calls Tryz.prog 105 #[.slice A xs.length c,.func (.func 139) #[] #[.pointer (some ⟨g,0,none⟩)]] w fun e w' => e = .returned (.int .i64 r) ∧ Below w.heap.size w w' := by
 have HR := am hr
 have HP := am hp
 have HQ := am (show idxM q (xs.drop (0 : Int).toNat) 0 = some r from h)
 have hm : xs.length ≤ 9223372036854775807 := Kd.C_max hr
 clear hr hp h
 go_enter Tryz.func105,Tryz.ntmps105
 go_wp2
 go_loopw [5,8] (fun v5 v8 w' => ∃ i : Int,0 ≤ i ∧ i ≤ xs.length ∧ v8 = .int .i64 i ∧ Aside0 (idxM q (xs.drop i.toNat) i = some r) ∧ Aside0 (Below w.heap.size w w')) (fun _ v8 _ => xs.length - (intOf v8).toNat)
 case atStart => exact ⟨0,by omega,by omega,rfl,HQ,⟨Below.refl _ _⟩⟩
 case round =>
  clear HQ
  obtain ⟨i,p1,hi,rfl,HQ,HB⟩ := hrel
  by_cases hlt : i < (xs.length : Int)
  case neg =>
   go_wp2
   go_ret
   exact ⟨ret_int_eq (idxM_end (by omega) HQ.out),HB.out⟩
  obtain ⟨ad,e1,hx0⟩ := Kd.at_int HR.out i p1 hlt
  cases e1
  replace hx0 := (HB.out.cell (wbl hx0)).trans hx0
  rcases idxM_step (0 : Int) p1 hlt HQ.out with ⟨hq,he⟩ | ⟨hq,hn⟩
  · have H1 := am hq
    have X1 := am (getD_mem (0 : Int) p1 hlt)
    have H2 := am he
    clear hq he
    go_wp2_with (go_at_call 139;refine (HP.out (xs.getD i.toNat (0 : Int)) _ _ X1.out H1.out HB.out).mono ?_;rintro e W' ⟨rfl,hb⟩)
    go_ret
    exact ⟨ret_int_eq H2.out,below_then HB.out HB.out.size hb⟩
  · have H1 := am hq
    have X1 := am (getD_mem (0 : Int) p1 hlt)
    have H2 := am hn
    clear hq hn
    go_wp2_with (go_at_call 139;refine (HP.out (xs.getD i.toNat (0 : Int)) _ _ X1.out H1.out HB.out).mono ?_;rintro e W' ⟨rfl,hb⟩)
    go_roundw
    case rel => exact ⟨i + 1,by omega,by omega,by go_num,H2,⟨below_then HB.out HB.out.size hb⟩⟩
    case measure => simp [intOf];omega
theorem any_isSet (g : Nat) (q : Int → Option Bool) (A : Option Addr) (c : Nat) (xs : List Int) (r : Bool) (w : World) (hr : Kd.C (Kd.int .i64) w A xs.length xs) (hp : Pred_isSet g q w xs) (h : anyM q xs = some r) :
 Calls Tryz.prog 65 #[.slice A xs.length c,.func (.func 139) #[] #[.pointer (some ⟨g,0,none⟩)]] w fun e w' => e = .returned (.bool r) ∧ Below w.heap.size w w' := by
 obtain ⟨j,hj,hd⟩ := idxM_of_anyM q xs 0 r (by omega) h
 have H1 := am hj
 have H2 := am hd
 have HR := am hr
 have HP := am hp
 clear hr hp h hj hd
 go_enter Tryz.func65,Tryz.ntmps65
 go_wp2_with (go_at_call 105;refine (idx_isSet g q _ _ xs j _ HR.out HP.out H1.out).mono ?_;rintro e W' ⟨rfl,hb⟩)
 go_ret
 exact ⟨ret_bool_eq H2.out,hb⟩
end Go.Proofs.YtnnmnhpeblhiiaaGreatDoor.C

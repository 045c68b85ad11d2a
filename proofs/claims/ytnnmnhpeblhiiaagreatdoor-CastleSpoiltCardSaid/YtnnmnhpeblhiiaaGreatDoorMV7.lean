/- A part of the proof: the walks of the functions that it reaches. TIGHT. -/
import Derived.Test.YtnnmnhpeblhiiaaGreatDoorMV6
import Derived.Lib.OthersKept
import Derived.Lib.SplitLaws
set_option linter.unusedVariables false
set_option linter.unusedSimpArgs false
namespace Go.Proofs.YtnnmnhpeblhiiaaGreatDoor.C
open Go.RowKit Go.Proofs.YtnnmnhpeblhiiaaGreatDoorW.PrintWords Go.Proofs.YtnnmnhpeblhiiaaGreatDoorW.PrintLast Go.Proofs.YtnnmnhpeblhiiaaGreatDoorW.PrintMore
set_option linter.unusedVariables false
set_option linter.unusedSimpArgs false
set_option maxHeartbeats 16000000
set_option maxRecDepth 100000
section
attribute [local go_sem] max2_int min2_int max_two min_two
def q4_Basin.l0 : Nat→Int→List (S126)→Int→List (S48)→Int→Int→Option (Bool)
 | 0,_,_,_,_,_,_=>none
 | k + 1,x3,x112000,x112001,x112002,x112003,x112004=>if x3 < (x112002.length : Int) then (if 0≤x3 then ((q4_in.f ((rd_T48 x112002 x3).f0) 0 (wrap64 ((x112000.length : Int) - 1))).bind fun t113=>(if t113 = true then ((q4_Height.f ((rd_T48 x112002 x3).f1)).bind fun t115=>(if t115 = true then (q4_Basin.l0 k (wrap64 (x3 + 1)) x112000 x112001 x112002 x112003 x112004) else (some false))) else (some false))) else (none)) else ((q3_Table.f k x112000 x112001).bind fun t116=>(if t116 = true then ((q4_in.f (x112002.length : Int) 1 6).bind fun t117=>(if t117 = true then ((q4_Height.f x112003).bind fun t118=>(if t118 = true then ((q4_in.f x112004 0 100).bind fun t119=>(some t119)) else (some false))) else (some false))) else (some false)))
def q4_Basin.f (k : Nat) (l0_0 : List (S126)) (a0_1 : Int) (l0_2 : List (S48)) (a0_3 : Int) (a0_4 : Int) : Option (Bool):=q4_Basin.l0 k 0 l0_0 a0_1 l0_2 a0_3 a0_4
theorem in_w {a b c : Int} {r : Bool} (h : q4_in.f a b (wrap64 c) = some r) : q4_in.f a b (IntKind.i64.wrap c) = some r:=by rw [i64_w];exact h
theorem q4_Basin.calls (k : Nat) (A0_0 : Option Addr) (c0_0 : Nat) (l0_0 : List (S126)) (a0_1 : Int) (A0_2 : Option Addr) (c0_2 : Nat) (l0_2 : List (S48)) (a0_3 : Int) (a0_4 : Int) (r : Bool) (w : World) (hr0_0 : Kd.C k126 w A0_0 l0_0.length l0_0) (hc0_0 : l0_0.length≤c0_0) (hr0_2 : Kd.C k48 w A0_2 l0_2.length l0_2) (hc0_2 : l0_2.length≤c0_2) (h : q4_Basin.f k l0_0 a0_1 l0_2 a0_3 a0_4 = some r) :
 Calls Tryz.prog 15 #[.agg #[.slice A0_0 l0_0.length c0_0,.int .i64 a0_1,.slice A0_2 l0_2.length c0_2,.int .i64 a0_3,.int .i64 a0_4]] w fun e w'=>e = .returned (.bool r)∧Below w.heap.size w w':=by
 have hu27:=Tryz.underlying27
 have hu24:=Tryz.underlying24
 have HR0_0:=am hr0_0
 have HC0_0:=am hc0_0
 clear hr0_0 hc0_0
 have HR0_2:=am hr0_2
 have HC0_2:=am hc0_2
 clear hr0_2 hc0_2
 have HB:=am (Below.refl w.heap.size w)
 have H : (q4_Basin.l0 k 0 l0_0 a0_1 l0_2 a0_3 a0_4) = some r:=h
 clear h
 replace H':=am H
 go_enter Tryz.func15,Tryz.ntmps15
 go_wp2_with (first | ((refine gate_dst (N:=1) rfl ?_);(try (refine gate_guard (by rfl) ?_;dsimp only));refine box_event rfl (N:=1) rfl (cs:=#[.slice A0_0 l0_0.length c0_0,.int .i64 a0_1,.slice A0_2 l0_2.length c0_2,.int .i64 a0_3,.int .i64 a0_4]) (t:=27) ?hr ?_;(case hr=>go_simp;try rfl);intro gb111 hg w2 hbox hb;have BK111:=am (hbox);have GW111:=am (ge_new (HB.out) hg);have GE111:=am (ge_new (HB.out) hg);replace HB:=am (below_step (HB.out) hb);clear hb hbox hg))
 repeat (go_quiet (first | ((refine gate_dst (N:=1) rfl ?_);(try (refine gate_guard (by rfl) ?_;dsimp only));refine box_event rfl (N:=1) rfl (cs:=#[.slice A0_0 l0_0.length c0_0,.int .i64 a0_1,.slice A0_2 l0_2.length c0_2,.int .i64 a0_3,.int .i64 a0_4]) (t:=27) ?hr ?_;(case hr=>go_simp;try rfl);intro gb111 hg w2 hbox hb;have BK111:=am (hbox);have GW111:=am (ge_new (by repeat (first | (with_reducible first | exact HB.out | apply below_alloc | apply pw_below_drewN) | exact HB.out)) hg);have GE111:=am (ge_new (by repeat (first | (with_reducible first | exact HB.out | apply below_alloc | apply pw_below_drewN) | exact HB.out)) hg);replace HB:=am (below_step (by repeat (first | (with_reducible first | exact HB.out | apply below_alloc | apply pw_below_drewN) | exact HB.out)) hb);clear hb hbox hg));try go_wp2_with (first | ((refine gate_dst (N:=1) rfl ?_);(try (refine gate_guard (by rfl) ?_;dsimp only));refine box_event rfl (N:=1) rfl (cs:=#[.slice A0_0 l0_0.length c0_0,.int .i64 a0_1,.slice A0_2 l0_2.length c0_2,.int .i64 a0_3,.int .i64 a0_4]) (t:=27) ?hr ?_;(case hr=>go_simp;try rfl);intro gb111 hg w2 hbox hb;have BK111:=am (hbox);have GW111:=am (ge_new (by repeat (first | (with_reducible first | exact HB.out | apply below_alloc | apply pw_below_drewN) | exact HB.out)) hg);have GE111:=am (ge_new (by repeat (first | (with_reducible first | exact HB.out | apply below_alloc | apply pw_below_drewN) | exact HB.out)) hg);replace HB:=am (below_step (by repeat (first | (with_reducible first | exact HB.out | apply below_alloc | apply pw_below_drewN) | exact HB.out)) hb);clear hb hbox hg)))
 go_loopg [3] k (fun kq v3 w'=>∃ (x3_1 : Int),v3 = .int .i64 x3_1∧Aside0 (q4_Basin.l0 kq x3_1 l0_0 a0_1 l0_2 a0_3 a0_4 = some r)∧Aside0 (kq≤k)∧Aside0 (w'.heap[gb111]? = some (.cells #[(.slice A0_0 l0_0.length c0_0),.int .i64 a0_1,(.slice A0_2 l0_2.length c0_2),.int .i64 a0_3,.int .i64 a0_4] 27 (0,0)))∧Aside0 (Below w.heap.size w w'))
 case atStart=>exact ⟨(0),(by first | rfl | (simp;done) | (simp [*];done)),H',⟨Nat.le_refl _⟩,⟨BK111.out⟩,⟨HB.out⟩⟩
 case round =>
  clear H'
  obtain ⟨x3_1,rfl,HA,HK1,BK111,HB⟩:=hrel
  cases gk with
  | zero=>exact absurd HA.out (by simp [q4_Basin.l0])
  | succ k1 =>
   have H:=HA.out
   clear HA
   simp only [q4_Basin.l0] at H
   by_cases c3 : x3_1 < (l0_2.length : Int)
   ·rw [if_pos c3] at H
    have c3b0 : decide (x3_1 < (l0_2.length : Int)) = true:=decide_eq_true c3
    clear c3
    by_cases c4 : 0≤x3_1
    case neg =>
     rw [if_neg c4] at H
     exact absurd H (by simp)
    rw [if_pos c4] at H
    have c4b0 : decide (0≤x3_1) = true:=decide_eq_true c4
    clear c4
    replace H:=obm H
    obtain ⟨t113,A50,H⟩:=H
    replace H : (if t113 = true then ((q4_Height.f ((rd_T48 l0_2 x3_1).f1)).bind fun t115=>(if t115 = true then (q4_Basin.l0 k1 (wrap64 (x3_1 + 1)) l0_0 a0_1 l0_2 a0_3 a0_4) else (some false))) else (some false)) = some r:=H
    have A5:=am A50
    clear A50
    by_cases c6 : t113 = true
    case neg =>
     replace c6:=Bool.eq_false_iff.mpr c6
     subst c6
     replace H : (some false) = some r:=by rw [if_neg (show ¬ (false = true) by decide)] at H;exact H
     obtain rfl:=Option.some.inj H
     obtain ⟨hcz11_0,hcz11_1,hcz11_2,hcz11_3,hcz11_4⟩:=cO5 BK111.out
     have p112 : 0≤(x3_1 : Int):=of_decide_eq_true (by assumption)
     have q112 : x3_1 < (l0_2.length : Int):=of_decide_eq_true (by assumption)
     obtain ⟨ad112,e112,hx112_0,hx112_1⟩:=at_T48 HR0_2.out x3_1 p112 q112
     cases e112
     replace hx112_0:=(HB.out.cell (wbl hx112_0)).trans hx112_0
     replace hx112_1:=(HB.out.cell (wbl hx112_1)).trans hx112_1
     replace p112:=eq_true p112
     replace q112:=eq_true q112
     go_wp2_with (first | (go_at_call 54;(with_reducible refine (q4_in.calls ((rd_T48 l0_2 x3_1).f0) 0 (wrap64 ((l0_0.length : Int) - 1)) false _ A5.out).mono ?_);rintro e w' ⟨rfl,⟨nd,rfl⟩⟩;(try first | exact ⟨rfl,_,World.drewN_drewN _ _ _⟩ | exact ⟨rfl,_,Eq.trans (World.drewN_drewN _ _ _) (congrArg (World.drewN _) (Nat.add_assoc _ _ _))⟩)))
     repeat (go_quiet (first | (go_at_call 54;(with_reducible refine (q4_in.calls ((rd_T48 l0_2 x3_1).f0) 0 (wrap64 ((l0_0.length : Int) - 1)) false _ A5.out).mono ?_);rintro e w' ⟨rfl,⟨nd,rfl⟩⟩;(try first | exact ⟨rfl,_,World.drewN_drewN _ _ _⟩ | exact ⟨rfl,_,Eq.trans (World.drewN_drewN _ _ _) (congrArg (World.drewN _) (Nat.add_assoc _ _ _))⟩)));try go_wp2_with (first | (go_at_call 54;(with_reducible refine (q4_in.calls ((rd_T48 l0_2 x3_1).f0) 0 (wrap64 ((l0_0.length : Int) - 1)) false _ A5.out).mono ?_);rintro e w' ⟨rfl,⟨nd,rfl⟩⟩;(try first | exact ⟨rfl,_,World.drewN_drewN _ _ _⟩ | exact ⟨rfl,_,Eq.trans (World.drewN_drewN _ _ _) (congrArg (World.drewN _) (Nat.add_assoc _ _ _))⟩))))
     go_ret
     exact ⟨by first | rfl | (simp [*]<;>rfl),pw_below_drewN HB.out _⟩
    subst c6
    replace H : ((q4_Height.f ((rd_T48 l0_2 x3_1).f1)).bind fun t115=>(if t115 = true then (q4_Basin.l0 k1 (wrap64 (x3_1 + 1)) l0_0 a0_1 l0_2 a0_3 a0_4) else (some false))) = some r:=by rw [if_pos rfl] at H;exact H
    replace H:=obm H
    obtain ⟨t115,A70,H⟩:=H
    replace H : (if t115 = true then (q4_Basin.l0 k1 (wrap64 (x3_1 + 1)) l0_0 a0_1 l0_2 a0_3 a0_4) else (some false)) = some r:=H
    have A7:=am A70
    clear A70
    by_cases c8 : t115 = true
    ·subst c8
     replace H : (q4_Basin.l0 k1 (wrap64 (x3_1 + 1)) l0_0 a0_1 l0_2 a0_3 a0_4) = some r:=by rw [if_pos rfl] at H;exact H
     replace H':=am H
     obtain ⟨hcz9_0,hcz9_1,hcz9_2,hcz9_3,hcz9_4⟩:=cO5 BK111.out
     have p112 : 0≤(x3_1 : Int):=of_decide_eq_true (by assumption)
     have q112 : x3_1 < (l0_2.length : Int):=of_decide_eq_true (by assumption)
     obtain ⟨ad112,e112,hx112_0,hx112_1⟩:=at_T48 HR0_2.out x3_1 p112 q112
     cases e112
     replace hx112_0:=(HB.out.cell (wbl hx112_0)).trans hx112_0
     replace hx112_1:=(HB.out.cell (wbl hx112_1)).trans hx112_1
     replace p112:=eq_true p112
     replace q112:=eq_true q112
     go_wp2_with (first | (go_at_call 54;(with_reducible refine (q4_in.calls ((rd_T48 l0_2 x3_1).f0) 0 (IntKind.i64.wrap ((l0_0.length : Int) - 1)) true _ (in_w A5.out)).mono ?_);rintro e w' ⟨rfl,⟨nd,rfl⟩⟩;(try first | exact ⟨rfl,_,World.drewN_drewN _ _ _⟩ | exact ⟨rfl,_,Eq.trans (World.drewN_drewN _ _ _) (congrArg (World.drewN _) (Nat.add_assoc _ _ _))⟩);have p114 : 0≤(x3_1 : Int):=of_decide_eq_true (by assumption);have q114 : x3_1 < (l0_2.length : Int):=of_decide_eq_true (by assumption);obtain ⟨ad114,e114,hx114_0,hx114_1⟩:=at_T48 HR0_2.out x3_1 p114 q114;obtain rfl : ad112 = ad114:=(by injection e114);replace hx114_0:=(HB.out.cell (wbl hx114_0)).trans hx114_0;replace hx114_1:=(HB.out.cell (wbl hx114_1)).trans hx114_1;replace p114:=eq_true p114;replace q114:=eq_true q114) | (go_at_call 39;(with_reducible refine (q4_Height.calls ((rd_T48 l0_2 x3_1).f1) true _ A7.out).mono ?_);rintro e w' ⟨rfl,⟨nd,rfl⟩⟩;(try first | exact ⟨rfl,_,World.drewN_drewN _ _ _⟩ | exact ⟨rfl,_,Eq.trans (World.drewN_drewN _ _ _) (congrArg (World.drewN _) (Nat.add_assoc _ _ _))⟩)))
     repeat (go_quiet (first | (go_at_call 54;(with_reducible refine (q4_in.calls ((rd_T48 l0_2 x3_1).f0) 0 (IntKind.i64.wrap ((l0_0.length : Int) - 1)) true _ (in_w A5.out)).mono ?_);rintro e w' ⟨rfl,⟨nd,rfl⟩⟩;(try first | exact ⟨rfl,_,World.drewN_drewN _ _ _⟩ | exact ⟨rfl,_,Eq.trans (World.drewN_drewN _ _ _) (congrArg (World.drewN _) (Nat.add_assoc _ _ _))⟩);have p114 : 0≤(x3_1 : Int):=of_decide_eq_true (by assumption);have q114 : x3_1 < (l0_2.length : Int):=of_decide_eq_true (by assumption);obtain ⟨ad114,e114,hx114_0,hx114_1⟩:=at_T48 HR0_2.out x3_1 p114 q114;obtain rfl : ad112 = ad114:=(by injection e114);replace hx114_0:=(HB.out.cell (wbl hx114_0)).trans hx114_0;replace hx114_1:=(HB.out.cell (wbl hx114_1)).trans hx114_1;replace p114:=eq_true p114;replace q114:=eq_true q114) | (go_at_call 39;(with_reducible refine (q4_Height.calls ((rd_T48 l0_2 x3_1).f1) true _ A7.out).mono ?_);rintro e w' ⟨rfl,⟨nd,rfl⟩⟩;(try first | exact ⟨rfl,_,World.drewN_drewN _ _ _⟩ | exact ⟨rfl,_,Eq.trans (World.drewN_drewN _ _ _) (congrArg (World.drewN _) (Nat.add_assoc _ _ _))⟩)));try go_wp2_with (first | (go_at_call 54;(with_reducible refine (q4_in.calls ((rd_T48 l0_2 x3_1).f0) 0 (IntKind.i64.wrap ((l0_0.length : Int) - 1)) true _ (in_w A5.out)).mono ?_);rintro e w' ⟨rfl,⟨nd,rfl⟩⟩;(try first | exact ⟨rfl,_,World.drewN_drewN _ _ _⟩ | exact ⟨rfl,_,Eq.trans (World.drewN_drewN _ _ _) (congrArg (World.drewN _) (Nat.add_assoc _ _ _))⟩);have p114 : 0≤(x3_1 : Int):=of_decide_eq_true (by assumption);have q114 : x3_1 < (l0_2.length : Int):=of_decide_eq_true (by assumption);obtain ⟨ad114,e114,hx114_0,hx114_1⟩:=at_T48 HR0_2.out x3_1 p114 q114;obtain rfl : ad112 = ad114:=(by injection e114);replace hx114_0:=(HB.out.cell (wbl hx114_0)).trans hx114_0;replace hx114_1:=(HB.out.cell (wbl hx114_1)).trans hx114_1;replace p114:=eq_true p114;replace q114:=eq_true q114) | (go_at_call 39;(with_reducible refine (q4_Height.calls ((rd_T48 l0_2 x3_1).f1) true _ A7.out).mono ?_);rintro e w' ⟨rfl,⟨nd,rfl⟩⟩;(try first | exact ⟨rfl,_,World.drewN_drewN _ _ _⟩ | exact ⟨rfl,_,Eq.trans (World.drewN_drewN _ _ _) (congrArg (World.drewN _) (Nat.add_assoc _ _ _))⟩))))
     go_roundg k1
     case measure=>have:=HK1.out;omega
     case rel=>exact ⟨(wrap64 (x3_1 + 1)),(by first | rfl | (simp;done) | (simp [*];done)),H',⟨by have:=HK1.out;omega⟩,⟨BK111.out⟩,⟨pw_below_drewN HB.out _⟩⟩
    ·replace c8:=Bool.eq_false_iff.mpr c8
     subst c8
     replace H : (some false) = some r:=by rw [if_neg (show ¬ (false = true) by decide)] at H;exact H
     obtain rfl:=Option.some.inj H
     obtain ⟨hcz10_0,hcz10_1,hcz10_2,hcz10_3,hcz10_4⟩:=cO5 BK111.out
     have p112 : 0≤(x3_1 : Int):=of_decide_eq_true (by assumption)
     have q112 : x3_1 < (l0_2.length : Int):=of_decide_eq_true (by assumption)
     obtain ⟨ad112,e112,hx112_0,hx112_1⟩:=at_T48 HR0_2.out x3_1 p112 q112
     cases e112
     replace hx112_0:=(HB.out.cell (wbl hx112_0)).trans hx112_0
     replace hx112_1:=(HB.out.cell (wbl hx112_1)).trans hx112_1
     replace p112:=eq_true p112
     replace q112:=eq_true q112
     go_wp2_with (first | (go_at_call 54;(with_reducible refine (q4_in.calls ((rd_T48 l0_2 x3_1).f0) 0 (IntKind.i64.wrap ((l0_0.length : Int) - 1)) true _ (in_w A5.out)).mono ?_);rintro e w' ⟨rfl,⟨nd,rfl⟩⟩;(try first | exact ⟨rfl,_,World.drewN_drewN _ _ _⟩ | exact ⟨rfl,_,Eq.trans (World.drewN_drewN _ _ _) (congrArg (World.drewN _) (Nat.add_assoc _ _ _))⟩);have p114 : 0≤(x3_1 : Int):=of_decide_eq_true (by assumption);have q114 : x3_1 < (l0_2.length : Int):=of_decide_eq_true (by assumption);obtain ⟨ad114,e114,hx114_0,hx114_1⟩:=at_T48 HR0_2.out x3_1 p114 q114;obtain rfl : ad112 = ad114:=(by injection e114);replace hx114_0:=(HB.out.cell (wbl hx114_0)).trans hx114_0;replace hx114_1:=(HB.out.cell (wbl hx114_1)).trans hx114_1;replace p114:=eq_true p114;replace q114:=eq_true q114) | (go_at_call 39;(with_reducible refine (q4_Height.calls ((rd_T48 l0_2 x3_1).f1) false _ A7.out).mono ?_);rintro e w' ⟨rfl,⟨nd,rfl⟩⟩;(try first | exact ⟨rfl,_,World.drewN_drewN _ _ _⟩ | exact ⟨rfl,_,Eq.trans (World.drewN_drewN _ _ _) (congrArg (World.drewN _) (Nat.add_assoc _ _ _))⟩)))
     repeat (go_quiet (first | (go_at_call 54;(with_reducible refine (q4_in.calls ((rd_T48 l0_2 x3_1).f0) 0 (IntKind.i64.wrap ((l0_0.length : Int) - 1)) true _ (in_w A5.out)).mono ?_);rintro e w' ⟨rfl,⟨nd,rfl⟩⟩;(try first | exact ⟨rfl,_,World.drewN_drewN _ _ _⟩ | exact ⟨rfl,_,Eq.trans (World.drewN_drewN _ _ _) (congrArg (World.drewN _) (Nat.add_assoc _ _ _))⟩);have p114 : 0≤(x3_1 : Int):=of_decide_eq_true (by assumption);have q114 : x3_1 < (l0_2.length : Int):=of_decide_eq_true (by assumption);obtain ⟨ad114,e114,hx114_0,hx114_1⟩:=at_T48 HR0_2.out x3_1 p114 q114;obtain rfl : ad112 = ad114:=(by injection e114);replace hx114_0:=(HB.out.cell (wbl hx114_0)).trans hx114_0;replace hx114_1:=(HB.out.cell (wbl hx114_1)).trans hx114_1;replace p114:=eq_true p114;replace q114:=eq_true q114) | (go_at_call 39;(with_reducible refine (q4_Height.calls ((rd_T48 l0_2 x3_1).f1) false _ A7.out).mono ?_);rintro e w' ⟨rfl,⟨nd,rfl⟩⟩;(try first | exact ⟨rfl,_,World.drewN_drewN _ _ _⟩ | exact ⟨rfl,_,Eq.trans (World.drewN_drewN _ _ _) (congrArg (World.drewN _) (Nat.add_assoc _ _ _))⟩)));try go_wp2_with (first | (go_at_call 54;(with_reducible refine (q4_in.calls ((rd_T48 l0_2 x3_1).f0) 0 (IntKind.i64.wrap ((l0_0.length : Int) - 1)) true _ (in_w A5.out)).mono ?_);rintro e w' ⟨rfl,⟨nd,rfl⟩⟩;(try first | exact ⟨rfl,_,World.drewN_drewN _ _ _⟩ | exact ⟨rfl,_,Eq.trans (World.drewN_drewN _ _ _) (congrArg (World.drewN _) (Nat.add_assoc _ _ _))⟩);have p114 : 0≤(x3_1 : Int):=of_decide_eq_true (by assumption);have q114 : x3_1 < (l0_2.length : Int):=of_decide_eq_true (by assumption);obtain ⟨ad114,e114,hx114_0,hx114_1⟩:=at_T48 HR0_2.out x3_1 p114 q114;obtain rfl : ad112 = ad114:=(by injection e114);replace hx114_0:=(HB.out.cell (wbl hx114_0)).trans hx114_0;replace hx114_1:=(HB.out.cell (wbl hx114_1)).trans hx114_1;replace p114:=eq_true p114;replace q114:=eq_true q114) | (go_at_call 39;(with_reducible refine (q4_Height.calls ((rd_T48 l0_2 x3_1).f1) false _ A7.out).mono ?_);rintro e w' ⟨rfl,⟨nd,rfl⟩⟩;(try first | exact ⟨rfl,_,World.drewN_drewN _ _ _⟩ | exact ⟨rfl,_,Eq.trans (World.drewN_drewN _ _ _) (congrArg (World.drewN _) (Nat.add_assoc _ _ _))⟩))))
     go_ret
     exact ⟨by first | rfl | (simp [*]<;>rfl),pw_below_drewN HB.out _⟩
   ·rw [if_neg c3] at H
    have c3b0 : decide (x3_1 < (l0_2.length : Int)) = false:=decide_eq_false c3
    clear c3
    replace H:=obm H
    obtain ⟨t116,A120,H⟩:=H
    replace H : (if t116 = true then ((q4_in.f (l0_2.length : Int) 1 6).bind fun t117=>(if t117 = true then ((q4_Height.f a0_3).bind fun t118=>(if t118 = true then ((q4_in.f a0_4 0 100).bind fun t119=>(some t119)) else (some false))) else (some false))) else (some false)) = some r:=H
    have A12:=am A120
    clear A120
    by_cases c13 : t116 = true
    case neg =>
     replace c13:=Bool.eq_false_iff.mpr c13
     subst c13
     replace H : (some false) = some r:=by rw [if_neg (show ¬ (false = true) by decide)] at H;exact H
     obtain rfl:=Option.some.inj H
     obtain ⟨hcz28_0,hcz28_1,hcz28_2,hcz28_3,hcz28_4⟩:=cO5 BK111.out
     go_wp2_with (first | (go_at_call 55;(with_reducible refine (q3_Table.calls k1 _ _ l0_0 a0_1 false _ ?side1 ?side2 A12.out).mono ?_);(case side1=>exact kC HR0_0.out HB.out);(case side2=>exact HC0_0.out);rintro e w29 ⟨rfl,hb⟩;replace BK111:=(kmv hb BK111);replace HB:=am (below_step (HB.out) hb);(try clear hb);(try clear hb2);(try clear hk);(try clear hi)))
     repeat (go_quiet (first | (go_at_call 55;(with_reducible refine (q3_Table.calls k1 _ _ l0_0 a0_1 false _ ?side1 ?side2 A12.out).mono ?_);(case side1=>repeat (first | exact (kC HR0_0.out HB.out) | (with_reducible refine Kd.C_alloc ?_ _) | (with_reducible refine Kd.C_drewN ?_ _) | (with_reducible refine Kd.C_drew ?_)));(case side2=>exact HC0_0.out);rintro e w29 ⟨rfl,hb⟩;replace BK111:=(kmv hb BK111);replace HB:=am (below_step (by repeat (first | (with_reducible first | exact HB.out | refine below_set ?_ GE111.out | apply below_alloc | apply pw_below_drewN) | exact HB.out)) hb);(try clear hb);(try clear hb2);(try clear hk);(try clear hi)));try go_wp2_with (first | (go_at_call 55;(with_reducible refine (q3_Table.calls k1 _ _ l0_0 a0_1 false _ ?side1 ?side2 A12.out).mono ?_);(case side1=>repeat (first | exact (kC HR0_0.out HB.out) | (with_reducible refine Kd.C_alloc ?_ _) | (with_reducible refine Kd.C_drewN ?_ _) | (with_reducible refine Kd.C_drew ?_)));(case side2=>exact HC0_0.out);rintro e w29 ⟨rfl,hb⟩;replace BK111:=(kmv hb BK111);replace HB:=am (below_step (by repeat (first | (with_reducible first | exact HB.out | refine below_set ?_ GE111.out | apply below_alloc | apply pw_below_drewN) | exact HB.out)) hb);(try clear hb);(try clear hb2);(try clear hk);(try clear hi))))
     go_ret
     exact ⟨by first | rfl | (simp [*]<;>rfl),HB.out⟩
    subst c13
    replace H : ((q4_in.f (l0_2.length : Int) 1 6).bind fun t117=>(if t117 = true then ((q4_Height.f a0_3).bind fun t118=>(if t118 = true then ((q4_in.f a0_4 0 100).bind fun t119=>(some t119)) else (some false))) else (some false))) = some r:=by rw [if_pos rfl] at H;exact H
    replace H:=obm H
    obtain ⟨t117,A140,H⟩:=H
    replace H : (if t117 = true then ((q4_Height.f a0_3).bind fun t118=>(if t118 = true then ((q4_in.f a0_4 0 100).bind fun t119=>(some t119)) else (some false))) else (some false)) = some r:=H
    have A14:=am A140
    clear A140
    by_cases c15 : t117 = true
    case neg =>
     replace c15:=Bool.eq_false_iff.mpr c15
     subst c15
     replace H : (some false) = some r:=by rw [if_neg (show ¬ (false = true) by decide)] at H;exact H
     obtain rfl:=Option.some.inj H
     obtain ⟨hcz25_0,hcz25_1,hcz25_2,hcz25_3,hcz25_4⟩:=cO5 BK111.out
     go_wp2_with (first | (go_at_call 55;(with_reducible refine (q3_Table.calls k1 _ _ l0_0 a0_1 true _ ?side1 ?side2 A12.out).mono ?_);(case side1=>exact kC HR0_0.out HB.out);(case side2=>exact HC0_0.out);rintro e w26 ⟨rfl,hb⟩;replace BK111:=(kmv hb BK111);replace HB:=am (below_step (HB.out) hb);(try clear hb);(try clear hb2);(try clear hk);(try clear hi);obtain ⟨hcz27_0,hcz27_1,hcz27_2,hcz27_3,hcz27_4⟩:=cO5 BK111.out) | (go_at_call 54;(with_reducible refine (q4_in.calls (l0_2.length : Int) 1 6 false _ A14.out).mono ?_);rintro e w' ⟨rfl,⟨nd,rfl⟩⟩;(try first | exact ⟨rfl,_,World.drewN_drewN _ _ _⟩ | exact ⟨rfl,_,Eq.trans (World.drewN_drewN _ _ _) (congrArg (World.drewN _) (Nat.add_assoc _ _ _))⟩)))
     repeat (go_quiet (first | (go_at_call 55;(with_reducible refine (q3_Table.calls k1 _ _ l0_0 a0_1 true _ ?side1 ?side2 A12.out).mono ?_);(case side1=>repeat (first | exact (kC HR0_0.out HB.out) | (with_reducible refine Kd.C_alloc ?_ _) | (with_reducible refine Kd.C_drewN ?_ _) | (with_reducible refine Kd.C_drew ?_)));(case side2=>exact HC0_0.out);rintro e w26 ⟨rfl,hb⟩;replace BK111:=(kmv hb BK111);replace HB:=am (below_step (by repeat (first | (with_reducible first | exact HB.out | refine below_set ?_ GE111.out | apply below_alloc | apply pw_below_drewN) | exact HB.out)) hb);(try clear hb);(try clear hb2);(try clear hk);(try clear hi);obtain ⟨hcz27_0,hcz27_1,hcz27_2,hcz27_3,hcz27_4⟩:=cO5 BK111.out) | (go_at_call 54;(with_reducible refine (q4_in.calls (l0_2.length : Int) 1 6 false _ A14.out).mono ?_);rintro e w' ⟨rfl,⟨nd,rfl⟩⟩;(try first | exact ⟨rfl,_,World.drewN_drewN _ _ _⟩ | exact ⟨rfl,_,Eq.trans (World.drewN_drewN _ _ _) (congrArg (World.drewN _) (Nat.add_assoc _ _ _))⟩)));try go_wp2_with (first | (go_at_call 55;(with_reducible refine (q3_Table.calls k1 _ _ l0_0 a0_1 true _ ?side1 ?side2 A12.out).mono ?_);(case side1=>repeat (first | exact (kC HR0_0.out HB.out) | (with_reducible refine Kd.C_alloc ?_ _) | (with_reducible refine Kd.C_drewN ?_ _) | (with_reducible refine Kd.C_drew ?_)));(case side2=>exact HC0_0.out);rintro e w26 ⟨rfl,hb⟩;replace BK111:=(kmv hb BK111);replace HB:=am (below_step (by repeat (first | (with_reducible first | exact HB.out | refine below_set ?_ GE111.out | apply below_alloc | apply pw_below_drewN) | exact HB.out)) hb);(try clear hb);(try clear hb2);(try clear hk);(try clear hi);obtain ⟨hcz27_0,hcz27_1,hcz27_2,hcz27_3,hcz27_4⟩:=cO5 BK111.out) | (go_at_call 54;(with_reducible refine (q4_in.calls (l0_2.length : Int) 1 6 false _ A14.out).mono ?_);rintro e w' ⟨rfl,⟨nd,rfl⟩⟩;(try first | exact ⟨rfl,_,World.drewN_drewN _ _ _⟩ | exact ⟨rfl,_,Eq.trans (World.drewN_drewN _ _ _) (congrArg (World.drewN _) (Nat.add_assoc _ _ _))⟩))))
     go_ret
     exact ⟨by first | rfl | (simp [*]<;>rfl),pw_below_drewN HB.out _⟩
    subst c15
    replace H : ((q4_Height.f a0_3).bind fun t118=>(if t118 = true then ((q4_in.f a0_4 0 100).bind fun t119=>(some t119)) else (some false))) = some r:=by rw [if_pos rfl] at H;exact H
    replace H:=obm H
    obtain ⟨t118,A160,H⟩:=H
    replace H : (if t118 = true then ((q4_in.f a0_4 0 100).bind fun t119=>(some t119)) else (some false)) = some r:=H
    have A16:=am A160
    clear A160
    by_cases c17 : t118 = true
    case neg =>
     replace c17:=Bool.eq_false_iff.mpr c17
     subst c17
     replace H : (some false) = some r:=by rw [if_neg (show ¬ (false = true) by decide)] at H;exact H
     obtain rfl:=Option.some.inj H
     obtain ⟨hcz22_0,hcz22_1,hcz22_2,hcz22_3,hcz22_4⟩:=cO5 BK111.out
     go_wp2_with (first | (go_at_call 55;(with_reducible refine (q3_Table.calls k1 _ _ l0_0 a0_1 true _ ?side1 ?side2 A12.out).mono ?_);(case side1=>exact kC HR0_0.out HB.out);(case side2=>exact HC0_0.out);rintro e w23 ⟨rfl,hb⟩;replace BK111:=(kmv hb BK111);replace HB:=am (below_step (HB.out) hb);(try clear hb);(try clear hb2);(try clear hk);(try clear hi);obtain ⟨hcz24_0,hcz24_1,hcz24_2,hcz24_3,hcz24_4⟩:=cO5 BK111.out) | (go_at_call 54;(with_reducible refine (q4_in.calls (l0_2.length : Int) 1 6 true _ A14.out).mono ?_);rintro e w' ⟨rfl,⟨nd,rfl⟩⟩;(try first | exact ⟨rfl,_,World.drewN_drewN _ _ _⟩ | exact ⟨rfl,_,Eq.trans (World.drewN_drewN _ _ _) (congrArg (World.drewN _) (Nat.add_assoc _ _ _))⟩)) | (go_at_call 39;(with_reducible refine (q4_Height.calls a0_3 false _ A16.out).mono ?_);rintro e w' ⟨rfl,⟨nd,rfl⟩⟩;(try first | exact ⟨rfl,_,World.drewN_drewN _ _ _⟩ | exact ⟨rfl,_,Eq.trans (World.drewN_drewN _ _ _) (congrArg (World.drewN _) (Nat.add_assoc _ _ _))⟩)))
     repeat (go_quiet (first | (go_at_call 55;(with_reducible refine (q3_Table.calls k1 _ _ l0_0 a0_1 true _ ?side1 ?side2 A12.out).mono ?_);(case side1=>repeat (first | exact (kC HR0_0.out HB.out) | (with_reducible refine Kd.C_alloc ?_ _) | (with_reducible refine Kd.C_drewN ?_ _) | (with_reducible refine Kd.C_drew ?_)));(case side2=>exact HC0_0.out);rintro e w23 ⟨rfl,hb⟩;replace BK111:=(kmv hb BK111);replace HB:=am (below_step (by repeat (first | (with_reducible first | exact HB.out | refine below_set ?_ GE111.out | apply below_alloc | apply pw_below_drewN) | exact HB.out)) hb);(try clear hb);(try clear hb2);(try clear hk);(try clear hi);obtain ⟨hcz24_0,hcz24_1,hcz24_2,hcz24_3,hcz24_4⟩:=cO5 BK111.out) | (go_at_call 54;(with_reducible refine (q4_in.calls (l0_2.length : Int) 1 6 true _ A14.out).mono ?_);rintro e w' ⟨rfl,⟨nd,rfl⟩⟩;(try first | exact ⟨rfl,_,World.drewN_drewN _ _ _⟩ | exact ⟨rfl,_,Eq.trans (World.drewN_drewN _ _ _) (congrArg (World.drewN _) (Nat.add_assoc _ _ _))⟩)) | (go_at_call 39;(with_reducible refine (q4_Height.calls a0_3 false _ A16.out).mono ?_);rintro e w' ⟨rfl,⟨nd,rfl⟩⟩;(try first | exact ⟨rfl,_,World.drewN_drewN _ _ _⟩ | exact ⟨rfl,_,Eq.trans (World.drewN_drewN _ _ _) (congrArg (World.drewN _) (Nat.add_assoc _ _ _))⟩)));try go_wp2_with (first | (go_at_call 55;(with_reducible refine (q3_Table.calls k1 _ _ l0_0 a0_1 true _ ?side1 ?side2 A12.out).mono ?_);(case side1=>repeat (first | exact (kC HR0_0.out HB.out) | (with_reducible refine Kd.C_alloc ?_ _) | (with_reducible refine Kd.C_drewN ?_ _) | (with_reducible refine Kd.C_drew ?_)));(case side2=>exact HC0_0.out);rintro e w23 ⟨rfl,hb⟩;replace BK111:=(kmv hb BK111);replace HB:=am (below_step (by repeat (first | (with_reducible first | exact HB.out | refine below_set ?_ GE111.out | apply below_alloc | apply pw_below_drewN) | exact HB.out)) hb);(try clear hb);(try clear hb2);(try clear hk);(try clear hi);obtain ⟨hcz24_0,hcz24_1,hcz24_2,hcz24_3,hcz24_4⟩:=cO5 BK111.out) | (go_at_call 54;(with_reducible refine (q4_in.calls (l0_2.length : Int) 1 6 true _ A14.out).mono ?_);rintro e w' ⟨rfl,⟨nd,rfl⟩⟩;(try first | exact ⟨rfl,_,World.drewN_drewN _ _ _⟩ | exact ⟨rfl,_,Eq.trans (World.drewN_drewN _ _ _) (congrArg (World.drewN _) (Nat.add_assoc _ _ _))⟩)) | (go_at_call 39;(with_reducible refine (q4_Height.calls a0_3 false _ A16.out).mono ?_);rintro e w' ⟨rfl,⟨nd,rfl⟩⟩;(try first | exact ⟨rfl,_,World.drewN_drewN _ _ _⟩ | exact ⟨rfl,_,Eq.trans (World.drewN_drewN _ _ _) (congrArg (World.drewN _) (Nat.add_assoc _ _ _))⟩))))
     go_ret
     exact ⟨by first | rfl | (simp [*]<;>rfl),pw_below_drewN HB.out _⟩
    subst c17
    replace H : ((q4_in.f a0_4 0 100).bind fun t119=>(some t119)) = some r:=by rw [if_pos rfl] at H;exact H
    replace H:=obm H
    obtain ⟨t119,A180,H⟩:=H
    replace H : (some t119) = some r:=H
    have A18:=am A180
    clear A180
    obtain rfl:=Option.some.inj H
    obtain ⟨hcz19_0,hcz19_1,hcz19_2,hcz19_3,hcz19_4⟩:=cO5 BK111.out
    go_wp2_with (first | (go_at_call 55;(with_reducible refine (q3_Table.calls k1 _ _ l0_0 a0_1 true _ ?side1 ?side2 A12.out).mono ?_);(case side1=>exact kC HR0_0.out HB.out);(case side2=>exact HC0_0.out);rintro e w20 ⟨rfl,hb⟩;replace BK111:=(kmv hb BK111);replace HB:=am (below_step (HB.out) hb);(try clear hb);(try clear hb2);(try clear hk);(try clear hi);obtain ⟨hcz21_0,hcz21_1,hcz21_2,hcz21_3,hcz21_4⟩:=cO5 BK111.out) | (go_at_call 54;(with_reducible refine (q4_in.calls (l0_2.length : Int) 1 6 true _ A14.out).mono ?_);rintro e w' ⟨rfl,⟨nd,rfl⟩⟩;(try first | exact ⟨rfl,_,World.drewN_drewN _ _ _⟩ | exact ⟨rfl,_,Eq.trans (World.drewN_drewN _ _ _) (congrArg (World.drewN _) (Nat.add_assoc _ _ _))⟩)) | (go_at_call 39;(with_reducible refine (q4_Height.calls a0_3 true _ A16.out).mono ?_);rintro e w' ⟨rfl,⟨nd,rfl⟩⟩;(try first | exact ⟨rfl,_,World.drewN_drewN _ _ _⟩ | exact ⟨rfl,_,Eq.trans (World.drewN_drewN _ _ _) (congrArg (World.drewN _) (Nat.add_assoc _ _ _))⟩)) | (go_at_call 54;(with_reducible refine (q4_in.calls a0_4 0 100 t119 _ A18.out).mono ?_);rintro e w' ⟨rfl,⟨nd,rfl⟩⟩;(try first | exact ⟨rfl,_,World.drewN_drewN _ _ _⟩ | exact ⟨rfl,_,Eq.trans (World.drewN_drewN _ _ _) (congrArg (World.drewN _) (Nat.add_assoc _ _ _))⟩)))
    repeat (go_quiet (first | (go_at_call 55;(with_reducible refine (q3_Table.calls k1 _ _ l0_0 a0_1 true _ ?side1 ?side2 A12.out).mono ?_);(case side1=>repeat (first | exact (kC HR0_0.out HB.out) | (with_reducible refine Kd.C_alloc ?_ _) | (with_reducible refine Kd.C_drewN ?_ _) | (with_reducible refine Kd.C_drew ?_)));(case side2=>exact HC0_0.out);rintro e w20 ⟨rfl,hb⟩;replace BK111:=(kmv hb BK111);replace HB:=am (below_step (by repeat (first | (with_reducible first | exact HB.out | refine below_set ?_ GE111.out | apply below_alloc | apply pw_below_drewN) | exact HB.out)) hb);(try clear hb);(try clear hb2);(try clear hk);(try clear hi);obtain ⟨hcz21_0,hcz21_1,hcz21_2,hcz21_3,hcz21_4⟩:=cO5 BK111.out) | (go_at_call 54;(with_reducible refine (q4_in.calls (l0_2.length : Int) 1 6 true _ A14.out).mono ?_);rintro e w' ⟨rfl,⟨nd,rfl⟩⟩;(try first | exact ⟨rfl,_,World.drewN_drewN _ _ _⟩ | exact ⟨rfl,_,Eq.trans (World.drewN_drewN _ _ _) (congrArg (World.drewN _) (Nat.add_assoc _ _ _))⟩)) | (go_at_call 39;(with_reducible refine (q4_Height.calls a0_3 true _ A16.out).mono ?_);rintro e w' ⟨rfl,⟨nd,rfl⟩⟩;(try first | exact ⟨rfl,_,World.drewN_drewN _ _ _⟩ | exact ⟨rfl,_,Eq.trans (World.drewN_drewN _ _ _) (congrArg (World.drewN _) (Nat.add_assoc _ _ _))⟩)) | (go_at_call 54;(with_reducible refine (q4_in.calls a0_4 0 100 t119 _ A18.out).mono ?_);rintro e w' ⟨rfl,⟨nd,rfl⟩⟩;(try first | exact ⟨rfl,_,World.drewN_drewN _ _ _⟩ | exact ⟨rfl,_,Eq.trans (World.drewN_drewN _ _ _) (congrArg (World.drewN _) (Nat.add_assoc _ _ _))⟩)));try go_wp2_with (first | (go_at_call 55;(with_reducible refine (q3_Table.calls k1 _ _ l0_0 a0_1 true _ ?side1 ?side2 A12.out).mono ?_);(case side1=>repeat (first | exact (kC HR0_0.out HB.out) | (with_reducible refine Kd.C_alloc ?_ _) | (with_reducible refine Kd.C_drewN ?_ _) | (with_reducible refine Kd.C_drew ?_)));(case side2=>exact HC0_0.out);rintro e w20 ⟨rfl,hb⟩;replace BK111:=(kmv hb BK111);replace HB:=am (below_step (by repeat (first | (with_reducible first | exact HB.out | refine below_set ?_ GE111.out | apply below_alloc | apply pw_below_drewN) | exact HB.out)) hb);(try clear hb);(try clear hb2);(try clear hk);(try clear hi);obtain ⟨hcz21_0,hcz21_1,hcz21_2,hcz21_3,hcz21_4⟩:=cO5 BK111.out) | (go_at_call 54;(with_reducible refine (q4_in.calls (l0_2.length : Int) 1 6 true _ A14.out).mono ?_);rintro e w' ⟨rfl,⟨nd,rfl⟩⟩;(try first | exact ⟨rfl,_,World.drewN_drewN _ _ _⟩ | exact ⟨rfl,_,Eq.trans (World.drewN_drewN _ _ _) (congrArg (World.drewN _) (Nat.add_assoc _ _ _))⟩)) | (go_at_call 39;(with_reducible refine (q4_Height.calls a0_3 true _ A16.out).mono ?_);rintro e w' ⟨rfl,⟨nd,rfl⟩⟩;(try first | exact ⟨rfl,_,World.drewN_drewN _ _ _⟩ | exact ⟨rfl,_,Eq.trans (World.drewN_drewN _ _ _) (congrArg (World.drewN _) (Nat.add_assoc _ _ _))⟩)) | (go_at_call 54;(with_reducible refine (q4_in.calls a0_4 0 100 t119 _ A18.out).mono ?_);rintro e w' ⟨rfl,⟨nd,rfl⟩⟩;(try first | exact ⟨rfl,_,World.drewN_drewN _ _ _⟩ | exact ⟨rfl,_,Eq.trans (World.drewN_drewN _ _ _) (congrArg (World.drewN _) (Nat.add_assoc _ _ _))⟩))))
    go_ret
    exact ⟨by first | rfl | (simp [*]<;>rfl),pw_below_drewN HB.out _⟩
end
def Pred_isBasin (g : Nat) (q : S48→Option Bool) (w : World) (xs : List S48) : Prop:=∀ (x : S48) (b : Bool) (W : World) ,x ∈ xs→q x = some b→Below w.heap.size w W→
 Calls Tryz.prog 102 #[.agg #[.int .i64 x.f0,.int .i64 x.f1],.pointer (some ⟨g,0,none⟩)] W fun e W'=>e = .returned (.bool b)∧Below W.heap.size W W'
theorem idx_isBasin (g : Nat) (q : S48→Option Bool) (A : Option Addr) (c : Nat) (xs : List S48) (r : Int) (w : World) (hr : Kd.C k48 w A xs.length xs) (hp : Pred_isBasin g q w xs) (h : idxM q xs 0 = some r) :
 Calls Tryz.prog 128 #[.slice A xs.length c,.func (.func 102) #[] #[.pointer (some ⟨g,0,none⟩)]] w fun e w'=>e = .returned (.int .i64 r)∧Below w.heap.size w w':=by
 have huE:=Tryz.underlying48
 have HR:=am hr
 have HP:=am hp
 have HQ:=am (show idxM q (xs.drop (0 : Int).toNat) 0 = some r from h)
 have hm : xs.length≤9223372036854775807:=Kd.C_max hr
 clear hr hp h
 go_enter Tryz.func128,Tryz.ntmps128
 go_wp2
 go_loopw [5,8] (fun v5 v8 w'=>∃ i : Int,0≤i∧i≤xs.length∧v8 = .int .i64 i∧Aside0 (idxM q (xs.drop i.toNat) i = some r)∧Aside0 (Below w.heap.size w w')) (fun _ v8 _=>xs.length - (intOf v8).toNat)
 case atStart=>exact ⟨0,by omega,by omega,rfl,HQ,⟨Below.refl _ _⟩⟩
 case round =>
  clear HQ
  obtain ⟨i,p1,hi,rfl,HQ,HB⟩:=hrel
  by_cases hlt : i < (xs.length : Int)
  case neg =>
   go_wp2
   go_ret
   exact ⟨ret_int_eq (idxM_end (by omega) HQ.out),HB.out⟩
  obtain ⟨ad,e1,hx0,hx1⟩:=at_T48 HR.out i p1 hlt
  cases e1
  replace hx0:=(HB.out.cell (wbl hx0)).trans hx0
  replace hx1:=(HB.out.cell (wbl hx1)).trans hx1
  rcases idxM_step z48 p1 hlt HQ.out with ⟨hq,he⟩ | ⟨hq,hn⟩
  ·have H1:=am hq
   have X1:=am (getD_mem z48 p1 hlt)
   have H2:=am he
   clear hq he
   go_wp2_with (go_at_call 102;refine (HP.out (xs.getD i.toNat z48) _ _ X1.out H1.out HB.out).mono ?_;rintro e W' ⟨rfl,hb⟩)
   go_ret
   exact ⟨ret_int_eq H2.out,below_then HB.out HB.out.size hb⟩
  ·have H1:=am hq
   have X1:=am (getD_mem z48 p1 hlt)
   have H2:=am hn
   clear hq hn
   go_wp2_with (go_at_call 102;refine (HP.out (xs.getD i.toNat z48) _ _ X1.out H1.out HB.out).mono ?_;rintro e W' ⟨rfl,hb⟩)
   go_roundw
   case rel=>exact ⟨i + 1,by omega,by omega,by go_num,H2,⟨below_then HB.out HB.out.size hb⟩⟩
   case measure=>simp [intOf];omega
theorem any_isBasin (g : Nat) (q : S48→Option Bool) (A : Option Addr) (c : Nat) (xs : List S48) (r : Bool) (w : World) (hr : Kd.C k48 w A xs.length xs) (hp : Pred_isBasin g q w xs) (h : anyM q xs = some r) :
 Calls Tryz.prog 104 #[.slice A xs.length c,.func (.func 102) #[] #[.pointer (some ⟨g,0,none⟩)]] w fun e w'=>e = .returned (.bool r)∧Below w.heap.size w w':=by
 obtain ⟨j,hj,hd⟩:=idxM_of_anyM q xs 0 r (by omega) h
 have H1:=am hj
 have H2:=am hd
 have HR:=am hr
 have HP:=am hp
 clear hr hp h hj hd
 go_enter Tryz.func104,Tryz.ntmps104
 go_wp2_with (go_at_call 128;refine (idx_isBasin g q _ _ xs j _ HR.out HP.out H1.out).mono ?_;rintro e W' ⟨rfl,hb⟩)
 go_ret
 exact ⟨ret_bool_eq H2.out,hb⟩
section
attribute [local go_sem] max2_int min2_int max_two min_two
def nz_in.f (a0 : Int) (a1 : Int) (a2 : Int) : Option (Bool):=if a0 ≥ a1 then (some (decide (a0≤a2))) else (some false)
theorem nz_in.calls (a0 : Int) (a1 : Int) (a2 : Int) (r : Bool) (w : World) (h : nz_in.f a0 a1 a2 = some r) :
 Calls Tryz.prog 135 #[.int .i64 a0,.int .i64 a1,.int .i64 a2] w fun e w'=>e = .returned (.bool r)∧Drawn0 w w':=by
 have H : (if a0 ≥ a1 then (some (decide (a0≤a2))) else (some false)) = some r:=h
 clear h
 by_cases c4 : a0 ≥ a1
 ·rw [if_pos c4] at H
  have c4b0 : decide (a1≤a0) = true:=decide_eq_true c4
  clear c4
  obtain rfl:=Option.some.inj H
  go_enter Tryz.func135,Tryz.ntmps135
  go_wp2
  go_ret
  exact ⟨by first | rfl | (simp;done) | (simp [*];done),by repeat (first | exact Drawn0.refl _ | apply Drawn0.step)⟩
 ·rw [if_neg c4] at H
  have c4b0 : decide (a1≤a0) = false:=decide_eq_false c4
  clear c4
  obtain rfl:=Option.some.inj H
  go_enter Tryz.func135,Tryz.ntmps135
  go_wp2
  go_ret
  exact ⟨by first | rfl | (simp;done) | (simp [*];done),by repeat (first | exact Drawn0.refl _ | apply Drawn0.step)⟩
def nz_isTable_1.f (a0_0 : Int) (a0_1 : Int) (a0_2 : Int) : Option (Bool):=(nz_in.f a0_0 1 60).bind fun t1072=>(if t1072 = true then ((nz_in.f a0_1 1 60).bind fun t1073=>(if t1073 = true then ((nz_in.f a0_2 1 1000).bind fun t1074=>(some (!t1074))) else (some true))) else (some true))
theorem nz_isTable_1.calls (a0_0 : Int) (a0_1 : Int) (a0_2 : Int) (r : Bool) (w : World) (h : nz_isTable_1.f a0_0 a0_1 a0_2 = some r) :
 Calls Tryz.prog 137 #[.agg #[.int .i64 a0_0,.int .i64 a0_1,.int .i64 a0_2]] w fun e w'=>e = .returned (.bool r)∧Below w.heap.size w w':=by
 have hu126:=Tryz.underlying126
 have HB:=am (Below.refl w.heap.size w)
 have H : ((nz_in.f a0_0 1 60).bind fun t1072=>(if t1072 = true then ((nz_in.f a0_1 1 60).bind fun t1073=>(if t1073 = true then ((nz_in.f a0_2 1 1000).bind fun t1074=>(some (!t1074))) else (some true))) else (some true))) = some r:=h
 clear h
 replace H:=obm H
 obtain ⟨t1072,A20,H⟩:=H
 replace H : (if t1072 = true then ((nz_in.f a0_1 1 60).bind fun t1073=>(if t1073 = true then ((nz_in.f a0_2 1 1000).bind fun t1074=>(some (!t1074))) else (some true))) else (some true)) = some r:=H
 have A2:=am A20
 clear A20
 by_cases c3 : t1072 = true
 case neg =>
  replace c3:=Bool.eq_false_iff.mpr c3
  subst c3
  replace H : (some true) = some r:=by rw [if_neg (show ¬ (false = true) by decide)] at H;exact H
  obtain rfl:=Option.some.inj H
  go_enter Tryz.func137,Tryz.ntmps137
  go_wp2_with (first | ((refine gate_dst (N:=1) rfl ?_);refine box_event rfl (N:=1) rfl (cs:=#[.int .i64 a0_0,.int .i64 a0_1,.int .i64 a0_2]) (t:=126) ?hr ?_;(case hr=>go_simp;try rfl);intro gb1071 hg w11 hbox hb;have BK1071:=am (hbox);have GW1071:=am (ge_new (HB.out) hg);have GE1071:=am (ge_new (HB.out) hg);replace HB:=am (below_step (HB.out) hb);clear hb hbox hg;obtain ⟨hcz12_0,hcz12_1,hcz12_2⟩:=cO3 BK1071.out) | ((with_reducible refine gate_callee (f:=135) rfl ?_);refine goesL_ (some 5) rfl rfl Tryz.func135 (by kernel_rfl) rfl #[.int .i64 a0_0,.int .i64 1,.int .i64 60] rfl (by (try simp only [List.map_toArray,List.map_cons,List.map_nil]);first | done | rfl | (simp only [List.length_drop,List.length_take];rfl)) ?_;(with_reducible refine (nz_in.calls a0_0 1 60 false _ A2.out).mono ?_);rintro e w' ⟨rfl,⟨nd,rfl⟩⟩;refine ⟨_,rfl,?_⟩))
  go_ret
  exact ⟨by first | rfl | (simp [*]<;>rfl),pw_below_drewN HB.out _⟩
 subst c3
 replace H : ((nz_in.f a0_1 1 60).bind fun t1073=>(if t1073 = true then ((nz_in.f a0_2 1 1000).bind fun t1074=>(some (!t1074))) else (some true))) = some r:=by rw [if_pos rfl] at H;exact H
 replace H:=obm H
 obtain ⟨t1073,A40,H⟩:=H
 replace H : (if t1073 = true then ((nz_in.f a0_2 1 1000).bind fun t1074=>(some (!t1074))) else (some true)) = some r:=H
 have A4:=am A40
 clear A40
 by_cases c5 : t1073 = true
 case neg =>
  replace c5:=Bool.eq_false_iff.mpr c5
  subst c5
  replace H : (some true) = some r:=by rw [if_neg (show ¬ (false = true) by decide)] at H;exact H
  obtain rfl:=Option.some.inj H
  go_enter Tryz.func137,Tryz.ntmps137
  go_wp2_with (first | ((refine gate_dst (N:=1) rfl ?_);refine box_event rfl (N:=1) rfl (cs:=#[.int .i64 a0_0,.int .i64 a0_1,.int .i64 a0_2]) (t:=126) ?hr ?_;(case hr=>go_simp;try rfl);intro gb1071 hg w9 hbox hb;have BK1071:=am (hbox);have GW1071:=am (ge_new (HB.out) hg);have GE1071:=am (ge_new (HB.out) hg);replace HB:=am (below_step (HB.out) hb);clear hb hbox hg;obtain ⟨hcz10_0,hcz10_1,hcz10_2⟩:=cO3 BK1071.out) | ((with_reducible refine gate_callee (f:=135) rfl ?_);refine goesL_ (some 5) rfl rfl Tryz.func135 (by kernel_rfl) rfl #[.int .i64 a0_0,.int .i64 1,.int .i64 60] rfl (by (try simp only [List.map_toArray,List.map_cons,List.map_nil]);first | done | rfl | (simp only [List.length_drop,List.length_take];rfl)) ?_;(with_reducible refine (nz_in.calls a0_0 1 60 true _ A2.out).mono ?_);rintro e w' ⟨rfl,⟨nd,rfl⟩⟩;refine ⟨_,rfl,?_⟩) | (go_at_call 135;(with_reducible refine (nz_in.calls a0_1 1 60 false _ A4.out).mono ?_);rintro e w' ⟨rfl,⟨nd,rfl⟩⟩))
  go_ret
  exact ⟨by first | rfl | (simp [*]<;>rfl),pw_below_drewN HB.out _⟩
 subst c5
 replace H : ((nz_in.f a0_2 1 1000).bind fun t1074=>(some (!t1074))) = some r:=by rw [if_pos rfl] at H;exact H
 replace H:=obm H
 obtain ⟨t1074,A60,H⟩:=H
 replace H : (some (!t1074)) = some r:=H
 have A6:=am A60
 clear A60
 obtain rfl:=Option.some.inj H
 go_enter Tryz.func137,Tryz.ntmps137
 go_wp2_with (first | ((refine gate_dst (N:=1) rfl ?_);refine box_event rfl (N:=1) rfl (cs:=#[.int .i64 a0_0,.int .i64 a0_1,.int .i64 a0_2]) (t:=126) ?hr ?_;(case hr=>go_simp;try rfl);intro gb1071 hg w7 hbox hb;have BK1071:=am (hbox);have GW1071:=am (ge_new (HB.out) hg);have GE1071:=am (ge_new (HB.out) hg);replace HB:=am (below_step (HB.out) hb);clear hb hbox hg;obtain ⟨hcz8_0,hcz8_1,hcz8_2⟩:=cO3 BK1071.out) | ((with_reducible refine gate_callee (f:=135) rfl ?_);refine goesL_ (some 5) rfl rfl Tryz.func135 (by kernel_rfl) rfl #[.int .i64 a0_0,.int .i64 1,.int .i64 60] rfl (by (try simp only [List.map_toArray,List.map_cons,List.map_nil]);first | done | rfl | (simp only [List.length_drop,List.length_take];rfl)) ?_;(with_reducible refine (nz_in.calls a0_0 1 60 true _ A2.out).mono ?_);rintro e w' ⟨rfl,⟨nd,rfl⟩⟩;refine ⟨_,rfl,?_⟩) | (go_at_call 135;(with_reducible refine (nz_in.calls a0_1 1 60 true _ A4.out).mono ?_);rintro e w' ⟨rfl,⟨nd,rfl⟩⟩) | (go_at_call 135;(with_reducible refine (nz_in.calls a0_2 1 1000 t1074 _ A6.out).mono ?_);rintro e w' ⟨rfl,⟨nd,rfl⟩⟩))
 go_ret
 exact ⟨by first | rfl | (simp [*]<;>rfl),pw_below_drewN HB.out _⟩
end
def Pred_isTable (q : S126→Option Bool) (w : World) (xs : List S126) : Prop:=∀ (x : S126) (b : Bool) (W : World) ,x ∈ xs→q x = some b→Below w.heap.size w W→
 Calls Tryz.prog 137 #[.agg #[.int .i64 x.f0,.int .i64 x.f1,.int .i64 x.f2]] W fun e W'=>e = .returned (.bool b)∧Below W.heap.size W W'
theorem idx_isTable (q : S126→Option Bool) (A : Option Addr) (c : Nat) (xs : List S126) (r : Int) (w : World) (hr : Kd.C k126 w A xs.length xs) (hp : Pred_isTable q w xs) (h : idxM q xs 0 = some r) :
 Calls Tryz.prog 146 #[.slice A xs.length c,.func (.func 137) #[] #[]] w fun e w'=>e = .returned (.int .i64 r)∧Below w.heap.size w w':=by
 have huE:=Tryz.underlying126
 have HR:=am hr
 have HP:=am hp
 have HQ:=am (show idxM q (xs.drop (0 : Int).toNat) 0 = some r from h)
 have hm : xs.length≤9223372036854775807:=Kd.C_max hr
 clear hr hp h
 go_enter Tryz.func146,Tryz.ntmps146
 go_wp2
 go_loopw [5,8] (fun v5 v8 w'=>∃ i : Int,0≤i∧i≤xs.length∧v8 = .int .i64 i∧Aside0 (idxM q (xs.drop i.toNat) i = some r)∧Aside0 (Below w.heap.size w w')) (fun _ v8 _=>xs.length - (intOf v8).toNat)
 case atStart=>exact ⟨0,by omega,by omega,rfl,HQ,⟨Below.refl _ _⟩⟩
 case round =>
  clear HQ
  obtain ⟨i,p1,hi,rfl,HQ,HB⟩:=hrel
  by_cases hlt : i < (xs.length : Int)
  case neg =>
   go_wp2
   go_ret
   exact ⟨ret_int_eq (idxM_end (by omega) HQ.out),HB.out⟩
  obtain ⟨ad,e1,hx0,hx1,hx2⟩:=at_T126 HR.out i p1 hlt
  cases e1
  replace hx0:=(HB.out.cell (wbl hx0)).trans hx0
  replace hx1:=(HB.out.cell (wbl hx1)).trans hx1
  replace hx2:=(HB.out.cell (wbl hx2)).trans hx2
  rcases idxM_step z126 p1 hlt HQ.out with ⟨hq,he⟩ | ⟨hq,hn⟩
  ·have H1:=am hq
   have X1:=am (getD_mem z126 p1 hlt)
   have H2:=am he
   clear hq he
   go_wp2_with (go_at_call 137;refine (HP.out (xs.getD i.toNat z126) _ _ X1.out H1.out HB.out).mono ?_;rintro e W' ⟨rfl,hb⟩)
   go_ret
   exact ⟨ret_int_eq H2.out,below_then HB.out HB.out.size hb⟩
  ·have H1:=am hq
   have X1:=am (getD_mem z126 p1 hlt)
   have H2:=am hn
   clear hq hn
   go_wp2_with (go_at_call 137;refine (HP.out (xs.getD i.toNat z126) _ _ X1.out H1.out HB.out).mono ?_;rintro e W' ⟨rfl,hb⟩)
   go_roundw
   case rel=>exact ⟨i + 1,by omega,by omega,by go_num,H2,⟨below_then HB.out HB.out.size hb⟩⟩
   case measure=>simp [intOf];omega
theorem any_isTable (q : S126→Option Bool) (A : Option Addr) (c : Nat) (xs : List S126) (r : Bool) (w : World) (hr : Kd.C k126 w A xs.length xs) (hp : Pred_isTable q w xs) (h : anyM q xs = some r) :
 Calls Tryz.prog 136 #[.slice A xs.length c,.func (.func 137) #[] #[]] w fun e w'=>e = .returned (.bool r)∧Below w.heap.size w w':=by
 obtain ⟨j,hj,hd⟩:=idxM_of_anyM q xs 0 r (by omega) h
 have H1:=am hj
 have H2:=am hd
 have HR:=am hr
 have HP:=am hp
 clear hr hp h hj hd
 go_enter Tryz.func136,Tryz.ntmps136
 go_wp2_with (go_at_call 146;refine (idx_isTable q _ _ xs j _ HR.out HP.out H1.out).mono ?_;rintro e W' ⟨rfl,hb⟩)
 go_ret
 exact ⟨ret_bool_eq H2.out,hb⟩
def cf_isTable.f (l0 : List S126) : Option Bool:=anyM (fun x=>nz_isTable_1.f x.f0 x.f1 x.f2) l0
theorem cf_isTable.calls (A0 : Option Addr) (c0 : Nat) (l0 : List S126) (r : Bool) (w : World) (hr0 : Kd.C k126 w A0 l0.length l0) (hc0 : l0.length≤c0) (h : cf_isTable.f l0 = some r) :
 Calls Tryz.prog 136 #[.slice A0 l0.length c0,.func (.func 137) #[] #[]] w fun e w'=>e = .returned (.bool r)∧Below w.heap.size w w':=
 any_isTable (fun x=>nz_isTable_1.f x.f0 x.f1 x.f2) A0 c0 l0 r w hr0 (fun x b W hx hq hb=>(nz_isTable_1.calls _ _ _ b W hq).mono fun e W' ⟨he,hd⟩=>⟨he,hd⟩) h
section
attribute [local go_sem] max2_int min2_int max_two min_two
def nz_isTable.f (l0_0 : List (S126)) (a0_1 : Int) : Option (Bool):=(nz_in.f (l0_0.length : Int) 1 12).bind fun t132=>(if t132 = true then ((nz_in.f a0_1 0 100).bind fun t133=>(if t133 = true then ((cf_isTable.f l0_0).bind fun t134=>(some (!t134))) else (some false))) else (some false))
theorem nz_isTable.calls (A0_0 : Option Addr) (c0_0 : Nat) (l0_0 : List (S126)) (a0_1 : Int) (r : Bool) (w : World) (hr0_0 : Kd.C k126 w A0_0 l0_0.length l0_0) (hc0_0 : l0_0.length≤c0_0) (h : nz_isTable.f l0_0 a0_1 = some r) :
 Calls Tryz.prog 127 #[.agg #[.slice A0_0 l0_0.length c0_0,.int .i64 a0_1]] w fun e w'=>e = .returned (.bool r)∧Below w.heap.size w w':=by
 have hu24:=Tryz.underlying24
 have HR0_0:=am hr0_0
 have HC0_0:=am hc0_0
 clear hr0_0 hc0_0
 have HB:=am (Below.refl w.heap.size w)
 have H : ((nz_in.f (l0_0.length : Int) 1 12).bind fun t132=>(if t132 = true then ((nz_in.f a0_1 0 100).bind fun t133=>(if t133 = true then ((cf_isTable.f l0_0).bind fun t134=>(some (!t134))) else (some false))) else (some false))) = some r:=h
 clear h
 replace H:=obm H
 obtain ⟨t132,A20,H⟩:=H
 replace H : (if t132 = true then ((nz_in.f a0_1 0 100).bind fun t133=>(if t133 = true then ((cf_isTable.f l0_0).bind fun t134=>(some (!t134))) else (some false))) else (some false)) = some r:=H
 have A2:=am A20
 clear A20
 by_cases c3 : t132 = true
 case neg =>
  replace c3:=Bool.eq_false_iff.mpr c3
  subst c3
  replace H : (some false) = some r:=by rw [if_neg (show ¬ (false = true) by decide)] at H;exact H
  obtain rfl:=Option.some.inj H
  go_enter Tryz.func127,Tryz.ntmps127
  go_wp2_with (first | ((refine gate_dst (N:=1) rfl ?_);refine box_event rfl (N:=1) rfl (cs:=#[.slice A0_0 l0_0.length c0_0,.int .i64 a0_1]) (t:=24) ?hr ?_;(case hr=>go_simp;try rfl);intro gb131 hg w12 hbox hb;have BK131:=am (hbox);have GW131:=am (ge_new (HB.out) hg);have GE131:=am (ge_new (HB.out) hg);replace HB:=am (below_step (HB.out) hb);clear hb hbox hg;obtain ⟨hcz13_0,hcz13_1⟩:=cO2 BK131.out) | ((with_reducible refine gate_callee (f:=135) rfl ?_);refine goesL_ (some 6) rfl rfl Tryz.func135 (by kernel_rfl) rfl #[.int .i64 (l0_0.length : Int),.int .i64 1,.int .i64 12] rfl (by (try simp only [List.map_toArray,List.map_cons,List.map_nil]);first | done | rfl | (simp only [List.length_drop,List.length_take];rfl)) ?_;(refine (nz_in.calls (l0_0.length : Int) 1 12 false _ A2.out).mono ?_);rintro e w' ⟨rfl,⟨nd,rfl⟩⟩;refine ⟨_,rfl,?_⟩))
  go_ret
  exact ⟨by first | rfl | (simp [*]<;>rfl),pw_below_drewN HB.out _⟩
 subst c3
 replace H : ((nz_in.f a0_1 0 100).bind fun t133=>(if t133 = true then ((cf_isTable.f l0_0).bind fun t134=>(some (!t134))) else (some false))) = some r:=by rw [if_pos rfl] at H;exact H
 replace H:=obm H
 obtain ⟨t133,A40,H⟩:=H
 replace H : (if t133 = true then ((cf_isTable.f l0_0).bind fun t134=>(some (!t134))) else (some false)) = some r:=H
 have A4:=am A40
 clear A40
 by_cases c5 : t133 = true
 case neg =>
  replace c5:=Bool.eq_false_iff.mpr c5
  subst c5
  replace H : (some false) = some r:=by rw [if_neg (show ¬ (false = true) by decide)] at H;exact H
  obtain rfl:=Option.some.inj H
  go_enter Tryz.func127,Tryz.ntmps127
  go_wp2_with (first | ((refine gate_dst (N:=1) rfl ?_);refine box_event rfl (N:=1) rfl (cs:=#[.slice A0_0 l0_0.length c0_0,.int .i64 a0_1]) (t:=24) ?hr ?_;(case hr=>go_simp;try rfl);intro gb131 hg w10 hbox hb;have BK131:=am (hbox);have GW131:=am (ge_new (HB.out) hg);have GE131:=am (ge_new (HB.out) hg);replace HB:=am (below_step (HB.out) hb);clear hb hbox hg;obtain ⟨hcz11_0,hcz11_1⟩:=cO2 BK131.out) | ((with_reducible refine gate_callee (f:=135) rfl ?_);refine goesL_ (some 6) rfl rfl Tryz.func135 (by kernel_rfl) rfl #[.int .i64 (l0_0.length : Int),.int .i64 1,.int .i64 12] rfl (by (try simp only [List.map_toArray,List.map_cons,List.map_nil]);first | done | rfl | (simp only [List.length_drop,List.length_take];rfl)) ?_;(refine (nz_in.calls (l0_0.length : Int) 1 12 true _ A2.out).mono ?_);rintro e w' ⟨rfl,⟨nd,rfl⟩⟩;refine ⟨_,rfl,?_⟩) | (go_at_call 135;(refine (nz_in.calls a0_1 0 100 false _ A4.out).mono ?_);rintro e w' ⟨rfl,⟨nd,rfl⟩⟩))
  go_ret
  exact ⟨by first | rfl | (simp [*]<;>rfl),pw_below_drewN HB.out _⟩
 subst c5
 replace H : ((cf_isTable.f l0_0).bind fun t134=>(some (!t134))) = some r:=by rw [if_pos rfl] at H;exact H
 replace H:=obm H
 obtain ⟨t134,A60,H⟩:=H
 replace H : (some (!t134)) = some r:=H
 have A6:=am A60
 clear A60
 obtain rfl:=Option.some.inj H
 go_enter Tryz.func127,Tryz.ntmps127
 go_wp2_with (first | ((refine gate_dst (N:=1) rfl ?_);refine box_event rfl (N:=1) rfl (cs:=#[.slice A0_0 l0_0.length c0_0,.int .i64 a0_1]) (t:=24) ?hr ?_;(case hr=>go_simp;try rfl);intro gb131 hg w7 hbox hb;have BK131:=am (hbox);have GW131:=am (ge_new (HB.out) hg);have GE131:=am (ge_new (HB.out) hg);replace HB:=am (below_step (HB.out) hb);clear hb hbox hg;obtain ⟨hcz8_0,hcz8_1⟩:=cO2 BK131.out) | ((with_reducible refine gate_callee (f:=135) rfl ?_);refine goesL_ (some 6) rfl rfl Tryz.func135 (by kernel_rfl) rfl #[.int .i64 (l0_0.length : Int),.int .i64 1,.int .i64 12] rfl (by (try simp only [List.map_toArray,List.map_cons,List.map_nil]);first | done | rfl | (simp only [List.length_drop,List.length_take];rfl)) ?_;(refine (nz_in.calls (l0_0.length : Int) 1 12 true _ A2.out).mono ?_);rintro e w' ⟨rfl,⟨nd,rfl⟩⟩;refine ⟨_,rfl,?_⟩) | (go_at_call 135;(refine (nz_in.calls a0_1 0 100 true _ A4.out).mono ?_);rintro e w' ⟨rfl,⟨nd,rfl⟩⟩) | (go_at_call 136;(refine (cf_isTable.calls _ _ l0_0  t134 _ ?side1 ?side2 A6.out).mono ?_);(case side1=>repeat (first | exact (kC HR0_0.out (pw_below_drewN HB.out _)) | (with_reducible refine Kd.C_alloc ?_ _) | (with_reducible refine Kd.C_drewN ?_ _) | (with_reducible refine Kd.C_drew ?_)));(case side2=>exact HC0_0.out);rintro e w9 ⟨rfl,hb⟩;replace BK131:=(kmv hb BK131);replace HB:=am (below_step (pw_below_drewN HB.out _) hb);(try clear hb);(try clear hb2);(try clear hk);(try clear hi)))
 go_ret
 exact ⟨by first | rfl | (simp [*]<;>rfl),HB.out⟩
def nz_Check.f (l0_0 : List (S126)) (a0_1 : Int) : Option (Int):=(nz_isTable.f l0_0 a0_1).bind fun t136=>(if t136 = true then (some 0) else (some 2))
theorem nz_Check.calls (A0_0 : Option Addr) (c0_0 : Nat) (l0_0 : List (S126)) (a0_1 : Int) (r : Int) (w : World) (hr0_0 : Kd.C k126 w A0_0 l0_0.length l0_0) (hc0_0 : l0_0.length≤c0_0) (h : nz_Check.f l0_0 a0_1 = some r) :
 Calls Tryz.prog 103 #[.agg #[.slice A0_0 l0_0.length c0_0,.int .i64 a0_1]] w fun e w'=>e = .returned (.int .i64 r)∧Below w.heap.size w w':=by
 have hu24:=Tryz.underlying24
 have HR0_0:=am hr0_0
 have HC0_0:=am hc0_0
 clear hr0_0 hc0_0
 have HB:=am (Below.refl w.heap.size w)
 have H : ((nz_isTable.f l0_0 a0_1).bind fun t136=>(if t136 = true then (some 0) else (some 2))) = some r:=h
 clear h
 replace H:=obm H
 obtain ⟨t136,A20,H⟩:=H
 replace H : (if t136 = true then (some 0) else (some 2)) = some r:=H
 have A2:=am A20
 clear A20
 by_cases c3 : t136 = true
 ·subst c3
  replace H : (some 0) = some r:=by rw [if_pos rfl] at H;exact H
  obtain rfl:=Option.some.inj H
  go_enter Tryz.func103,Tryz.ntmps103
  go_wp2_with (first | ((refine gate_dst (N:=1) rfl ?_);refine box_event rfl (N:=1) rfl (cs:=#[.slice A0_0 l0_0.length c0_0,.int .i64 a0_1]) (t:=24) ?hr ?_;(case hr=>go_simp;try rfl);intro gb135 hg w4 hbox hb;have BK135:=am (hbox);have GW135:=am (ge_new (HB.out) hg);have GE135:=am (ge_new (HB.out) hg);replace HB:=am (below_step (HB.out) hb);clear hb hbox hg;obtain ⟨hcz5_0,hcz5_1⟩:=cO2 BK135.out) | ((with_reducible refine gate_callee (f:=127) rfl ?_);refine goesL_ (some 4) rfl rfl Tryz.func127 (by kernel_rfl) rfl #[.agg #[.slice A0_0 l0_0.length c0_0,.int .i64 a0_1]] rfl (by (try simp only [List.map_toArray,List.map_cons,List.map_nil]);first | done | rfl | (simp only [List.length_drop,List.length_take];rfl)) ?_;(refine (nz_isTable.calls _ _ l0_0 a0_1 true _ ?side1 ?side2 A2.out).mono ?_);(case side1=>exact kC HR0_0.out HB.out);(case side2=>exact HC0_0.out);rintro e w6 ⟨rfl,hb⟩;refine ⟨_,rfl,?_⟩;replace BK135:=(kmv hb BK135);replace HB:=am (below_step (HB.out) hb);(try clear hb);(try clear hb2);(try clear hk);(try clear hi)))
  go_ret
  exact ⟨by first | rfl | (simp [*]<;>rfl),HB.out⟩
 ·replace c3:=Bool.eq_false_iff.mpr c3
  subst c3
  replace H : (some 2) = some r:=by rw [if_neg (show ¬ (false = true) by decide)] at H;exact H
  obtain rfl:=Option.some.inj H
  go_enter Tryz.func103,Tryz.ntmps103
  go_wp2_with (first | ((refine gate_dst (N:=1) rfl ?_);refine box_event rfl (N:=1) rfl (cs:=#[.slice A0_0 l0_0.length c0_0,.int .i64 a0_1]) (t:=24) ?hr ?_;(case hr=>go_simp;try rfl);intro gb135 hg w7 hbox hb;have BK135:=am (hbox);have GW135:=am (ge_new (HB.out) hg);have GE135:=am (ge_new (HB.out) hg);replace HB:=am (below_step (HB.out) hb);clear hb hbox hg;obtain ⟨hcz8_0,hcz8_1⟩:=cO2 BK135.out) | ((with_reducible refine gate_callee (f:=127) rfl ?_);refine goesL_ (some 4) rfl rfl Tryz.func127 (by kernel_rfl) rfl #[.agg #[.slice A0_0 l0_0.length c0_0,.int .i64 a0_1]] rfl (by (try simp only [List.map_toArray,List.map_cons,List.map_nil]);first | done | rfl | (simp only [List.length_drop,List.length_take];rfl)) ?_;(refine (nz_isTable.calls _ _ l0_0 a0_1 false _ ?side1 ?side2 A2.out).mono ?_);(case side1=>exact kC HR0_0.out HB.out);(case side2=>exact HC0_0.out);rintro e w9 ⟨rfl,hb⟩;refine ⟨_,rfl,?_⟩;replace BK135:=(kmv hb BK135);replace HB:=am (below_step (HB.out) hb);(try clear hb);(try clear hb2);(try clear hk);(try clear hi)))
  go_ret
  exact ⟨by first | rfl | (simp [*]<;>rfl),HB.out⟩
def ca_in.f (a0 : Int) (a1 : Int) (a2 : Int) : Option (Bool):=if a0 ≥ a1 then (some (decide (a0≤a2))) else (some false)
theorem ca_in.calls (a0 : Int) (a1 : Int) (a2 : Int) (r : Bool) (w : World) (h : ca_in.f a0 a1 a2 = some r) :
 Calls Tryz.prog 79 #[.int .i64 a0,.int .i64 a1,.int .i64 a2] w fun e w'=>e = .returned (.bool r)∧Drawn0 w w':=by
 have H : (if a0 ≥ a1 then (some (decide (a0≤a2))) else (some false)) = some r:=h
 clear h
 by_cases c4 : a0 ≥ a1
 ·rw [if_pos c4] at H
  have c4b0 : decide (a1≤a0) = true:=decide_eq_true c4
  clear c4
  obtain rfl:=Option.some.inj H
  go_enter Tryz.func79,Tryz.ntmps79
  go_wp2
  go_ret
  exact ⟨by first | rfl | (simp;done) | (simp [*];done),by repeat (first | exact Drawn0.refl _ | apply Drawn0.step)⟩
 ·rw [if_neg c4] at H
  have c4b0 : decide (a1≤a0) = false:=decide_eq_false c4
  clear c4
  obtain rfl:=Option.some.inj H
  go_enter Tryz.func79,Tryz.ntmps79
  go_wp2
  go_ret
  exact ⟨by first | rfl | (simp;done) | (simp [*];done),by repeat (first | exact Drawn0.refl _ | apply Drawn0.step)⟩
def ca_isHeight.f (a0 : Int) : Option (Bool):=(ca_in.f a0 0 40).bind fun t130=>(some t130)
theorem ca_isHeight.calls (a0 : Int) (r : Bool) (w : World) (h : ca_isHeight.f a0 = some r) :
 Calls Tryz.prog 86 #[.int .i64 a0] w fun e w'=>e = .returned (.bool r)∧Drawn0 w w':=by
 have H : ((ca_in.f a0 0 40).bind fun t130=>(some t130)) = some r:=h
 clear h
 replace H:=obm H
 obtain ⟨t130,A20,H⟩:=H
 replace H : (some t130) = some r:=H
 have A2:=am A20
 clear A20
 obtain rfl:=Option.some.inj H
 go_enter Tryz.func86,Tryz.ntmps86
 go_wp2_with (first | ((with_reducible refine gate_callee (f:=79) rfl ?_);refine goesL_ (some 4) rfl rfl Tryz.func79 (by kernel_rfl) rfl #[.int .i64 a0,.int .i64 0,.int .i64 40] rfl (by (try simp only [List.map_toArray,List.map_cons,List.map_nil]);first | done | rfl | (simp only [List.length_drop,List.length_take];rfl)) ?_;(with_reducible refine (ca_in.calls a0 0 40 t130 _ A2.out).mono ?_);rintro e w' ⟨rfl,⟨nd,rfl⟩⟩;refine ⟨_,rfl,?_⟩))
 go_ret
 exact ⟨by first | rfl | (simp;done) | (simp [*];done),by repeat (first | exact Drawn0.refl _ | apply Drawn0.step)⟩
end
def ca_isBasin_1.f (l0_0 : List S126) (x : S48) : Option Bool:=(ca_in.f x.f0 0 (wrap64 ((l0_0.length : Int) - 1))).bind fun t=>if t = true then (ca_isHeight.f x.f1).bind fun u=>some (!u) else some true
theorem ca_isBasin_1.calls (g : Nat) (A0_0 : Option Addr) (c0_0 : Nat) (l0_0 : List S126) (a0_1 : Int) (A0_2 : Option Addr) (c0_2 : Nat) (l0_2 : List S48) (a0_3 a0_4 : Int) (x : S48) (r : Bool) (w : World) (hb : w.heap[g]? = some (.cells #[.slice A0_0 l0_0.length c0_0,.int .i64 a0_1,.slice A0_2 l0_2.length c0_2,.int .i64 a0_3,.int .i64 a0_4] 27 (0,0))) (h : ca_isBasin_1.f l0_0 x = some r) :
 Calls Tryz.prog 102 #[.agg #[.int .i64 x.f0,.int .i64 x.f1],.pointer (some ⟨g,0,none⟩)] w fun e w'=>e = .returned (.bool r)∧Below w.heap.size w w':=by
 have hu:=Tryz.underlying27
 have huz:=Tryz.underlying48
 have hut:=Tryz.underlying24
 have HB:=am (Below.refl w.heap.size w)
 have BKg:=am hb
 clear hb
 unfold ca_isBasin_1.f at h
 obtain ⟨t,ht,h⟩:=obm h
 have H1:=am ht
 clear ht
 cases t with
 | true =>
  rw [if_pos rfl] at h
  obtain ⟨u,hu2,h⟩:=obm h
  obtain rfl:=Option.some.inj h
  have H2:=am hu2
  clear hu2 h
  go_enter Tryz.func102,Tryz.ntmps102
  go_wp2_with (first | ((refine gate_dst (N:=2) rfl ?_);(try (refine gate_guard (by rfl) ?_;dsimp only));refine box_event rfl (N:=2) rfl (cs:=#[.int .i64 x.f0,.int .i64 x.f1]) (t:=48) ?hr ?_;(case hr=>go_simp;try rfl);intro q hg w2 hbox hb;replace HB:=(bmv HB hb);replace BKg:=(kmv hb BKg);clear hg;have BKq:=am hbox;clear hbox;(try clear hczg_0 hczg_1 hczg_2 hczg_3 hczg_4);obtain ⟨hczg_0,hczg_1,hczg_2,hczg_3,hczg_4⟩:=cO5 BKg.out;(try clear hczq_0 hczq_1);obtain ⟨hczq_0,hczq_1⟩:=cO2 BKq.out;clear hb) | (go_at_call 79;(with_reducible refine (ca_in.calls x.f0 0 (wrap64 ((l0_0.length : Int) - 1)) true _ H1.out).mono ?_);rintro e w1 ⟨rfl,hd⟩;have hb:=hd.below;clear hd;replace HB:=(bmv HB hb);replace BKg:=(kmv hb BKg);replace BKq:=(kmv hb BKq);(try clear hczg_0 hczg_1 hczg_2 hczg_3 hczg_4);obtain ⟨hczg_0,hczg_1,hczg_2,hczg_3,hczg_4⟩:=cO5 BKg.out;(try clear hczq_0 hczq_1);obtain ⟨hczq_0,hczq_1⟩:=cO2 BKq.out;clear hb) | (go_at_call 86;(with_reducible refine (ca_isHeight.calls x.f1 u _ H2.out).mono ?_);rintro e w1 ⟨rfl,hd⟩;have hb:=hd.below;clear hd;replace HB:=(bmv HB hb);replace BKg:=(kmv hb BKg);replace BKq:=(kmv hb BKq);(try clear hczg_0 hczg_1 hczg_2 hczg_3 hczg_4);obtain ⟨hczg_0,hczg_1,hczg_2,hczg_3,hczg_4⟩:=cO5 BKg.out;(try clear hczq_0 hczq_1);obtain ⟨hczq_0,hczq_1⟩:=cO2 BKq.out;clear hb))
  go_ret
  exact ⟨rfl,HB.out⟩
 | false =>
  rw [if_neg (by decide)] at h
  obtain rfl:=Option.some.inj h
  clear h
  go_enter Tryz.func102,Tryz.ntmps102
  go_wp2_with (first | ((refine gate_dst (N:=2) rfl ?_);(try (refine gate_guard (by rfl) ?_;dsimp only));refine box_event rfl (N:=2) rfl (cs:=#[.int .i64 x.f0,.int .i64 x.f1]) (t:=48) ?hr ?_;(case hr=>go_simp;try rfl);intro q hg w2 hbox hb;replace HB:=(bmv HB hb);replace BKg:=(kmv hb BKg);clear hg;have BKq:=am hbox;clear hbox;(try clear hczg_0 hczg_1 hczg_2 hczg_3 hczg_4);obtain ⟨hczg_0,hczg_1,hczg_2,hczg_3,hczg_4⟩:=cO5 BKg.out;(try clear hczq_0 hczq_1);obtain ⟨hczq_0,hczq_1⟩:=cO2 BKq.out;clear hb) | (go_at_call 79;(with_reducible refine (ca_in.calls x.f0 0 (wrap64 ((l0_0.length : Int) - 1)) false _ H1.out).mono ?_);rintro e w1 ⟨rfl,hd⟩;have hb:=hd.below;clear hd;replace HB:=(bmv HB hb);replace BKg:=(kmv hb BKg);replace BKq:=(kmv hb BKq);(try clear hczg_0 hczg_1 hczg_2 hczg_3 hczg_4);obtain ⟨hczg_0,hczg_1,hczg_2,hczg_3,hczg_4⟩:=cO5 BKg.out;(try clear hczq_0 hczq_1);obtain ⟨hczq_0,hczq_1⟩:=cO2 BKq.out;clear hb))
  go_ret
  exact ⟨rfl,HB.out⟩
def ca_isBasin.f (l0_0 : List S126) (a0_1 : Int) (l0_2 : List S48) (a0_3 a0_4 : Int) : Option Bool:=
 (nz_Check.f l0_0 a0_1).bind fun t1=>if t1 = 0 then (ca_in.f (l0_2.length : Int) 1 6).bind fun t2=>(if t2 = true then (ca_isHeight.f a0_3).bind fun t3=>(if t3 = true then (ca_in.f a0_4 0 100).bind fun t4=>(if t4 = true then (anyM (ca_isBasin_1.f l0_0) l0_2).bind fun u=>some (!u) else some false) else some false) else some false) else some false
theorem ca_isBasin.calls (A0_0 : Option Addr) (c0_0 : Nat) (l0_0 : List S126) (a0_1 : Int) (A0_2 : Option Addr) (c0_2 : Nat) (l0_2 : List S48) (a0_3 a0_4 : Int) (r : Bool) (w : World) (hr0_0 : Kd.C k126 w A0_0 l0_0.length l0_0) (hc0_0 : l0_0.length≤c0_0) (hr0_2 : Kd.C k48 w A0_2 l0_2.length l0_2) (hc0_2 : l0_2.length≤c0_2) (h : ca_isBasin.f l0_0 a0_1 l0_2 a0_3 a0_4 = some r) :
 Calls Tryz.prog 64 #[.agg #[.slice A0_0 l0_0.length c0_0,.int .i64 a0_1,.slice A0_2 l0_2.length c0_2,.int .i64 a0_3,.int .i64 a0_4]] w fun e w'=>e = .returned (.bool r)∧Below w.heap.size w w':=by
 have hu:=Tryz.underlying27
 have hut:=Tryz.underlying24
 have hm : l0_2.length≤9223372036854775807:=Kd.C_max hr0_2
 have HR:=am hr0_0
 have HC:=am hc0_0
 have HR2:=am hr0_2
 have HC2:=am hc0_2
 have HB:=am (Below.refl w.heap.size w)
 clear hr0_0 hc0_0 hr0_2 hc0_2
 unfold ca_isBasin.f at h
 obtain ⟨t1,ht,h⟩:=obm h
 have H1:=am ht
 clear ht
 by_cases h1 : t1 = 0
 case neg =>
  rw [if_neg h1] at h
  obtain rfl:=Option.some.inj h
  clear h
  have b1 : (t1 == 0) = false:=beq_eq_false_iff_ne.2 h1
  clear h1
  go_enter Tryz.func64,Tryz.ntmps64
  go_wp2_with (first | ((refine gate_dst (N:=1) rfl ?_);(try (refine gate_guard (by rfl) ?_;dsimp only));refine box_event rfl (N:=1) rfl (cs:=#[.slice A0_0 l0_0.length c0_0,.int .i64 a0_1,.slice A0_2 l0_2.length c0_2,.int .i64 a0_3,.int .i64 a0_4]) (t:=27) ?hr ?_;(case hr=>go_simp;try rfl);intro g hg w2 hbox hb;replace HR:=(cmv HR hb);replace HR2:=(cmv HR2 hb);replace HB:=(bmv HB hb);clear hg;have BKg:=am hbox;clear hbox;(try clear hczg_0 hczg_1 hczg_2 hczg_3 hczg_4);obtain ⟨hczg_0,hczg_1,hczg_2,hczg_3,hczg_4⟩:=cO5 BKg.out;clear hb) | (go_at_call 103;(with_reducible refine (nz_Check.calls A0_0 c0_0 l0_0 a0_1 t1 _ HR.out HC.out H1.out).mono ?_);rintro e w1 ⟨rfl,hb⟩;replace HR:=(cmv HR hb);replace HR2:=(cmv HR2 hb);replace HB:=(bmv HB hb);replace BKg:=(kmv hb BKg);(try clear hczg_0 hczg_1 hczg_2 hczg_3 hczg_4);obtain ⟨hczg_0,hczg_1,hczg_2,hczg_3,hczg_4⟩:=cO5 BKg.out;clear hb))
  go_ret
  exact ⟨rfl,HB.out⟩
 subst h1
 rw [if_pos rfl] at h
 obtain ⟨t2,ht,h⟩:=obm h
 have H2:=am ht
 clear ht
 cases t2 with
 | false =>
  rw [if_neg (by decide)] at h
  obtain rfl:=Option.some.inj h
  clear h
  go_enter Tryz.func64,Tryz.ntmps64
  go_wp2_with (first | ((refine gate_dst (N:=1) rfl ?_);(try (refine gate_guard (by rfl) ?_;dsimp only));refine box_event rfl (N:=1) rfl (cs:=#[.slice A0_0 l0_0.length c0_0,.int .i64 a0_1,.slice A0_2 l0_2.length c0_2,.int .i64 a0_3,.int .i64 a0_4]) (t:=27) ?hr ?_;(case hr=>go_simp;try rfl);intro g hg w2 hbox hb;replace HR:=(cmv HR hb);replace HR2:=(cmv HR2 hb);replace HB:=(bmv HB hb);clear hg;have BKg:=am hbox;clear hbox;(try clear hczg_0 hczg_1 hczg_2 hczg_3 hczg_4);obtain ⟨hczg_0,hczg_1,hczg_2,hczg_3,hczg_4⟩:=cO5 BKg.out;clear hb) | (go_at_call 103;(with_reducible refine (nz_Check.calls A0_0 c0_0 l0_0 a0_1 0 _ HR.out HC.out H1.out).mono ?_);rintro e w1 ⟨rfl,hb⟩;replace HR:=(cmv HR hb);replace HR2:=(cmv HR2 hb);replace HB:=(bmv HB hb);replace BKg:=(kmv hb BKg);(try clear hczg_0 hczg_1 hczg_2 hczg_3 hczg_4);obtain ⟨hczg_0,hczg_1,hczg_2,hczg_3,hczg_4⟩:=cO5 BKg.out;clear hb) | (go_at_call 79;(with_reducible refine (ca_in.calls (l0_2.length : Int) 1 6 false _ H2.out).mono ?_);rintro e w1 ⟨rfl,hd⟩;have hb:=hd.below;clear hd;replace HR:=(cmv HR hb);replace HR2:=(cmv HR2 hb);replace HB:=(bmv HB hb);replace BKg:=(kmv hb BKg);(try clear hczg_0 hczg_1 hczg_2 hczg_3 hczg_4);obtain ⟨hczg_0,hczg_1,hczg_2,hczg_3,hczg_4⟩:=cO5 BKg.out;clear hb))
  go_ret
  exact ⟨rfl,HB.out⟩
 | true =>
  rw [if_pos rfl] at h
  obtain ⟨t3,ht,h⟩:=obm h
  have H3:=am ht
  clear ht
  cases t3 with
  | false =>
   rw [if_neg (by decide)] at h
   obtain rfl:=Option.some.inj h
   clear h
   go_enter Tryz.func64,Tryz.ntmps64
   go_wp2_with (first | ((refine gate_dst (N:=1) rfl ?_);(try (refine gate_guard (by rfl) ?_;dsimp only));refine box_event rfl (N:=1) rfl (cs:=#[.slice A0_0 l0_0.length c0_0,.int .i64 a0_1,.slice A0_2 l0_2.length c0_2,.int .i64 a0_3,.int .i64 a0_4]) (t:=27) ?hr ?_;(case hr=>go_simp;try rfl);intro g hg w2 hbox hb;replace HR:=(cmv HR hb);replace HR2:=(cmv HR2 hb);replace HB:=(bmv HB hb);clear hg;have BKg:=am hbox;clear hbox;(try clear hczg_0 hczg_1 hczg_2 hczg_3 hczg_4);obtain ⟨hczg_0,hczg_1,hczg_2,hczg_3,hczg_4⟩:=cO5 BKg.out;clear hb) | (go_at_call 103;(with_reducible refine (nz_Check.calls A0_0 c0_0 l0_0 a0_1 0 _ HR.out HC.out H1.out).mono ?_);rintro e w1 ⟨rfl,hb⟩;replace HR:=(cmv HR hb);replace HR2:=(cmv HR2 hb);replace HB:=(bmv HB hb);replace BKg:=(kmv hb BKg);(try clear hczg_0 hczg_1 hczg_2 hczg_3 hczg_4);obtain ⟨hczg_0,hczg_1,hczg_2,hczg_3,hczg_4⟩:=cO5 BKg.out;clear hb) | (go_at_call 79;(with_reducible refine (ca_in.calls (l0_2.length : Int) 1 6 true _ H2.out).mono ?_);rintro e w1 ⟨rfl,hd⟩;have hb:=hd.below;clear hd;replace HR:=(cmv HR hb);replace HR2:=(cmv HR2 hb);replace HB:=(bmv HB hb);replace BKg:=(kmv hb BKg);(try clear hczg_0 hczg_1 hczg_2 hczg_3 hczg_4);obtain ⟨hczg_0,hczg_1,hczg_2,hczg_3,hczg_4⟩:=cO5 BKg.out;clear hb) | (go_at_call 86;(with_reducible refine (ca_isHeight.calls a0_3 false _ H3.out).mono ?_);rintro e w1 ⟨rfl,hd⟩;have hb:=hd.below;clear hd;replace HR:=(cmv HR hb);replace HR2:=(cmv HR2 hb);replace HB:=(bmv HB hb);replace BKg:=(kmv hb BKg);(try clear hczg_0 hczg_1 hczg_2 hczg_3 hczg_4);obtain ⟨hczg_0,hczg_1,hczg_2,hczg_3,hczg_4⟩:=cO5 BKg.out;clear hb))
   go_ret
   exact ⟨rfl,HB.out⟩
  | true =>
   rw [if_pos rfl] at h
   obtain ⟨t4,ht,h⟩:=obm h
   have H4:=am ht
   clear ht
   cases t4 with
   | false =>
    rw [if_neg (by decide)] at h
    obtain rfl:=Option.some.inj h
    clear h
    go_enter Tryz.func64,Tryz.ntmps64
    go_wp2_with (first | ((refine gate_dst (N:=1) rfl ?_);(try (refine gate_guard (by rfl) ?_;dsimp only));refine box_event rfl (N:=1) rfl (cs:=#[.slice A0_0 l0_0.length c0_0,.int .i64 a0_1,.slice A0_2 l0_2.length c0_2,.int .i64 a0_3,.int .i64 a0_4]) (t:=27) ?hr ?_;(case hr=>go_simp;try rfl);intro g hg w2 hbox hb;replace HR:=(cmv HR hb);replace HR2:=(cmv HR2 hb);replace HB:=(bmv HB hb);clear hg;have BKg:=am hbox;clear hbox;(try clear hczg_0 hczg_1 hczg_2 hczg_3 hczg_4);obtain ⟨hczg_0,hczg_1,hczg_2,hczg_3,hczg_4⟩:=cO5 BKg.out;clear hb) | (go_at_call 103;(with_reducible refine (nz_Check.calls A0_0 c0_0 l0_0 a0_1 0 _ HR.out HC.out H1.out).mono ?_);rintro e w1 ⟨rfl,hb⟩;replace HR:=(cmv HR hb);replace HR2:=(cmv HR2 hb);replace HB:=(bmv HB hb);replace BKg:=(kmv hb BKg);(try clear hczg_0 hczg_1 hczg_2 hczg_3 hczg_4);obtain ⟨hczg_0,hczg_1,hczg_2,hczg_3,hczg_4⟩:=cO5 BKg.out;clear hb) | (go_at_call 79;(with_reducible refine (ca_in.calls (l0_2.length : Int) 1 6 true _ H2.out).mono ?_);rintro e w1 ⟨rfl,hd⟩;have hb:=hd.below;clear hd;replace HR:=(cmv HR hb);replace HR2:=(cmv HR2 hb);replace HB:=(bmv HB hb);replace BKg:=(kmv hb BKg);(try clear hczg_0 hczg_1 hczg_2 hczg_3 hczg_4);obtain ⟨hczg_0,hczg_1,hczg_2,hczg_3,hczg_4⟩:=cO5 BKg.out;clear hb) | (go_at_call 86;(with_reducible refine (ca_isHeight.calls a0_3 true _ H3.out).mono ?_);rintro e w1 ⟨rfl,hd⟩;have hb:=hd.below;clear hd;replace HR:=(cmv HR hb);replace HR2:=(cmv HR2 hb);replace HB:=(bmv HB hb);replace BKg:=(kmv hb BKg);(try clear hczg_0 hczg_1 hczg_2 hczg_3 hczg_4);obtain ⟨hczg_0,hczg_1,hczg_2,hczg_3,hczg_4⟩:=cO5 BKg.out;clear hb) | (go_at_call 79;(with_reducible refine (ca_in.calls a0_4 0 100 false _ H4.out).mono ?_);rintro e w1 ⟨rfl,hd⟩;have hb:=hd.below;clear hd;replace HR:=(cmv HR hb);replace HR2:=(cmv HR2 hb);replace HB:=(bmv HB hb);replace BKg:=(kmv hb BKg);(try clear hczg_0 hczg_1 hczg_2 hczg_3 hczg_4);obtain ⟨hczg_0,hczg_1,hczg_2,hczg_3,hczg_4⟩:=cO5 BKg.out;clear hb))
    go_ret
    exact ⟨rfl,HB.out⟩
   | true =>
    rw [if_pos rfl] at h
    obtain ⟨u,ht,h⟩:=obm h
    obtain rfl:=Option.some.inj h
    have H5:=am ht
    clear ht h
    go_enter Tryz.func64,Tryz.ntmps64
    go_wp2_with (first | ((refine gate_dst (N:=1) rfl ?_);(try (refine gate_guard (by rfl) ?_;dsimp only));refine box_event rfl (N:=1) rfl (cs:=#[.slice A0_0 l0_0.length c0_0,.int .i64 a0_1,.slice A0_2 l0_2.length c0_2,.int .i64 a0_3,.int .i64 a0_4]) (t:=27) ?hr ?_;(case hr=>go_simp;try rfl);intro g hg w2 hbox hb;replace HR:=(cmv HR hb);replace HR2:=(cmv HR2 hb);replace HB:=(bmv HB hb);clear hg;have BKg:=am hbox;clear hbox;(try clear hczg_0 hczg_1 hczg_2 hczg_3 hczg_4);obtain ⟨hczg_0,hczg_1,hczg_2,hczg_3,hczg_4⟩:=cO5 BKg.out;clear hb) | (go_at_call 103;(with_reducible refine (nz_Check.calls A0_0 c0_0 l0_0 a0_1 0 _ HR.out HC.out H1.out).mono ?_);rintro e w1 ⟨rfl,hb⟩;replace HR:=(cmv HR hb);replace HR2:=(cmv HR2 hb);replace HB:=(bmv HB hb);replace BKg:=(kmv hb BKg);(try clear hczg_0 hczg_1 hczg_2 hczg_3 hczg_4);obtain ⟨hczg_0,hczg_1,hczg_2,hczg_3,hczg_4⟩:=cO5 BKg.out;clear hb) | (go_at_call 79;(with_reducible refine (ca_in.calls (l0_2.length : Int) 1 6 true _ H2.out).mono ?_);rintro e w1 ⟨rfl,hd⟩;have hb:=hd.below;clear hd;replace HR:=(cmv HR hb);replace HR2:=(cmv HR2 hb);replace HB:=(bmv HB hb);replace BKg:=(kmv hb BKg);(try clear hczg_0 hczg_1 hczg_2 hczg_3 hczg_4);obtain ⟨hczg_0,hczg_1,hczg_2,hczg_3,hczg_4⟩:=cO5 BKg.out;clear hb) | (go_at_call 86;(with_reducible refine (ca_isHeight.calls a0_3 true _ H3.out).mono ?_);rintro e w1 ⟨rfl,hd⟩;have hb:=hd.below;clear hd;replace HR:=(cmv HR hb);replace HR2:=(cmv HR2 hb);replace HB:=(bmv HB hb);replace BKg:=(kmv hb BKg);(try clear hczg_0 hczg_1 hczg_2 hczg_3 hczg_4);obtain ⟨hczg_0,hczg_1,hczg_2,hczg_3,hczg_4⟩:=cO5 BKg.out;clear hb) | (go_at_call 79;(with_reducible refine (ca_in.calls a0_4 0 100 true _ H4.out).mono ?_);rintro e w1 ⟨rfl,hd⟩;have hb:=hd.below;clear hd;replace HR:=(cmv HR hb);replace HR2:=(cmv HR2 hb);replace HB:=(bmv HB hb);replace BKg:=(kmv hb BKg);(try clear hczg_0 hczg_1 hczg_2 hczg_3 hczg_4);obtain ⟨hczg_0,hczg_1,hczg_2,hczg_3,hczg_4⟩:=cO5 BKg.out;clear hb) | (go_at_call 104;refine (any_isBasin g (ca_isBasin_1.f l0_0) A0_2 c0_2 l0_2 u _ HR2.out (fun x b W hx hq hb=>ca_isBasin_1.calls g A0_0 c0_0 l0_0 a0_1 A0_2 c0_2 l0_2 a0_3 a0_4 x b W (blk_below BKg.out hb) hq) H5.out).mono ?_;rintro e w1 ⟨rfl,hb⟩;replace HR:=(cmv HR hb);replace HR2:=(cmv HR2 hb);replace HB:=(bmv HB hb);replace BKg:=(kmv hb BKg);(try clear hczg_0 hczg_1 hczg_2 hczg_3 hczg_4);obtain ⟨hczg_0,hczg_1,hczg_2,hczg_3,hczg_4⟩:=cO5 BKg.out;clear hb))
    go_ret
    exact ⟨rfl,HB.out⟩
theorem goesP_ {P : Program} {ops : Array Oper} {Q : Exit → Act → World → Prop} {oi : Oper} {N : Option Tmp} {a : Act} {w : World} {K : Act → World → Prop} {f : FuncId} {fn : Func} {oas : Array Operand} {ts : Array TypeId} (hf : P.funcs[f]? = some fn) (hname : (fn.name == "runtime.NumGoroutine") = false) (hb : fn.body.isSome = true) (args : Array Value)
 (hw : Region.wanted oi (yielded ops a.tmps) = true) (hN : oi.dst = N) (hop : oi.op = .call { callee:=.value (.func f),args:=oas,argTypes:=ts }) (hargs : oas.map a.eval = args)
 (h : Calls P f args w fun e w'=>∃ c,e = .panicked c∧Q (.panic c) a w') : if Region.wanted oi (yielded ops a.tmps) = true then Oper.wp P oi a w K Q else K (a.put N undef) w:=by
 rw [if_pos hw]
 have he:=enters_ hf hname hb args w
 have hrun : (execOp a.eval oi).run P w = .ok (.enter f args) w:=by
  unfold execOp
  simp [hop,resolve,Deferred.ofValue,invoke,Act.eval,hargs,he]
 unfold Oper.wp
 rw [hrun]
 refine Calls.mono h ?_
 rintro e w' ⟨c,rfl,hq⟩
 exact hq
theorem skip_abs {P : Program} {ops : Array Oper} {o : Oper} {a : Act} {Q : Exit→Act→World→Prop} {rest : List Oper} {W W1 : World} (Rr : World→Prop) (hgd : o.guard = none) (hN : o.dst = none)
 (hrun : (execOp a.eval o).run P W = .ok .skip W1) (hR : Rr W1) (h : ∀ W',Rr W'→wpList P ops Q rest a W') : wpList P ops Q (o :: rest) a W:=by
 refine wpList_plain hgd fun K hK=>?_
 unfold Oper.wp
 rw [hrun]
 show K (a.put o.dst undef) W1
 rw [hN]
 exact hK _ _ (h W1 hR)
section
attribute [local go_sem] max2_int min2_int max_two min_two
def ca_sure.f (a0 : Bool) (a1 : ByteArray) : Option (Unit):=if a0 = true then (some ()) else (none)
theorem ca_sure.calls (a0 : Bool) (a1 : ByteArray) (w : World) (h : ca_sure.f a0 a1 = some ()) :
 Calls Tryz.prog 122 #[.bool a0,.string a1] w fun e w'=>e = .returned (.tuple #[])∧Drawn0 w w':=by
 have hu167:=Tryz.underlying167
 have H : (if a0 = true then (some ()) else (none)) = some ():=h
 clear h
 by_cases c3 : a0 = true
 case neg =>
  replace c3:=Bool.eq_false_iff.mpr c3
  subst c3
  replace H : (none) = some ():=by rw [if_neg (show ¬ (false = true) by decide)] at H;exact H
  exact absurd H (by simp)
 subst c3
 replace H : (some ()) = some ():=rfl
 go_enter Tryz.func122,Tryz.ntmps122
 go_wp2
 first | go_end0 | ((try simp only [Exit.inBlock,Exit.then]);refine bodyPost_ret (results_none rfl _ _ _) rfl ?_)
 exact ⟨by first | rfl | (simp;done) | (simp [*];done),by repeat (first | exact Drawn0.refl _ | apply Drawn0.step)⟩
def ca_sure_P.f (a0 : Bool) (a1 : ByteArray) : Option (ByteArray):=if a0 = true then (none) else (some a1)
theorem ca_sure_P.calls (a0 : Bool) (a1 : ByteArray) (r : ByteArray) (w : World) (h : ca_sure_P.f a0 a1 = some r) :
 Calls Tryz.prog 122 #[.bool a0,.string a1] w fun e w'=>e = .panicked [{ v:=.iface 167 (.agg #[.string r]),recovered:=false }]∧Drawn0 w w':=by
 have hu167:=Tryz.underlying167
 have H : (if a0 = true then (none) else (some a1)) = some r:=h
 clear h
 by_cases c3 : a0 = true
 ·subst c3
  replace H : (none) = some r:=by rw [if_pos rfl] at H;exact H
  exact absurd H (by simp)
 ·replace c3:=Bool.eq_false_iff.mpr c3
  subst c3
  replace H : (some a1) = some r:=by rw [if_neg (show ¬ (false = true) by decide)] at H;exact H
  obtain rfl:=Option.some.inj H
  go_enter Tryz.func122,Tryz.ntmps122
  go_wp2
  refine ⟨rfl,?_⟩
  exact ⟨by first | rfl | (simp;done) | (simp [*];done),by repeat (first | exact Drawn0.refl _ | apply Drawn0.step)⟩
end
def splitF (line : ByteArray) (sep : ByteArray) : List ByteArray:=Lib.splitB sep 0 (Lib.countB line sep) line
theorem split_calls (line sep : ByteArray) (w : World) (hs : line.size < 4294967281) (h1 : 1≤sep.size) (hg : GV w) : Calls Tryz.prog 121 #[.string line,.string sep] w fun e w'=>∃ g,e = .returned (.slice (some ⟨g,0,none⟩) (splitF line sep).length (splitF line sep).length)∧w.heap.size≤g∧w'.heap[g]? = some (.cells ((splitF line sep).map Value.string).toArray 9 (0,0))∧Below w.heap.size w w':=by
 obtain ⟨m,hm⟩:=hg.mx
 refine (Tryz.strings_Split line sep m w hs hm h1).mono ?_
 rintro e w' ⟨rfl,rfl⟩
 have hl : (splitF line sep).length = Lib.countB line sep + 1:=Lib.splitB_all sep h1 0 _ line rfl
 exact ⟨w.heap.size,by rw [hl],Nat.le_refl _,blk_new _ _,below_alloc (Below.refl _ _) _⟩
def digB (x : ByteArray) : Bool:=decide (x.size≤3) && (List.range x.size).all fun p=>decide (48≤bt x p) && decide (bt x p≤57)
def valTo (x : ByteArray) : Nat→Int
 | 0=>0
 | p + 1=>10 * valTo x p + (bt x p - 48)
def numF (x : ByteArray) : Option Int:=if x.size ≠ 0∧digB x = true∧itB (valTo x x.size) = x then some (valTo x x.size) else none
def toldW (wd : ByteArray) : List ByteArray→Option (Int × Int)
 | [w0,w1,w2]=>if w0 = wd then (numF w1).bind fun a=>(numF w2).bind fun b=>some (a,b) else none
 | _=>none
def toldF (line wd : ByteArray) : Option (Int × Int):=toldW wd (splitF line spB)
theorem toldW_len {wd : ByteArray} {ws : List ByteArray} (h : ws.length ≠ 3) : toldW wd ws = none:=by
 unfold toldW
 split
 ·exact absurd rfl h
 ·rfl
theorem splitF_len (line sep : ByteArray) (h1 : 1≤sep.size) (hs : line.size < 4294967281) : (splitF line sep).length≤4294967281:=by
 have hl : (splitF line sep).length = Lib.countB line sep + 1:=Lib.splitB_all sep h1 0 _ line rfl
 have:=Lib.countB_le sep h1 line.size line (Nat.le_refl _)
 omega
def ToldPost (r : Option (Int × Int)) (w : World) (e : Ending) (w' : World) : Prop:=(match r with
 | some x=>e = .returned (.tuple #[.int .i64 x.1,.int .i64 x.2])
 | none=>∃ s,e = .panicked [{ v:=.iface 167 (.agg #[.string s]),recovered:=false }])∧Below w.heap.size w w'
theorem bl_true {a b : ByteArray} (h : a = b) : (a.toList == b.toList) = true:=by rw [h];exact beq_self_eq_true _
theorem bl_false {a b : ByteArray} (h : a ≠ b) : (a.toList == b.toList) = false:=by
 rw [beq_eq_false_iff_ne]
 intro e
 rw [ByteArray.toList_eq,ByteArray.toList_eq] at e
 exact h (ByteArray.ext (Array.toList_inj.1 e))
theorem digB_false {x : ByteArray} {p : Nat} (hp : p < x.size) (h : ¬ (48≤bt x p∧bt x p≤57∧x.size≤3)) : numF x = none:=by
 unfold numF
 rw [if_neg]
 rintro ⟨_,hd,_⟩
 unfold digB at hd
 simp only [Bool.and_eq_true,decide_eq_true_eq,List.all_eq_true,List.mem_range] at hd
 exact h ⟨(hd.2 p hp).1,(hd.2 p hp).2,hd.1⟩
theorem digB_true {x : ByteArray} (h : ∀ p,p < x.size→48≤bt x p∧bt x p≤57) (h3 : x.size≤3) : digB x = true:=by
 unfold digB
 simp only [Bool.and_eq_true,decide_eq_true_eq,List.all_eq_true,List.mem_range]
 exact ⟨h3,h⟩
theorem valTo_range {x : ByteArray} {p : Nat} (h : ∀ q,q < p→48≤bt x q∧bt x q≤57) (h3 : p≤3) : 0≤valTo x p∧valTo x p≤999:=by
 have hc : p = 0∨p = 1∨p = 2∨p = 3:=by omega
 rcases hc with rfl | rfl | rfl | rfl
 ·simp [valTo]
 ·have h0:=h 0 (by omega)
  simp only [valTo];omega
 ·have h0:=h 0 (by omega);have h1:=h 1 (by omega)
  simp only [valTo];omega
 ·have h0:=h 0 (by omega);have h1:=h 1 (by omega);have h2:=h 2 (by omega)
  simp only [valTo];omega
theorem decode_digit {x : ByteArray} {p : Nat} (hp : p < x.size) : (∃ hi : 48≤bt x p∧bt x p≤57,Utf8.decode x p = ((bt x p).toNat,1))∨(¬ (48≤bt x p∧bt x p≤57)∧¬ (48≤((Utf8.decode x p).1 : Int)∧((Utf8.decode x p).1 : Int)≤57)):=by
 have hb : bt x p = ((x[p]'hp).toNat : Int):=by have:=bt_at x (p : Int) hp;simpa using this.symm
 by_cases ha : (x[p]'hp).toNat < 128
 case neg =>
  have hd:=(decode_high x p hp (by omega)).1
  exact .inr ⟨by rw [hb];omega,by omega⟩
 have hd:=decode_ascii x p hp ha
 by_cases hi : 48≤bt x p∧bt x p≤57
 ·exact .inl ⟨hi,by rw [hd,hb];simp⟩
 ·refine .inr ⟨hi,?_⟩
  rw [hd]
  rw [hb] at hi
  exact hi
theorem digit_ex {x : ByteArray} {p : Nat} (hp : p < x.size) (hi : 48≤bt x p∧bt x p≤57) : ∃ c : Nat,Utf8.decode x p = (c,1)∧(c : Int) = bt x p∧48≤(c : Int)∧(c : Int)≤57:=by
 rcases decode_digit hp with ⟨_,h⟩ | ⟨h,_⟩
 ·exact ⟨_,h,by omega,by omega,by omega⟩
 ·exact absurd hi h
theorem digit_not {x : ByteArray} {p : Nat} (hp : p < x.size) (hi : ¬ (48≤bt x p∧bt x p≤57)) : ∃ c k : Nat,Utf8.decode x p = (c,k)∧¬ (48≤(c : Int)∧(c : Int)≤57):=by
 rcases decode_digit hp with ⟨h,_⟩ | ⟨_,h⟩
 ·exact absurd h hi
 ·exact ⟨_,_,rfl,h⟩
theorem digs_snoc {x : ByteArray} {p : Nat} (h : ∀ q : Nat,q < p→48≤bt x q∧bt x q≤57) (hp : 48≤bt x p∧bt x p≤57) : ∀ q : Nat,q < p + 1→48≤bt x q∧bt x q≤57:=fun q hq=>by
 by_cases e : q = p
 ·subst e;exact hp
 ·exact h q (by omega)
theorem numF_some {x : ByteArray} (h0 : x.size ≠ 0) (h : ∀ p : Nat,p < x.size→48≤bt x p∧bt x p≤57) (h3 : x.size≤3) (hi : itB (valTo x x.size) = x) : numF x = some (valTo x x.size):=if_pos ⟨h0,digB_true h h3,hi⟩
theorem numF_ne {x : ByteArray} (hi : ¬ itB (valTo x x.size) = x) : numF x = none:=if_neg fun h=>hi h.2.2
theorem numF_empty {x : ByteArray} (h0 : x.size = 0) : numF x = none:=if_neg fun h=>h.1 h0
theorem str_eq {x : ByteArray} (h0 : x.size = 0) : x = { data:=#[] }:=ByteArray.ext (Array.eq_empty_of_size_eq_zero h0)
theorem it_list (v : Int) : (itB v).toList = Lib.itoa v:=by rw [ByteArray.toList_eq];rfl
theorem str_nil {x : ByteArray} (h0 : x.size = 0) : x.toList.isEmpty = true:=by rw [str_eq h0,ByteArray.toList_eq];rfl
theorem str_ne {x : ByteArray} (h0 : x.size ≠ 0) : x.toList.isEmpty = false:=by
 rw [ByteArray.toList_eq]
 cases h : x.data.toList with
 | nil=>exact absurd (by have:=congrArg List.length h;simpa using this) h0
 | cons a b=>rfl
section
variable {P : Program} {ops : Array Oper} {o : Oper} {a : Act} {Q : Exit→Act→World→Prop} {rest : List Oper}
theorem next_event {W : World} {gi : Nat} {x : ByteArray} {pos : Nat} {it : Operand} (hgd : o.guard = none) (ho : o.op = .next it true) (hit : a.eval it = .pointer (some ⟨gi,0,none⟩)) (hk : W.heap[gi]? = some (.stringIter x pos)) (hlt : pos < x.size)
 (h : ∀ w1,w1 = W.iterAt gi x (pos + (Utf8.decode x pos).2)→wpList P ops Q rest (a.put o.dst (.tuple #[.bool true,.int .i64 pos,.int .i32 (Utf8.decode x pos).1])) w1) : wpList P ops Q (o :: rest) a W:=
 Kd.event_run hgd (by unfold execOp;simp [ho,hit,Lib.run_next_any_at _ _ _ _ _ hk hlt]) (h _ rfl)
theorem next_event2 {W : World} {gi : Nat} {x : ByteArray} {pos : Nat} {it : Operand} (c k : Nat) (hgd : o.guard = none) (ho : o.op = .next it true) (hit : a.eval it = .pointer (some ⟨gi,0,none⟩)) (hk : W.heap[gi]? = some (.stringIter x pos)) (hlt : pos < x.size) (hdec : Utf8.decode x pos = (c,k))
 (h : ∀ w1,w1 = W.iterAt gi x (pos + k)→wpList P ops Q rest (a.put o.dst (.tuple #[.bool true,.int .i64 pos,.int .i32 c])) w1) : wpList P ops Q (o :: rest) a W:=
 next_event hgd ho hit hk hlt (by rw [hdec];exact h)
theorem next_over {W : World} {gi : Nat} {x : ByteArray} {pos : Nat} {it : Operand} (hgd : o.guard = none) (ho : o.op = .next it true) (hit : a.eval it = .pointer (some ⟨gi,0,none⟩)) (hk : W.heap[gi]? = some (.stringIter x pos)) (hlt : ¬ pos < x.size)
 (h : wpList P ops Q rest (a.put o.dst (.tuple #[.bool false])) W) : wpList P ops Q (o :: rest) a W:=
 Kd.event_run hgd (by unfold execOp;simp [ho,hit,Lib.run_next_end_at _ _ _ _ _ hk hlt]) h
theorem range_event {W : World} {x : ByteArray} {t : TypeId} {v : Operand} (hgd : o.guard = none) (ho : o.op = .range t v) (hv : a.eval v = .string x) (ht : P.underlying t = some .string)
 (h : ∀ gi,gi = W.heap.size→∀ w1,w1.heap[gi]? = some (.stringIter x 0)→Below W.heap.size W w1→wpList P ops Q rest (a.put o.dst (.pointer (some ⟨gi,0,none⟩))) w1) : wpList P ops Q (o :: rest) a W:=
 Kd.event_run hgd (v:=.pointer (some ⟨W.heap.size,0,none⟩)) (w1:=W.alloc (.stringIter x 0)) (by unfold execOp;simp [ho,hv,run_range_string _ _ _ ht,World.iter]) (h _ rfl _ (blk_new _ _) (below_alloc (Below.refl _ _) _))
end
theorem iterAt_at {W : World} {gi : Nat} {x : ByteArray} {pos pos' : Nat} (hk : W.heap[gi]? = some (.stringIter x pos)) : (W.iterAt gi x pos').heap[gi]? = some (.stringIter x pos'):=by
 simp [World.iterAt,Array.getElem?_setIfInBounds,(Array.getElem?_eq_some_iff.1 hk).1]
theorem iterAt_far {W : World} {gi g : Nat} {x : ByteArray} {pos' : Nat} {o : Obj} (hne : g ≠ gi) (h : W.heap[g]? = some o) : (W.iterAt gi x pos').heap[g]? = some o:=by
 simp [World.iterAt,Array.getElem?_setIfInBounds,hne.symm,h]
theorem iterAt_below {w W : World} {gi : Nat} {x : ByteArray} {pos' : Nat} (h : Below w.heap.size w W) (hg : w.heap.size≤gi) : Below w.heap.size w (W.iterAt gi x pos'):=
 ⟨h.os,h.tape,h.output,by show _≤(W.heap.setIfInBounds gi _).size;rw [Array.size_setIfInBounds];exact h.size,fun j hj=>by
  show (W.heap.setIfInBounds gi _)[j]? = _
  rw [Array.getElem?_setIfInBounds,if_neg (by omega)]
  exact h.block j hj⟩
theorem iter_pos {W : World} {k : Nat} {s : ByteArray} {q : Nat} (h : W.heap[k]? = some (.stringIter s q)) : W.iterPos k = q:=by simp [World.iterPos,h]
theorem set_iter {W : World} {gi g i : Nat} {v : Value} {x : ByteArray} {pos : Nat} (hne : gi ≠ g) (hk : W.heap[gi]? = some (.stringIter x pos)) : (W.setCell ⟨g,i,none⟩ v).heap[gi]? = some (.stringIter x pos):=(Below.heap_setCell W ⟨g,i,none⟩ v gi hne).trans hk
end Go.Proofs.YtnnmnhpeblhiiaaGreatDoor.C

/- A part of the proof: the walks of the functions that it reaches. TIGHT. -/
import Derived.Test.YtnnmnhpeblhiiaaGreatDoorML10
set_option linter.unusedSimpArgs false
set_option linter.unusedVariables false
namespace Go.Proofs.YtnnmnhpeblhiiaaGreatDoor.C
open Go.RowKit Go.Proofs.YtnnmnhpeblhiiaaGreatDoorW.PrintWords Go.Proofs.YtnnmnhpeblhiiaaGreatDoorW.PrintLast Go.Proofs.YtnnmnhpeblhiiaaGreatDoorW.PrintMore
set_option maxHeartbeats 16000000
set_option maxRecDepth 100000
section
attribute [local go_sem] zwa zq9 zwf zwe
def q4_Basin.l0 : Nat→Int→List (S126)→Int→List (S48)→Int→Int→Option (Bool)
 | 0,_,_,_,_,_,_=>none
 | k + 1,x3,x112000,x112001,x112002,x112003,x112004=>if x3 < (x112002.length : Int) then (if 0≤x3 then ((q4_in.f ((zql x112002 x3).f0) 0 (wrap64 ((x112000.length : Int) - 1))).bind fun t113=>(if t113 = true then ((q4_Height.f ((zql x112002 x3).f1)).bind fun t115=>(if t115 = true then (q4_Basin.l0 k (wrap64 (x3 + 1)) x112000 x112001 x112002 x112003 x112004) else (some false))) else (some false))) else (none)) else ((q3_Table.f k x112000 x112001).bind fun t116=>(if t116 = true then ((q4_in.f (x112002.length : Int) 1 6).bind fun t117=>(if t117 = true then ((q4_Height.f x112003).bind fun t118=>(if t118 = true then ((q4_in.f x112004 0 100).bind fun t119=>(some t119)) else (some false))) else (some false))) else (some false)))
def q4_Basin.f (k : Nat) (lA : List (S126)) (aA : Int) (lB : List (S48)) (a0_3 : Int) (aC : Int) : Option (Bool):=q4_Basin.l0 k 0 lA aA lB a0_3 aC
theorem in_w {a b c : Int} {r : Bool} (h : q4_in.f a b (wrap64 c) = some r) : q4_in.f a b (IntKind.i64.wrap c) = some r:=by rw [i64_w];exact h
theorem q4_Basin.calls (k : Nat) (AX : Option Addr) (c0_0 : Nat) (lA : List (S126)) (aA : Int) (AY : Option Addr) (cB : Nat) (lB : List (S48)) (a0_3 : Int) (aC : Int) (r : Bool) (w : World) (hra : Kd.C k126 w AX lA.length lA) (hc0_0 : lA.length≤c0_0) (hrb : Kd.C k48 w AY lB.length lB) (hcb : lB.length≤cB) (h : q4_Basin.f k lA aA lB a0_3 aC = some r) :
 Calls Tryz.prog 15 #[.agg #[.slice AX lA.length c0_0,.int .i64 aA,.slice AY lB.length cB,.int .i64 a0_3,.int .i64 aC]] w fun e w'=>e = .returned (.bool r)∧Below w.heap.size w w':=by
 have hu27:=Tryz.underlying27
 have hu24:=Tryz.underlying24
 have HRA:=am hra
 have HCA:=am hc0_0
 clear hra hc0_0
 have HRB:=am hrb
 have HCB:=am hcb
 clear hrb hcb
 have HB:=am (Below.refl w.heap.size w)
 have H : (q4_Basin.l0 k 0 lA aA lB a0_3 aC) = some r:=h
 clear h
 replace H':=am H
 go_enter Tryz.func15,Tryz.ntmps15
 go_wp2_with (first | ((refine zqn (N:=1) rfl ?_);(try (refine zqu (by rfl) ?_;dsimp only));refine zqm rfl (N:=1) rfl (cs:=#[.slice AX lA.length c0_0,.int .i64 aA,.slice AY lB.length cB,.int .i64 a0_3,.int .i64 aC]) (t:=27) ?hr ?_;(case hr=>go_simp;try rfl);intro gb111 hg w2 hbox hb;have BK111:=am (hbox);have GW111:=am (zqq (HB.out) hg);have GE111:=am (zqq (HB.out) hg);replace HB:=am (zqb (HB.out) hb);clear hb hbox hg))
 repeat (go_quiet (first | ((refine zqn (N:=1) rfl ?_);(try (refine zqu (by rfl) ?_;dsimp only));refine zqm rfl (N:=1) rfl (cs:=#[.slice AX lA.length c0_0,.int .i64 aA,.slice AY lB.length cB,.int .i64 a0_3,.int .i64 aC]) (t:=27) ?hr ?_;(case hr=>go_simp;try rfl);intro gb111 hg w2 hbox hb;have BK111:=am (hbox);have GW111:=am (zqq (by repeat (first | (with_reducible first | exact HB.out | apply zqc | apply zqa) | exact HB.out)) hg);have GE111:=am (zqq (by repeat (first | (with_reducible first | exact HB.out | apply zqc | apply zqa) | exact HB.out)) hg);replace HB:=am (zqb (by repeat (first | (with_reducible first | exact HB.out | apply zqc | apply zqa) | exact HB.out)) hb);clear hb hbox hg));try go_wp2_with (first | ((refine zqn (N:=1) rfl ?_);(try (refine zqu (by rfl) ?_;dsimp only));refine zqm rfl (N:=1) rfl (cs:=#[.slice AX lA.length c0_0,.int .i64 aA,.slice AY lB.length cB,.int .i64 a0_3,.int .i64 aC]) (t:=27) ?hr ?_;(case hr=>go_simp;try rfl);intro gb111 hg w2 hbox hb;have BK111:=am (hbox);have GW111:=am (zqq (by repeat (first | (with_reducible first | exact HB.out | apply zqc | apply zqa) | exact HB.out)) hg);have GE111:=am (zqq (by repeat (first | (with_reducible first | exact HB.out | apply zqc | apply zqa) | exact HB.out)) hg);replace HB:=am (zqb (by repeat (first | (with_reducible first | exact HB.out | apply zqc | apply zqa) | exact HB.out)) hb);clear hb hbox hg)))
 go_loopg [3] k (fun kq v3 w'=>∃ (x3_1 : Int),v3 = .int .i64 x3_1∧zqk (q4_Basin.l0 kq x3_1 lA aA lB a0_3 aC = some r)∧zqk (kq≤k)∧zqk (w'.heap[gb111]? = some (.cells #[(.slice AX lA.length c0_0),.int .i64 aA,(.slice AY lB.length cB),.int .i64 a0_3,.int .i64 aC] 27 (0,0)))∧zqk (Below w.heap.size w w'))
 case atStart=>exact ⟨(0),(by first | rfl | (simp;done) | (simp [*];done)),H',⟨Nat.le_refl _⟩,⟨BK111.out⟩,⟨HB.out⟩⟩
 case round =>
  clear H'
  obtain ⟨x3_1,rfl,HA,HK1,BK111,HB⟩:=hrel
  cases gk with
  | zero=>exact absurd HA.out (by simp [q4_Basin.l0])
  | succ k1 =>
   have H:=HA.out
   clear HA
   simp only [q4_Basin.l0] at H
   by_cases c3 : x3_1 < (lB.length : Int)
   ·rw [if_pos c3] at H
    have c3b0 : decide (x3_1 < (lB.length : Int)) = true:=decide_eq_true c3
    clear c3
    by_cases c4 : 0≤x3_1
    case neg =>
     rw [if_neg c4] at H
     exact absurd H (by simp)
    rw [if_pos c4] at H
    have c4b0 : decide (0≤x3_1) = true:=decide_eq_true c4
    clear c4
    replace H:=obm H
    obtain ⟨t113,A50,H⟩:=H
    replace H : (if t113 = true then ((q4_Height.f ((zql lB x3_1).f1)).bind fun t115=>(if t115 = true then (q4_Basin.l0 k1 (wrap64 (x3_1 + 1)) lA aA lB a0_3 aC) else (some false))) else (some false)) = some r:=H
    have A5:=am A50
    clear A50
    by_cases c6 : t113 = true
    case neg =>
     replace c6:=Bool.eq_false_iff.mpr c6
     subst c6
     replace H : (some false) = some r:=by rw [if_neg (show ¬ (false = true) by decide)] at H;exact H
     obtain rfl:=Option.some.inj H
     obtain ⟨hcz11_0,hcz11_1,hcz11_2,hcz11_3,hcz11_4⟩:=cO5 BK111.out
     have p112 : 0≤(x3_1 : Int):=of_decide_eq_true (by assumption)
     have q112 : x3_1 < (lB.length : Int):=of_decide_eq_true (by assumption)
     obtain ⟨ad112,e112,hx112_0,hx112_1⟩:=zvi HRB.out x3_1 p112 q112
     cases e112
     replace hx112_0:=(HB.out.cell (wbl hx112_0)).trans hx112_0
     replace hx112_1:=(HB.out.cell (wbl hx112_1)).trans hx112_1
     replace p112:=eq_true p112
     replace q112:=eq_true q112
     go_wp2_with (first | (go_at_call 54;(with_reducible refine (q4_in.calls ((zql lB x3_1).f0) 0 (wrap64 ((lA.length : Int) - 1)) false _ A5.out).mono ?_);rintro e w' ⟨rfl,⟨nd,rfl⟩⟩;(try first | exact ⟨rfl,_,World.drewN_drewN _ _ _⟩ | exact ⟨rfl,_,Eq.trans (World.drewN_drewN _ _ _) (congrArg (World.drewN _) (Nat.add_assoc _ _ _))⟩)))
     repeat (go_quiet (first | (go_at_call 54;(with_reducible refine (q4_in.calls ((zql lB x3_1).f0) 0 (wrap64 ((lA.length : Int) - 1)) false _ A5.out).mono ?_);rintro e w' ⟨rfl,⟨nd,rfl⟩⟩;(try first | exact ⟨rfl,_,World.drewN_drewN _ _ _⟩ | exact ⟨rfl,_,Eq.trans (World.drewN_drewN _ _ _) (congrArg (World.drewN _) (Nat.add_assoc _ _ _))⟩)));try go_wp2_with (first | (go_at_call 54;(with_reducible refine (q4_in.calls ((zql lB x3_1).f0) 0 (wrap64 ((lA.length : Int) - 1)) false _ A5.out).mono ?_);rintro e w' ⟨rfl,⟨nd,rfl⟩⟩;(try first | exact ⟨rfl,_,World.drewN_drewN _ _ _⟩ | exact ⟨rfl,_,Eq.trans (World.drewN_drewN _ _ _) (congrArg (World.drewN _) (Nat.add_assoc _ _ _))⟩))))
     go_ret
     exact ⟨by first | rfl | (simp [*]<;>rfl),zqa HB.out _⟩
    subst c6
    replace H : ((q4_Height.f ((zql lB x3_1).f1)).bind fun t115=>(if t115 = true then (q4_Basin.l0 k1 (wrap64 (x3_1 + 1)) lA aA lB a0_3 aC) else (some false))) = some r:=by rw [if_pos rfl] at H;exact H
    replace H:=obm H
    obtain ⟨t115,A70,H⟩:=H
    replace H : (if t115 = true then (q4_Basin.l0 k1 (wrap64 (x3_1 + 1)) lA aA lB a0_3 aC) else (some false)) = some r:=H
    have A7:=am A70
    clear A70
    by_cases c8 : t115 = true
    ·subst c8
     replace H : (q4_Basin.l0 k1 (wrap64 (x3_1 + 1)) lA aA lB a0_3 aC) = some r:=by rw [if_pos rfl] at H;exact H
     replace H':=am H
     obtain ⟨hcz9_0,hcz9_1,hcz9_2,hcz9_3,hcz9_4⟩:=cO5 BK111.out
     have p112 : 0≤(x3_1 : Int):=of_decide_eq_true (by assumption)
     have q112 : x3_1 < (lB.length : Int):=of_decide_eq_true (by assumption)
     obtain ⟨ad112,e112,hx112_0,hx112_1⟩:=zvi HRB.out x3_1 p112 q112
     cases e112
     replace hx112_0:=(HB.out.cell (wbl hx112_0)).trans hx112_0
     replace hx112_1:=(HB.out.cell (wbl hx112_1)).trans hx112_1
     replace p112:=eq_true p112
     replace q112:=eq_true q112
     go_wp2_with (first | (go_at_call 54;(with_reducible refine (q4_in.calls ((zql lB x3_1).f0) 0 (IntKind.i64.wrap ((lA.length : Int) - 1)) true _ (in_w A5.out)).mono ?_);rintro e w' ⟨rfl,⟨nd,rfl⟩⟩;(try first | exact ⟨rfl,_,World.drewN_drewN _ _ _⟩ | exact ⟨rfl,_,Eq.trans (World.drewN_drewN _ _ _) (congrArg (World.drewN _) (Nat.add_assoc _ _ _))⟩);have p114 : 0≤(x3_1 : Int):=of_decide_eq_true (by assumption);have q114 : x3_1 < (lB.length : Int):=of_decide_eq_true (by assumption);obtain ⟨ad114,e114,hx114_0,hx114_1⟩:=zvi HRB.out x3_1 p114 q114;obtain rfl : ad112 = ad114:=(by injection e114);replace hx114_0:=(HB.out.cell (wbl hx114_0)).trans hx114_0;replace hx114_1:=(HB.out.cell (wbl hx114_1)).trans hx114_1;replace p114:=eq_true p114;replace q114:=eq_true q114) | (go_at_call 39;(with_reducible refine (q4_Height.calls ((zql lB x3_1).f1) true _ A7.out).mono ?_);rintro e w' ⟨rfl,⟨nd,rfl⟩⟩;(try first | exact ⟨rfl,_,World.drewN_drewN _ _ _⟩ | exact ⟨rfl,_,Eq.trans (World.drewN_drewN _ _ _) (congrArg (World.drewN _) (Nat.add_assoc _ _ _))⟩)))
     repeat (go_quiet (first | (go_at_call 54;(with_reducible refine (q4_in.calls ((zql lB x3_1).f0) 0 (IntKind.i64.wrap ((lA.length : Int) - 1)) true _ (in_w A5.out)).mono ?_);rintro e w' ⟨rfl,⟨nd,rfl⟩⟩;(try first | exact ⟨rfl,_,World.drewN_drewN _ _ _⟩ | exact ⟨rfl,_,Eq.trans (World.drewN_drewN _ _ _) (congrArg (World.drewN _) (Nat.add_assoc _ _ _))⟩);have p114 : 0≤(x3_1 : Int):=of_decide_eq_true (by assumption);have q114 : x3_1 < (lB.length : Int):=of_decide_eq_true (by assumption);obtain ⟨ad114,e114,hx114_0,hx114_1⟩:=zvi HRB.out x3_1 p114 q114;obtain rfl : ad112 = ad114:=(by injection e114);replace hx114_0:=(HB.out.cell (wbl hx114_0)).trans hx114_0;replace hx114_1:=(HB.out.cell (wbl hx114_1)).trans hx114_1;replace p114:=eq_true p114;replace q114:=eq_true q114) | (go_at_call 39;(with_reducible refine (q4_Height.calls ((zql lB x3_1).f1) true _ A7.out).mono ?_);rintro e w' ⟨rfl,⟨nd,rfl⟩⟩;(try first | exact ⟨rfl,_,World.drewN_drewN _ _ _⟩ | exact ⟨rfl,_,Eq.trans (World.drewN_drewN _ _ _) (congrArg (World.drewN _) (Nat.add_assoc _ _ _))⟩)));try go_wp2_with (first | (go_at_call 54;(with_reducible refine (q4_in.calls ((zql lB x3_1).f0) 0 (IntKind.i64.wrap ((lA.length : Int) - 1)) true _ (in_w A5.out)).mono ?_);rintro e w' ⟨rfl,⟨nd,rfl⟩⟩;(try first | exact ⟨rfl,_,World.drewN_drewN _ _ _⟩ | exact ⟨rfl,_,Eq.trans (World.drewN_drewN _ _ _) (congrArg (World.drewN _) (Nat.add_assoc _ _ _))⟩);have p114 : 0≤(x3_1 : Int):=of_decide_eq_true (by assumption);have q114 : x3_1 < (lB.length : Int):=of_decide_eq_true (by assumption);obtain ⟨ad114,e114,hx114_0,hx114_1⟩:=zvi HRB.out x3_1 p114 q114;obtain rfl : ad112 = ad114:=(by injection e114);replace hx114_0:=(HB.out.cell (wbl hx114_0)).trans hx114_0;replace hx114_1:=(HB.out.cell (wbl hx114_1)).trans hx114_1;replace p114:=eq_true p114;replace q114:=eq_true q114) | (go_at_call 39;(with_reducible refine (q4_Height.calls ((zql lB x3_1).f1) true _ A7.out).mono ?_);rintro e w' ⟨rfl,⟨nd,rfl⟩⟩;(try first | exact ⟨rfl,_,World.drewN_drewN _ _ _⟩ | exact ⟨rfl,_,Eq.trans (World.drewN_drewN _ _ _) (congrArg (World.drewN _) (Nat.add_assoc _ _ _))⟩))))
     go_roundg k1
     case measure=>have:=HK1.out;omega
     case rel=>exact ⟨(wrap64 (x3_1 + 1)),(by first | rfl | (simp;done) | (simp [*];done)),H',⟨by have:=HK1.out;omega⟩,⟨BK111.out⟩,⟨zqa HB.out _⟩⟩
    ·replace c8:=Bool.eq_false_iff.mpr c8
     subst c8
     replace H : (some false) = some r:=by rw [if_neg (show ¬ (false = true) by decide)] at H;exact H
     obtain rfl:=Option.some.inj H
     obtain ⟨hcz10_0,hcz10_1,hcz10_2,hcz10_3,hcz10_4⟩:=cO5 BK111.out
     have p112 : 0≤(x3_1 : Int):=of_decide_eq_true (by assumption)
     have q112 : x3_1 < (lB.length : Int):=of_decide_eq_true (by assumption)
     obtain ⟨ad112,e112,hx112_0,hx112_1⟩:=zvi HRB.out x3_1 p112 q112
     cases e112
     replace hx112_0:=(HB.out.cell (wbl hx112_0)).trans hx112_0
     replace hx112_1:=(HB.out.cell (wbl hx112_1)).trans hx112_1
     replace p112:=eq_true p112
     replace q112:=eq_true q112
     go_wp2_with (first | (go_at_call 54;(with_reducible refine (q4_in.calls ((zql lB x3_1).f0) 0 (IntKind.i64.wrap ((lA.length : Int) - 1)) true _ (in_w A5.out)).mono ?_);rintro e w' ⟨rfl,⟨nd,rfl⟩⟩;(try first | exact ⟨rfl,_,World.drewN_drewN _ _ _⟩ | exact ⟨rfl,_,Eq.trans (World.drewN_drewN _ _ _) (congrArg (World.drewN _) (Nat.add_assoc _ _ _))⟩);have p114 : 0≤(x3_1 : Int):=of_decide_eq_true (by assumption);have q114 : x3_1 < (lB.length : Int):=of_decide_eq_true (by assumption);obtain ⟨ad114,e114,hx114_0,hx114_1⟩:=zvi HRB.out x3_1 p114 q114;obtain rfl : ad112 = ad114:=(by injection e114);replace hx114_0:=(HB.out.cell (wbl hx114_0)).trans hx114_0;replace hx114_1:=(HB.out.cell (wbl hx114_1)).trans hx114_1;replace p114:=eq_true p114;replace q114:=eq_true q114) | (go_at_call 39;(with_reducible refine (q4_Height.calls ((zql lB x3_1).f1) false _ A7.out).mono ?_);rintro e w' ⟨rfl,⟨nd,rfl⟩⟩;(try first | exact ⟨rfl,_,World.drewN_drewN _ _ _⟩ | exact ⟨rfl,_,Eq.trans (World.drewN_drewN _ _ _) (congrArg (World.drewN _) (Nat.add_assoc _ _ _))⟩)))
     repeat (go_quiet (first | (go_at_call 54;(with_reducible refine (q4_in.calls ((zql lB x3_1).f0) 0 (IntKind.i64.wrap ((lA.length : Int) - 1)) true _ (in_w A5.out)).mono ?_);rintro e w' ⟨rfl,⟨nd,rfl⟩⟩;(try first | exact ⟨rfl,_,World.drewN_drewN _ _ _⟩ | exact ⟨rfl,_,Eq.trans (World.drewN_drewN _ _ _) (congrArg (World.drewN _) (Nat.add_assoc _ _ _))⟩);have p114 : 0≤(x3_1 : Int):=of_decide_eq_true (by assumption);have q114 : x3_1 < (lB.length : Int):=of_decide_eq_true (by assumption);obtain ⟨ad114,e114,hx114_0,hx114_1⟩:=zvi HRB.out x3_1 p114 q114;obtain rfl : ad112 = ad114:=(by injection e114);replace hx114_0:=(HB.out.cell (wbl hx114_0)).trans hx114_0;replace hx114_1:=(HB.out.cell (wbl hx114_1)).trans hx114_1;replace p114:=eq_true p114;replace q114:=eq_true q114) | (go_at_call 39;(with_reducible refine (q4_Height.calls ((zql lB x3_1).f1) false _ A7.out).mono ?_);rintro e w' ⟨rfl,⟨nd,rfl⟩⟩;(try first | exact ⟨rfl,_,World.drewN_drewN _ _ _⟩ | exact ⟨rfl,_,Eq.trans (World.drewN_drewN _ _ _) (congrArg (World.drewN _) (Nat.add_assoc _ _ _))⟩)));try go_wp2_with (first | (go_at_call 54;(with_reducible refine (q4_in.calls ((zql lB x3_1).f0) 0 (IntKind.i64.wrap ((lA.length : Int) - 1)) true _ (in_w A5.out)).mono ?_);rintro e w' ⟨rfl,⟨nd,rfl⟩⟩;(try first | exact ⟨rfl,_,World.drewN_drewN _ _ _⟩ | exact ⟨rfl,_,Eq.trans (World.drewN_drewN _ _ _) (congrArg (World.drewN _) (Nat.add_assoc _ _ _))⟩);have p114 : 0≤(x3_1 : Int):=of_decide_eq_true (by assumption);have q114 : x3_1 < (lB.length : Int):=of_decide_eq_true (by assumption);obtain ⟨ad114,e114,hx114_0,hx114_1⟩:=zvi HRB.out x3_1 p114 q114;obtain rfl : ad112 = ad114:=(by injection e114);replace hx114_0:=(HB.out.cell (wbl hx114_0)).trans hx114_0;replace hx114_1:=(HB.out.cell (wbl hx114_1)).trans hx114_1;replace p114:=eq_true p114;replace q114:=eq_true q114) | (go_at_call 39;(with_reducible refine (q4_Height.calls ((zql lB x3_1).f1) false _ A7.out).mono ?_);rintro e w' ⟨rfl,⟨nd,rfl⟩⟩;(try first | exact ⟨rfl,_,World.drewN_drewN _ _ _⟩ | exact ⟨rfl,_,Eq.trans (World.drewN_drewN _ _ _) (congrArg (World.drewN _) (Nat.add_assoc _ _ _))⟩))))
     go_ret
     exact ⟨by first | rfl | (simp [*]<;>rfl),zqa HB.out _⟩
   ·rw [if_neg c3] at H
    have c3b0 : decide (x3_1 < (lB.length : Int)) = false:=decide_eq_false c3
    clear c3
    replace H:=obm H
    obtain ⟨t116,A120,H⟩:=H
    replace H : (if t116 = true then ((q4_in.f (lB.length : Int) 1 6).bind fun t117=>(if t117 = true then ((q4_Height.f a0_3).bind fun t118=>(if t118 = true then ((q4_in.f aC 0 100).bind fun t119=>(some t119)) else (some false))) else (some false))) else (some false)) = some r:=H
    have A12:=am A120
    clear A120
    by_cases c13 : t116 = true
    case neg =>
     replace c13:=Bool.eq_false_iff.mpr c13
     subst c13
     replace H : (some false) = some r:=by rw [if_neg (show ¬ (false = true) by decide)] at H;exact H
     obtain rfl:=Option.some.inj H
     obtain ⟨hcz28_0,hcz28_1,hcz28_2,hcz28_3,hcz28_4⟩:=cO5 BK111.out
     go_wp2_with (first | (go_at_call 55;(with_reducible refine (q3_Table.calls k1 _ _ lA aA false _ ?side1 ?side2 A12.out).mono ?_);(case side1=>exact kC HRA.out HB.out);(case side2=>exact HCA.out);rintro e w29 ⟨rfl,hb⟩;replace BK111:=(kmv hb BK111);replace HB:=am (zqb (HB.out) hb);(try clear hb);(try clear hb2);(try clear hk);(try clear hi)))
     repeat (go_quiet (first | (go_at_call 55;(with_reducible refine (q3_Table.calls k1 _ _ lA aA false _ ?side1 ?side2 A12.out).mono ?_);(case side1=>repeat (first | exact (kC HRA.out HB.out) | (with_reducible refine Kd.C_alloc ?_ _) | (with_reducible refine Kd.C_drewN ?_ _) | (with_reducible refine Kd.C_drew ?_)));(case side2=>exact HCA.out);rintro e w29 ⟨rfl,hb⟩;replace BK111:=(kmv hb BK111);replace HB:=am (zqb (by repeat (first | (with_reducible first | exact HB.out | refine zqf ?_ GE111.out | apply zqc | apply zqa) | exact HB.out)) hb);(try clear hb);(try clear hb2);(try clear hk);(try clear hi)));try go_wp2_with (first | (go_at_call 55;(with_reducible refine (q3_Table.calls k1 _ _ lA aA false _ ?side1 ?side2 A12.out).mono ?_);(case side1=>repeat (first | exact (kC HRA.out HB.out) | (with_reducible refine Kd.C_alloc ?_ _) | (with_reducible refine Kd.C_drewN ?_ _) | (with_reducible refine Kd.C_drew ?_)));(case side2=>exact HCA.out);rintro e w29 ⟨rfl,hb⟩;replace BK111:=(kmv hb BK111);replace HB:=am (zqb (by repeat (first | (with_reducible first | exact HB.out | refine zqf ?_ GE111.out | apply zqc | apply zqa) | exact HB.out)) hb);(try clear hb);(try clear hb2);(try clear hk);(try clear hi))))
     go_ret
     exact ⟨by first | rfl | (simp [*]<;>rfl),HB.out⟩
    subst c13
    replace H : ((q4_in.f (lB.length : Int) 1 6).bind fun t117=>(if t117 = true then ((q4_Height.f a0_3).bind fun t118=>(if t118 = true then ((q4_in.f aC 0 100).bind fun t119=>(some t119)) else (some false))) else (some false))) = some r:=by rw [if_pos rfl] at H;exact H
    replace H:=obm H
    obtain ⟨t117,A140,H⟩:=H
    replace H : (if t117 = true then ((q4_Height.f a0_3).bind fun t118=>(if t118 = true then ((q4_in.f aC 0 100).bind fun t119=>(some t119)) else (some false))) else (some false)) = some r:=H
    have A14:=am A140
    clear A140
    by_cases c15 : t117 = true
    case neg =>
     replace c15:=Bool.eq_false_iff.mpr c15
     subst c15
     replace H : (some false) = some r:=by rw [if_neg (show ¬ (false = true) by decide)] at H;exact H
     obtain rfl:=Option.some.inj H
     obtain ⟨hcz25_0,hcz25_1,hcz25_2,hcz25_3,hcz25_4⟩:=cO5 BK111.out
     go_wp2_with (first | (go_at_call 55;(with_reducible refine (q3_Table.calls k1 _ _ lA aA true _ ?side1 ?side2 A12.out).mono ?_);(case side1=>exact kC HRA.out HB.out);(case side2=>exact HCA.out);rintro e w26 ⟨rfl,hb⟩;replace BK111:=(kmv hb BK111);replace HB:=am (zqb (HB.out) hb);(try clear hb);(try clear hb2);(try clear hk);(try clear hi);obtain ⟨hcz27_0,hcz27_1,hcz27_2,hcz27_3,hcz27_4⟩:=cO5 BK111.out) | (go_at_call 54;(with_reducible refine (q4_in.calls (lB.length : Int) 1 6 false _ A14.out).mono ?_);rintro e w' ⟨rfl,⟨nd,rfl⟩⟩;(try first | exact ⟨rfl,_,World.drewN_drewN _ _ _⟩ | exact ⟨rfl,_,Eq.trans (World.drewN_drewN _ _ _) (congrArg (World.drewN _) (Nat.add_assoc _ _ _))⟩)))
     repeat (go_quiet (first | (go_at_call 55;(with_reducible refine (q3_Table.calls k1 _ _ lA aA true _ ?side1 ?side2 A12.out).mono ?_);(case side1=>repeat (first | exact (kC HRA.out HB.out) | (with_reducible refine Kd.C_alloc ?_ _) | (with_reducible refine Kd.C_drewN ?_ _) | (with_reducible refine Kd.C_drew ?_)));(case side2=>exact HCA.out);rintro e w26 ⟨rfl,hb⟩;replace BK111:=(kmv hb BK111);replace HB:=am (zqb (by repeat (first | (with_reducible first | exact HB.out | refine zqf ?_ GE111.out | apply zqc | apply zqa) | exact HB.out)) hb);(try clear hb);(try clear hb2);(try clear hk);(try clear hi);obtain ⟨hcz27_0,hcz27_1,hcz27_2,hcz27_3,hcz27_4⟩:=cO5 BK111.out) | (go_at_call 54;(with_reducible refine (q4_in.calls (lB.length : Int) 1 6 false _ A14.out).mono ?_);rintro e w' ⟨rfl,⟨nd,rfl⟩⟩;(try first | exact ⟨rfl,_,World.drewN_drewN _ _ _⟩ | exact ⟨rfl,_,Eq.trans (World.drewN_drewN _ _ _) (congrArg (World.drewN _) (Nat.add_assoc _ _ _))⟩)));try go_wp2_with (first | (go_at_call 55;(with_reducible refine (q3_Table.calls k1 _ _ lA aA true _ ?side1 ?side2 A12.out).mono ?_);(case side1=>repeat (first | exact (kC HRA.out HB.out) | (with_reducible refine Kd.C_alloc ?_ _) | (with_reducible refine Kd.C_drewN ?_ _) | (with_reducible refine Kd.C_drew ?_)));(case side2=>exact HCA.out);rintro e w26 ⟨rfl,hb⟩;replace BK111:=(kmv hb BK111);replace HB:=am (zqb (by repeat (first | (with_reducible first | exact HB.out | refine zqf ?_ GE111.out | apply zqc | apply zqa) | exact HB.out)) hb);(try clear hb);(try clear hb2);(try clear hk);(try clear hi);obtain ⟨hcz27_0,hcz27_1,hcz27_2,hcz27_3,hcz27_4⟩:=cO5 BK111.out) | (go_at_call 54;(with_reducible refine (q4_in.calls (lB.length : Int) 1 6 false _ A14.out).mono ?_);rintro e w' ⟨rfl,⟨nd,rfl⟩⟩;(try first | exact ⟨rfl,_,World.drewN_drewN _ _ _⟩ | exact ⟨rfl,_,Eq.trans (World.drewN_drewN _ _ _) (congrArg (World.drewN _) (Nat.add_assoc _ _ _))⟩))))
     go_ret
     exact ⟨by first | rfl | (simp [*]<;>rfl),zqa HB.out _⟩
    subst c15
    replace H : ((q4_Height.f a0_3).bind fun t118=>(if t118 = true then ((q4_in.f aC 0 100).bind fun t119=>(some t119)) else (some false))) = some r:=by rw [if_pos rfl] at H;exact H
    replace H:=obm H
    obtain ⟨t118,A160,H⟩:=H
    replace H : (if t118 = true then ((q4_in.f aC 0 100).bind fun t119=>(some t119)) else (some false)) = some r:=H
    have A16:=am A160
    clear A160
    by_cases c17 : t118 = true
    case neg =>
     replace c17:=Bool.eq_false_iff.mpr c17
     subst c17
     replace H : (some false) = some r:=by rw [if_neg (show ¬ (false = true) by decide)] at H;exact H
     obtain rfl:=Option.some.inj H
     obtain ⟨hcz22_0,hcz22_1,hcz22_2,hcz22_3,hcz22_4⟩:=cO5 BK111.out
     go_wp2_with (first | (go_at_call 55;(with_reducible refine (q3_Table.calls k1 _ _ lA aA true _ ?side1 ?side2 A12.out).mono ?_);(case side1=>exact kC HRA.out HB.out);(case side2=>exact HCA.out);rintro e w23 ⟨rfl,hb⟩;replace BK111:=(kmv hb BK111);replace HB:=am (zqb (HB.out) hb);(try clear hb);(try clear hb2);(try clear hk);(try clear hi);obtain ⟨hcz24_0,hcz24_1,hcz24_2,hcz24_3,hcz24_4⟩:=cO5 BK111.out) | (go_at_call 54;(with_reducible refine (q4_in.calls (lB.length : Int) 1 6 true _ A14.out).mono ?_);rintro e w' ⟨rfl,⟨nd,rfl⟩⟩;(try first | exact ⟨rfl,_,World.drewN_drewN _ _ _⟩ | exact ⟨rfl,_,Eq.trans (World.drewN_drewN _ _ _) (congrArg (World.drewN _) (Nat.add_assoc _ _ _))⟩)) | (go_at_call 39;(with_reducible refine (q4_Height.calls a0_3 false _ A16.out).mono ?_);rintro e w' ⟨rfl,⟨nd,rfl⟩⟩;(try first | exact ⟨rfl,_,World.drewN_drewN _ _ _⟩ | exact ⟨rfl,_,Eq.trans (World.drewN_drewN _ _ _) (congrArg (World.drewN _) (Nat.add_assoc _ _ _))⟩)))
     repeat (go_quiet (first | (go_at_call 55;(with_reducible refine (q3_Table.calls k1 _ _ lA aA true _ ?side1 ?side2 A12.out).mono ?_);(case side1=>repeat (first | exact (kC HRA.out HB.out) | (with_reducible refine Kd.C_alloc ?_ _) | (with_reducible refine Kd.C_drewN ?_ _) | (with_reducible refine Kd.C_drew ?_)));(case side2=>exact HCA.out);rintro e w23 ⟨rfl,hb⟩;replace BK111:=(kmv hb BK111);replace HB:=am (zqb (by repeat (first | (with_reducible first | exact HB.out | refine zqf ?_ GE111.out | apply zqc | apply zqa) | exact HB.out)) hb);(try clear hb);(try clear hb2);(try clear hk);(try clear hi);obtain ⟨hcz24_0,hcz24_1,hcz24_2,hcz24_3,hcz24_4⟩:=cO5 BK111.out) | (go_at_call 54;(with_reducible refine (q4_in.calls (lB.length : Int) 1 6 true _ A14.out).mono ?_);rintro e w' ⟨rfl,⟨nd,rfl⟩⟩;(try first | exact ⟨rfl,_,World.drewN_drewN _ _ _⟩ | exact ⟨rfl,_,Eq.trans (World.drewN_drewN _ _ _) (congrArg (World.drewN _) (Nat.add_assoc _ _ _))⟩)) | (go_at_call 39;(with_reducible refine (q4_Height.calls a0_3 false _ A16.out).mono ?_);rintro e w' ⟨rfl,⟨nd,rfl⟩⟩;(try first | exact ⟨rfl,_,World.drewN_drewN _ _ _⟩ | exact ⟨rfl,_,Eq.trans (World.drewN_drewN _ _ _) (congrArg (World.drewN _) (Nat.add_assoc _ _ _))⟩)));try go_wp2_with (first | (go_at_call 55;(with_reducible refine (q3_Table.calls k1 _ _ lA aA true _ ?side1 ?side2 A12.out).mono ?_);(case side1=>repeat (first | exact (kC HRA.out HB.out) | (with_reducible refine Kd.C_alloc ?_ _) | (with_reducible refine Kd.C_drewN ?_ _) | (with_reducible refine Kd.C_drew ?_)));(case side2=>exact HCA.out);rintro e w23 ⟨rfl,hb⟩;replace BK111:=(kmv hb BK111);replace HB:=am (zqb (by repeat (first | (with_reducible first | exact HB.out | refine zqf ?_ GE111.out | apply zqc | apply zqa) | exact HB.out)) hb);(try clear hb);(try clear hb2);(try clear hk);(try clear hi);obtain ⟨hcz24_0,hcz24_1,hcz24_2,hcz24_3,hcz24_4⟩:=cO5 BK111.out) | (go_at_call 54;(with_reducible refine (q4_in.calls (lB.length : Int) 1 6 true _ A14.out).mono ?_);rintro e w' ⟨rfl,⟨nd,rfl⟩⟩;(try first | exact ⟨rfl,_,World.drewN_drewN _ _ _⟩ | exact ⟨rfl,_,Eq.trans (World.drewN_drewN _ _ _) (congrArg (World.drewN _) (Nat.add_assoc _ _ _))⟩)) | (go_at_call 39;(with_reducible refine (q4_Height.calls a0_3 false _ A16.out).mono ?_);rintro e w' ⟨rfl,⟨nd,rfl⟩⟩;(try first | exact ⟨rfl,_,World.drewN_drewN _ _ _⟩ | exact ⟨rfl,_,Eq.trans (World.drewN_drewN _ _ _) (congrArg (World.drewN _) (Nat.add_assoc _ _ _))⟩))))
     go_ret
     exact ⟨by first | rfl | (simp [*]<;>rfl),zqa HB.out _⟩
    subst c17
    replace H : ((q4_in.f aC 0 100).bind fun t119=>(some t119)) = some r:=by rw [if_pos rfl] at H;exact H
    replace H:=obm H
    obtain ⟨t119,A180,H⟩:=H
    replace H : (some t119) = some r:=H
    have A18:=am A180
    clear A180
    obtain rfl:=Option.some.inj H
    obtain ⟨hcz19_0,hcz19_1,hcz19_2,hcz19_3,hcz19_4⟩:=cO5 BK111.out
    go_wp2_with (first | (go_at_call 55;(with_reducible refine (q3_Table.calls k1 _ _ lA aA true _ ?side1 ?side2 A12.out).mono ?_);(case side1=>exact kC HRA.out HB.out);(case side2=>exact HCA.out);rintro e w20 ⟨rfl,hb⟩;replace BK111:=(kmv hb BK111);replace HB:=am (zqb (HB.out) hb);(try clear hb);(try clear hb2);(try clear hk);(try clear hi);obtain ⟨hcz21_0,hcz21_1,hcz21_2,hcz21_3,hcz21_4⟩:=cO5 BK111.out) | (go_at_call 54;(with_reducible refine (q4_in.calls (lB.length : Int) 1 6 true _ A14.out).mono ?_);rintro e w' ⟨rfl,⟨nd,rfl⟩⟩;(try first | exact ⟨rfl,_,World.drewN_drewN _ _ _⟩ | exact ⟨rfl,_,Eq.trans (World.drewN_drewN _ _ _) (congrArg (World.drewN _) (Nat.add_assoc _ _ _))⟩)) | (go_at_call 39;(with_reducible refine (q4_Height.calls a0_3 true _ A16.out).mono ?_);rintro e w' ⟨rfl,⟨nd,rfl⟩⟩;(try first | exact ⟨rfl,_,World.drewN_drewN _ _ _⟩ | exact ⟨rfl,_,Eq.trans (World.drewN_drewN _ _ _) (congrArg (World.drewN _) (Nat.add_assoc _ _ _))⟩)) | (go_at_call 54;(with_reducible refine (q4_in.calls aC 0 100 t119 _ A18.out).mono ?_);rintro e w' ⟨rfl,⟨nd,rfl⟩⟩;(try first | exact ⟨rfl,_,World.drewN_drewN _ _ _⟩ | exact ⟨rfl,_,Eq.trans (World.drewN_drewN _ _ _) (congrArg (World.drewN _) (Nat.add_assoc _ _ _))⟩)))
    repeat (go_quiet (first | (go_at_call 55;(with_reducible refine (q3_Table.calls k1 _ _ lA aA true _ ?side1 ?side2 A12.out).mono ?_);(case side1=>repeat (first | exact (kC HRA.out HB.out) | (with_reducible refine Kd.C_alloc ?_ _) | (with_reducible refine Kd.C_drewN ?_ _) | (with_reducible refine Kd.C_drew ?_)));(case side2=>exact HCA.out);rintro e w20 ⟨rfl,hb⟩;replace BK111:=(kmv hb BK111);replace HB:=am (zqb (by repeat (first | (with_reducible first | exact HB.out | refine zqf ?_ GE111.out | apply zqc | apply zqa) | exact HB.out)) hb);(try clear hb);(try clear hb2);(try clear hk);(try clear hi);obtain ⟨hcz21_0,hcz21_1,hcz21_2,hcz21_3,hcz21_4⟩:=cO5 BK111.out) | (go_at_call 54;(with_reducible refine (q4_in.calls (lB.length : Int) 1 6 true _ A14.out).mono ?_);rintro e w' ⟨rfl,⟨nd,rfl⟩⟩;(try first | exact ⟨rfl,_,World.drewN_drewN _ _ _⟩ | exact ⟨rfl,_,Eq.trans (World.drewN_drewN _ _ _) (congrArg (World.drewN _) (Nat.add_assoc _ _ _))⟩)) | (go_at_call 39;(with_reducible refine (q4_Height.calls a0_3 true _ A16.out).mono ?_);rintro e w' ⟨rfl,⟨nd,rfl⟩⟩;(try first | exact ⟨rfl,_,World.drewN_drewN _ _ _⟩ | exact ⟨rfl,_,Eq.trans (World.drewN_drewN _ _ _) (congrArg (World.drewN _) (Nat.add_assoc _ _ _))⟩)) | (go_at_call 54;(with_reducible refine (q4_in.calls aC 0 100 t119 _ A18.out).mono ?_);rintro e w' ⟨rfl,⟨nd,rfl⟩⟩;(try first | exact ⟨rfl,_,World.drewN_drewN _ _ _⟩ | exact ⟨rfl,_,Eq.trans (World.drewN_drewN _ _ _) (congrArg (World.drewN _) (Nat.add_assoc _ _ _))⟩)));try go_wp2_with (first | (go_at_call 55;(with_reducible refine (q3_Table.calls k1 _ _ lA aA true _ ?side1 ?side2 A12.out).mono ?_);(case side1=>repeat (first | exact (kC HRA.out HB.out) | (with_reducible refine Kd.C_alloc ?_ _) | (with_reducible refine Kd.C_drewN ?_ _) | (with_reducible refine Kd.C_drew ?_)));(case side2=>exact HCA.out);rintro e w20 ⟨rfl,hb⟩;replace BK111:=(kmv hb BK111);replace HB:=am (zqb (by repeat (first | (with_reducible first | exact HB.out | refine zqf ?_ GE111.out | apply zqc | apply zqa) | exact HB.out)) hb);(try clear hb);(try clear hb2);(try clear hk);(try clear hi);obtain ⟨hcz21_0,hcz21_1,hcz21_2,hcz21_3,hcz21_4⟩:=cO5 BK111.out) | (go_at_call 54;(with_reducible refine (q4_in.calls (lB.length : Int) 1 6 true _ A14.out).mono ?_);rintro e w' ⟨rfl,⟨nd,rfl⟩⟩;(try first | exact ⟨rfl,_,World.drewN_drewN _ _ _⟩ | exact ⟨rfl,_,Eq.trans (World.drewN_drewN _ _ _) (congrArg (World.drewN _) (Nat.add_assoc _ _ _))⟩)) | (go_at_call 39;(with_reducible refine (q4_Height.calls a0_3 true _ A16.out).mono ?_);rintro e w' ⟨rfl,⟨nd,rfl⟩⟩;(try first | exact ⟨rfl,_,World.drewN_drewN _ _ _⟩ | exact ⟨rfl,_,Eq.trans (World.drewN_drewN _ _ _) (congrArg (World.drewN _) (Nat.add_assoc _ _ _))⟩)) | (go_at_call 54;(with_reducible refine (q4_in.calls aC 0 100 t119 _ A18.out).mono ?_);rintro e w' ⟨rfl,⟨nd,rfl⟩⟩;(try first | exact ⟨rfl,_,World.drewN_drewN _ _ _⟩ | exact ⟨rfl,_,Eq.trans (World.drewN_drewN _ _ _) (congrArg (World.drewN _) (Nat.add_assoc _ _ _))⟩))))
    go_ret
    exact ⟨by first | rfl | (simp [*]<;>rfl),zqa HB.out _⟩
def q4_Cups.f (a0 : Int) : Option (Bool):=(q4_in.f a0 0 10000).bind fun t120=>(some t120)
theorem q4_Cups.calls (a0 : Int) (r : Bool) (w : World) (h : q4_Cups.f a0 = some r) :
 Calls Tryz.prog 17 #[.int .i64 a0] w fun e w'=>e = .returned (.bool r)∧zqt w w':=by
 have H : ((q4_in.f a0 0 10000).bind fun t120=>(some t120)) = some r:=h
 clear h
 replace H:=obm H
 obtain ⟨t120,A20,H⟩:=H
 replace H : (some t120) = some r:=H
 have A2:=am A20
 clear A20
 obtain rfl:=Option.some.inj H
 go_enter Tryz.func17,Tryz.ntmps17
 go_wp2_with (first | ((with_reducible refine zqo (f:=54) rfl ?_);refine zq3 (some 4) rfl rfl Tryz.func54 (by kernel_rfl) rfl #[.int .i64 a0,.int .i64 0,.int .i64 10000] rfl (by (try simp only [List.map_toArray,List.map_cons,List.map_nil]);first | done | rfl | (simp only [List.length_drop,List.length_take];rfl)) ?_;(with_reducible refine (q4_in.calls a0 0 10000 t120 _ A2.out).mono ?_);rintro e w' ⟨rfl,⟨nd,rfl⟩⟩;refine ⟨_,rfl,?_⟩))
 go_ret
 exact ⟨by first | rfl | (simp;done) | (simp [*];done),by repeat (first | exact zqt.refl _ | apply zqt.step)⟩
def q4_Claims.l0 : Nat→List Int→Int→List (S126)→Int→List (S48)→Int→Int→Option (Bool)
 | 0,_,_,_,_,_,_,_=>none
 | k + 1,x1,x5,x122000,x122001,x122002,x122003,x122004=>if x5 < (x1.length : Int) then (if 0≤x5 then ((q4_Cups.f (rd x1 x5)).bind fun t123=>(if t123 = true then (q4_Claims.l0 k x1 (wrap64 (x5 + 1)) x122000 x122001 x122002 x122003 x122004) else (some false))) else (none)) else (some ((x1.length : Int) == (x122002.length : Int)))
def q4_Claims.f (k : Nat) (lA : List (S126)) (aA : Int) (lB : List (S48)) (a0_3 : Int) (aC : Int) (l1 : List Int) : Option (Bool):=q4_Claims.l0 k l1 0 lA aA lB a0_3 aC
theorem q4_Claims.calls (k : Nat) (AX : Option Addr) (c0_0 : Nat) (lA : List (S126)) (aA : Int) (AY : Option Addr) (cB : Nat) (lB : List (S48)) (a0_3 : Int) (aC : Int) (A1 : Option Addr) (c1 : Nat) (l1 : List Int) (r : Bool) (w : World) (hra : Kd.C k126 w AX lA.length lA) (hc0_0 : lA.length≤c0_0) (hrb : Kd.C k48 w AY lB.length lB) (hcb : lB.length≤cB) (hr1 : Kd.C (Kd.int .i64) w A1 l1.length l1) (hc1 : l1.length≤c1) (h : q4_Claims.f k lA aA lB a0_3 aC l1 = some r) :
 Calls Tryz.prog 16 #[.agg #[.slice AX lA.length c0_0,.int .i64 aA,.slice AY lB.length cB,.int .i64 a0_3,.int .i64 aC],.slice A1 l1.length c1] w fun e w'=>e = .returned (.bool r)∧Below w.heap.size w w':=by
 have hu27:=Tryz.underlying27
 have HRA:=am hra
 have HCA:=am hc0_0
 clear hra hc0_0
 have HRB:=am hrb
 have HCB:=am hcb
 clear hrb hcb
 have HR1:=am hr1
 have HC1:=am hc1
 clear hr1 hc1
 have HB:=am (Below.refl w.heap.size w)
 have H : (q4_Claims.l0 k l1 0 lA aA lB a0_3 aC) = some r:=h
 clear h
 replace H':=am H
 go_enter Tryz.func16,Tryz.ntmps16
 go_wp2_with (first | ((refine zqn (N:=2) rfl ?_);refine zqm rfl (N:=2) rfl (cs:=#[.slice AX lA.length c0_0,.int .i64 aA,.slice AY lB.length cB,.int .i64 a0_3,.int .i64 aC]) (t:=27) ?hr ?_;(case hr=>go_simp;try rfl);intro gb121 hg w3 hbox hb;have BK121:=am (hbox);have GW121:=am (zqq (HB.out) hg);have GE121:=am (zqq (HB.out) hg);replace HB:=am (zqb (HB.out) hb);clear hb hbox hg))
 go_loopg [5] k (fun kq v5 w'=>∃ (x5_1 : Int),v5 = .int .i64 x5_1∧zqk (q4_Claims.l0 kq l1 x5_1 lA aA lB a0_3 aC = some r)∧zqk (kq≤k)∧zqk (w'.heap[gb121]? = some (.cells #[(.slice AX lA.length c0_0),.int .i64 aA,(.slice AY lB.length cB),.int .i64 a0_3,.int .i64 aC] 27 (0,0)))∧zqk (Below w.heap.size w w'))
 case atStart=>exact ⟨(0),(by first | rfl | (simp;done) | (simp [*];done)),H',⟨Nat.le_refl _⟩,⟨BK121.out⟩,⟨HB.out⟩⟩
 case round =>
  clear H'
  obtain ⟨x5_1,rfl,HA,HK1,BK121,HB⟩:=hrel
  cases gk with
  | zero=>exact absurd HA.out (by simp [q4_Claims.l0])
  | succ k1 =>
   have H:=HA.out
   clear HA
   simp only [q4_Claims.l0] at H
   by_cases c4 : x5_1 < (l1.length : Int)
   case neg =>
    rw [if_neg c4] at H
    have c4b0 : decide (x5_1 < (l1.length : Int)) = false:=decide_eq_false c4
    clear c4
    obtain rfl:=Option.some.inj H
    obtain ⟨hcz8_0,hcz8_1,hcz8_2,hcz8_3,hcz8_4⟩:=cO5 BK121.out
    go_wp2
    go_ret
    exact ⟨by first | rfl | (simp [*]<;>rfl),HB.out⟩
   rw [if_pos c4] at H
   have c4b0 : decide (x5_1 < (l1.length : Int)) = true:=decide_eq_true c4
   clear c4
   by_cases c5 : 0≤x5_1
   case neg =>
    rw [if_neg c5] at H
    exact absurd H (by simp)
   rw [if_pos c5] at H
   have c5b0 : decide (0≤x5_1) = true:=decide_eq_true c5
   clear c5
   replace H:=obm H
   obtain ⟨t123,A60,H⟩:=H
   replace H : (if t123 = true then (q4_Claims.l0 k1 l1 (wrap64 (x5_1 + 1)) lA aA lB a0_3 aC) else (some false)) = some r:=H
   have A6:=am A60
   clear A60
   by_cases c7 : t123 = true
   ·subst c7
    replace H : (q4_Claims.l0 k1 l1 (wrap64 (x5_1 + 1)) lA aA lB a0_3 aC) = some r:=by rw [if_pos rfl] at H;exact H
    replace H':=am H
    have p122 : 0≤(x5_1 : Int):=of_decide_eq_true (by assumption)
    have q122 : x5_1 < (l1.length : Int):=of_decide_eq_true (by assumption)
    obtain ⟨ad122,e122,hx122_0⟩:=Kd.at_int HR1.out x5_1 p122 q122
    cases e122
    replace hx122_0:=(HB.out.cell (wbl hx122_0)).trans hx122_0
    replace p122:=eq_true p122
    replace q122:=eq_true q122
    go_wp2_with (first | ((with_reducible refine zqo (f:=17) rfl ?_);refine zq3 (some 16) rfl rfl Tryz.func17 (by kernel_rfl) rfl #[.int .i64 (rd l1 x5_1)] rfl (by (try simp only [List.map_toArray,List.map_cons,List.map_nil]);first | done | rfl | (simp only [List.length_drop,List.length_take];rfl)) ?_;(refine (q4_Cups.calls (rd l1 x5_1) true _ A6.out).mono ?_);rintro e w' ⟨rfl,⟨nd,rfl⟩⟩;refine ⟨_,rfl,?_⟩))
    go_roundg k1
    case measure=>have:=HK1.out;omega
    case rel=>exact ⟨(wrap64 (x5_1 + 1)),(by first | rfl | (simp;done) | (simp [*];done)),H',⟨by have:=HK1.out;omega⟩,⟨BK121.out⟩,⟨zqa HB.out _⟩⟩
   ·replace c7:=Bool.eq_false_iff.mpr c7
    subst c7
    replace H : (some false) = some r:=by rw [if_neg (show ¬ (false = true) by decide)] at H;exact H
    obtain rfl:=Option.some.inj H
    have p122 : 0≤(x5_1 : Int):=of_decide_eq_true (by assumption)
    have q122 : x5_1 < (l1.length : Int):=of_decide_eq_true (by assumption)
    obtain ⟨ad122,e122,hx122_0⟩:=Kd.at_int HR1.out x5_1 p122 q122
    cases e122
    replace hx122_0:=(HB.out.cell (wbl hx122_0)).trans hx122_0
    replace p122:=eq_true p122
    replace q122:=eq_true q122
    go_wp2_with (first | ((with_reducible refine zqo (f:=17) rfl ?_);refine zq3 (some 16) rfl rfl Tryz.func17 (by kernel_rfl) rfl #[.int .i64 (rd l1 x5_1)] rfl (by (try simp only [List.map_toArray,List.map_cons,List.map_nil]);first | done | rfl | (simp only [List.length_drop,List.length_take];rfl)) ?_;(refine (q4_Cups.calls (rd l1 x5_1) false _ A6.out).mono ?_);rintro e w' ⟨rfl,⟨nd,rfl⟩⟩;refine ⟨_,rfl,?_⟩))
    go_ret
    exact ⟨by first | rfl | (simp [*]<;>rfl),zqa HB.out _⟩
def q4_far.f (a0 : Int) (a1 : Int) : Option (Int):=some (mx (wrap64 (a0 - a1)) (wrap64 (a1 - a0)))
theorem q4_far.calls (a0 : Int) (a1 : Int) (r : Int) (w : World) (h : q4_far.f a0 a1 = some r) :
 Calls Tryz.prog 56 #[.int .i64 a0,.int .i64 a1] w fun e w'=>e = .returned (.int .i64 r)∧Below w.heap.size w w':=by
 have HB:=am (Below.refl w.heap.size w)
 have H : (some (mx (wrap64 (a0 - a1)) (wrap64 (a1 - a0)))) = some r:=h
 clear h
 obtain ⟨ji3,hji3⟩ : ∃ j_ : Int,(mx (wrap64 (a0 - a1)) (wrap64 (a1 - a0))) = j_:=⟨_,rfl⟩
 replace H : (some ji3) = some r:=by first | (rw [hji3] at H;exact H) | (simp only [hji3] at H ⊢;exact H)
 have hji3_ : (if (wrap64 (a0 - a1)) < (wrap64 (a1 - a0)) then (wrap64 (a1 - a0)) else (wrap64 (a0 - a1))) = ji3:=hji3
 obtain rfl:=Option.some.inj H
 go_enter Tryz.func56,Tryz.ntmps56
 go_wp2
 go_ret
 exact ⟨by first | rfl | (simp [errW_none,errW_some]<;>rfl) | (simp only [← hji3];first | rfl | (simp [errW_none,errW_some]<;>rfl)) | (simp [*,errW_none,errW_some]<;>rfl),HB.out⟩
end
end Go.Proofs.YtnnmnhpeblhiiaaGreatDoor.C

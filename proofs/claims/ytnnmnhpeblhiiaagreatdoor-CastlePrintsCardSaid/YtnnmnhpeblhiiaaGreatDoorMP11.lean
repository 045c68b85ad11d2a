/- A part of the proof: the walks of the functions that it reaches. TIGHT. -/
import Derived.Test.YtnnmnhpeblhiiaaGreatDoorMP10
set_option linter.unusedVariables false
set_option linter.unusedSimpArgs false
namespace Go.Proofs.YtnnmnhpeblhiiaaGreatDoor.C
open Go.ChangeShapes Go.WideShapes Go.ChangeAt Go.RowKit Go.Deep Go.Proofs.YtnnmnhpeblhiiaaGreatDoorW.PrintWords Go.Proofs.YtnnmnhpeblhiiaaGreatDoorW.PrintLast Go.Proofs.YtnnmnhpeblhiiaaGreatDoorW.PrintMore
set_option linter.unusedVariables false
set_option linter.unusedSimpArgs false
set_option maxHeartbeats 16000000
set_option maxRecDepth 100000
theorem tab_of_vars {P : Program} {W : World} {name : String} {k : IntKind} {zs : List Int} {rest : List (String × DataW Unit)} {g : Nat} {t e : TypeId} {n : Nat} {ps : List MemPlace}
  (hg : P.globalNamed name = some g) (hty : (P.globals[g]?).map (·.type) = some t) (ht : P.underlying t = some (.array n e)) (he : P.underlying e = some (.int k)) (hce : P.cellsOf e = 1) (hct : P.cellsOf t = n)
  (h : DataW.LaidVars P W ((name,Lib.tabData k zs) :: rest) ps) : Lib.TabIs P W name k zs:=by
 obtain ⟨g',t',cs,fuel,p,q,hg',ht',hvar,hd,_,_⟩:=h
 obtain rfl:=Option.some.inj (hg.symm.trans hg')
 obtain rfl:=Option.some.inj (hty.symm.trans ht')
 unfold Lib.TabIs
 rw [hvar,← Lib.cells_of_tab ht he hce hct hd]
theorem gv_of {W : World} {a b : String × DataW Unit} {rest : List (String × DataW Unit)} (h : laidMet Tryz.prog (a :: b :: ("internal/strconv.uint64pow10",Lib.tabData .u64 Lib.pow10Tab) :: rest) W) (hs : W.ShapedOpen Tryz.prog) : GV W := by
 constructor
 ·obtain ⟨ps,⟨_,_,_,_,_,q1,_,_,_,_,⟨_,_,_,_,_,q2,_,_,_,_,hv,_⟩,_⟩,_⟩:=h
  exact tab_of_vars (g:=0) (n:=20) (t:=199) (e:=189) (by kernel_rfl) (by kernel_rfl) (by kernel_rfl) (by kernel_rfl) (by kernel_rfl) (by kernel_rfl) hv
 ·obtain ⟨cs,hc,hsz,hok⟩:=hs.1 1 #[.int .i64 0] 3 (of_decide_eq_true (by kernel_rfl)) (by kernel_rfl)
  obtain ⟨ts,hts,hm,hv⟩:=hok (by kernel_rfl)
  obtain rfl : ts = [3]:=Option.some.inj (hts.symm.trans (by kernel_rfl))
  have h0 : cs[0]? = some (cs[0]'(by rw [hsz];decide)):=Array.getElem?_eq_getElem _
  generalize cs[0]'(by rw [hsz];decide) = v at h0
  obtain ⟨u,hu,hk⟩:=hv 0 v h0
  obtain rfl : u = 3:=by simpa using hu.symm
  unfold Cell.ok at hk
  rw [Tryz.underlying3] at hk
  cases v with
  | int k n =>
   obtain ⟨rfl,_⟩:=hk
   exact ⟨n,(blk_cell hc 0).trans h0⟩
  | _=>exact hk.elim
end Go.Proofs.YtnnmnhpeblhiiaaGreatDoor.C
namespace Go.Proofs.YtnnmnhpeblhiiaaGreatDoor.C
open Go.RowKit Go.Proofs.YtnnmnhpeblhiiaaGreatDoorW.PrintWords Go.Proofs.YtnnmnhpeblhiiaaGreatDoorW.PrintLast Go.Proofs.YtnnmnhpeblhiiaaGreatDoorW.PrintMore
set_option linter.unusedVariables false
set_option linter.unusedSimpArgs false
set_option maxHeartbeats 16000000
set_option maxRecDepth 100000
section
attribute [local go_sem] max2_int min2_int max_two min_two
def l4_short.f (l0_0 : List (S126)) (a0_1 : Int) (l0_2 : List (S48)) (a0_3 : Int) (a0_4 : Int) : Option (Bool) := if (l0_0.length : Int) ≤ 15 then (some (decide ((l0_2.length : Int) ≤ 8))) else (some false)
theorem l4_short.calls (A0_0 : Option Addr) (c0_0 : Nat) (l0_0 : List (S126)) (a0_1 : Int) (A0_2 : Option Addr) (c0_2 : Nat) (l0_2 : List (S48)) (a0_3 : Int) (a0_4 : Int) (r : Bool) (w : World) (hr0_0 : Kd.C k126 w A0_0 l0_0.length l0_0) (hc0_0 : l0_0.length ≤ c0_0) (hr0_2 : Kd.C k48 w A0_2 l0_2.length l0_2) (hc0_2 : l0_2.length ≤ c0_2) (h : l4_short.f l0_0 a0_1 l0_2 a0_3 a0_4 = some r) :
 Calls Tryz.prog 14 #[.agg #[.slice A0_0 l0_0.length c0_0,.int .i64 a0_1,.slice A0_2 l0_2.length c0_2,.int .i64 a0_3,.int .i64 a0_4]] w fun e w' => e = .returned (.bool r) ∧ Below w.heap.size w w' := by
 have hu27 := Tryz.underlying27
 have HR0_0 := am hr0_0
 have HC0_0 := am hc0_0
 clear hr0_0 hc0_0
 have HR0_2 := am hr0_2
 have HC0_2 := am hc0_2
 clear hr0_2 hc0_2
 have HB := am (Below.refl w.heap.size w)
 have H : (if (l0_0.length : Int) ≤ 15 then (some (decide ((l0_2.length : Int) ≤ 8))) else (some false)) = some r := h
 clear h
 by_cases c2 : (l0_0.length : Int) ≤ 15
 · rw [if_pos c2] at H
   have c2b0 : decide ((l0_0.length : Int) ≤ 15) = true := decide_eq_true c2
   have c2b1 : decide (l0_0.length ≤ 15) = true := decide_eq_true (by omega)
   clear c2
   obtain rfl := Option.some.inj H
   go_enter Tryz.func14,Tryz.ntmps14
   go_wp2_with (first | ((refine gate_dst (N := 1) rfl ?_);(try (refine gate_guard (by rfl) ?_;dsimp only));refine box_event rfl (N := 1) rfl (cs := #[.slice A0_0 l0_0.length c0_0,.int .i64 a0_1,.slice A0_2 l0_2.length c0_2,.int .i64 a0_3,.int .i64 a0_4]) (t := 27) ?hr ?_;(case hr => go_simp;try rfl);intro gb101 hg w3 hbox hb;have BK101 := am (hbox);have GW101 := am (ge_new (HB.out) hg);have GE101 := am (ge_new (HB.out) hg);replace HB := am (below_step (HB.out) hb);clear hb hbox hg;obtain ⟨hcz4_0,hcz4_1,hcz4_2,hcz4_3,hcz4_4⟩ := cO5 BK101.out))
   go_ret
   exact ⟨by first | rfl | (simp [*] <;> rfl),HB.out⟩
 · rw [if_neg c2] at H
   have c2b0 : decide ((l0_0.length : Int) ≤ 15) = false := decide_eq_false c2
   have c2b1 : decide (l0_0.length ≤ 15) = false := decide_eq_false (by omega)
   clear c2
   obtain rfl := Option.some.inj H
   go_enter Tryz.func14,Tryz.ntmps14
   go_wp2_with (first | ((refine gate_dst (N := 1) rfl ?_);(try (refine gate_guard (by rfl) ?_;dsimp only));refine box_event rfl (N := 1) rfl (cs := #[.slice A0_0 l0_0.length c0_0,.int .i64 a0_1,.slice A0_2 l0_2.length c0_2,.int .i64 a0_3,.int .i64 a0_4]) (t := 27) ?hr ?_;(case hr => go_simp;try rfl);intro gb101 hg w5 hbox hb;have BK101 := am (hbox);have GW101 := am (ge_new (HB.out) hg);have GE101 := am (ge_new (HB.out) hg);replace HB := am (below_step (HB.out) hb);clear hb hbox hg;obtain ⟨hcz6_0,hcz6_1,hcz6_2,hcz6_3,hcz6_4⟩ := cO5 BK101.out))
   go_ret
   exact ⟨by first | rfl | (simp [*] <;> rfl),HB.out⟩
def q4_in.f (a0 : Int) (a1 : Int) (a2 : Int) : Option (Bool) := if a0 ≥ a1 then (some (decide (a0 ≤ a2))) else (some false)
theorem q4_in.calls (a0 : Int) (a1 : Int) (a2 : Int) (r : Bool) (w : World) (h : q4_in.f a0 a1 a2 = some r) :
 Calls Tryz.prog 54 #[.int .i64 a0,.int .i64 a1,.int .i64 a2] w fun e w' => e = .returned (.bool r) ∧ Drawn0 w w' := by
 have H : (if a0 ≥ a1 then (some (decide (a0 ≤ a2))) else (some false)) = some r := h
 clear h
 by_cases c4 : a0 ≥ a1
 · rw [if_pos c4] at H
   have c4b0 : decide (a1 ≤ a0) = true := decide_eq_true c4
   clear c4
   obtain rfl := Option.some.inj H
   go_enter Tryz.func54,Tryz.ntmps54
   go_wp2
   go_ret
   exact ⟨by first | rfl | (simp;done) | (simp [*];done),by repeat (first | exact Drawn0.refl _ | apply Drawn0.step)⟩
 · rw [if_neg c4] at H
   have c4b0 : decide (a1 ≤ a0) = false := decide_eq_false c4
   clear c4
   obtain rfl := Option.some.inj H
   go_enter Tryz.func54,Tryz.ntmps54
   go_wp2
   go_ret
   exact ⟨by first | rfl | (simp;done) | (simp [*];done),by repeat (first | exact Drawn0.refl _ | apply Drawn0.step)⟩
def q4_Height.f (a0 : Int) : Option (Bool) := (q4_in.f a0 0 40).bind fun t102 => (some t102)
theorem q4_Height.calls (a0 : Int) (r : Bool) (w : World) (h : q4_Height.f a0 = some r) :
 Calls Tryz.prog 39 #[.int .i64 a0] w fun e w' => e = .returned (.bool r) ∧ Drawn0 w w' := by
 have H : ((q4_in.f a0 0 40).bind fun t102 => (some t102)) = some r := h
 clear h
 replace H := obm H
 obtain ⟨t102,A20,H⟩ := H
 replace H : (some t102) = some r := H
 have A2 := am A20
 clear A20
 obtain rfl := Option.some.inj H
 go_enter Tryz.func39,Tryz.ntmps39
 go_wp2_with (first | ((with_reducible refine gate_callee (f := 54) rfl ?_);refine goesL_ (some 4) rfl rfl Tryz.func54 (by kernel_rfl) rfl #[.int .i64 a0,.int .i64 0,.int .i64 40] rfl (by (try simp only [List.map_toArray,List.map_cons,List.map_nil]);first | done | rfl | (simp only [List.length_drop,List.length_take];rfl)) ?_;(with_reducible refine (q4_in.calls a0 0 40 t102 _ A2.out).mono ?_);rintro e w' ⟨rfl,⟨nd,rfl⟩⟩;refine ⟨_,rfl,?_⟩))
 go_ret
 exact ⟨by first | rfl | (simp;done) | (simp [*];done),by repeat (first | exact Drawn0.refl _ | apply Drawn0.step)⟩
def q3_in.f (a0 : Int) (a1 : Int) (a2 : Int) : Option (Bool) := if a0 ≥ a1 then (some (decide (a0 ≤ a2))) else (some false)
theorem q3_in.calls (a0 : Int) (a1 : Int) (a2 : Int) (r : Bool) (w : World) (h : q3_in.f a0 a1 a2 = some r) :
 Calls Tryz.prog 98 #[.int .i64 a0,.int .i64 a1,.int .i64 a2] w fun e w' => e = .returned (.bool r) ∧ Drawn0 w w' := by
 have H : (if a0 ≥ a1 then (some (decide (a0 ≤ a2))) else (some false)) = some r := h
 clear h
 by_cases c4 : a0 ≥ a1
 · rw [if_pos c4] at H
   have c4b0 : decide (a1 ≤ a0) = true := decide_eq_true c4
   clear c4
   obtain rfl := Option.some.inj H
   go_enter Tryz.func98,Tryz.ntmps98
   go_wp2
   go_ret
   exact ⟨by first | rfl | (simp;done) | (simp [*];done),by repeat (first | exact Drawn0.refl _ | apply Drawn0.step)⟩
 · rw [if_neg c4] at H
   have c4b0 : decide (a1 ≤ a0) = false := decide_eq_false c4
   clear c4
   obtain rfl := Option.some.inj H
   go_enter Tryz.func98,Tryz.ntmps98
   go_wp2
   go_ret
   exact ⟨by first | rfl | (simp;done) | (simp [*];done),by repeat (first | exact Drawn0.refl _ | apply Drawn0.step)⟩
def q3_Table.l0 : Nat → Int → List (S126) → Int → Option (Bool)
 | 0,_,_,_ => none
 | k + 1,x3,x104000,x104001 => if x3 < (x104000.length : Int) then (if 0 ≤ x3 then ((q3_in.f ((rd_T126 x104000 x3).f0) 1 60).bind fun t108 => (if t108 = true then ((q3_in.f ((rd_T126 x104000 x3).f1) 1 60).bind fun t109 => (if t109 = true then ((q3_in.f ((rd_T126 x104000 x3).f2) 1 1000).bind fun t110 => (if t110 = true then (q3_Table.l0 k (wrap64 (x3 + 1)) x104000 x104001) else (some false))) else (some false))) else (some false))) else (none)) else ((q3_in.f (x104000.length : Int) 1 12).bind fun t104 => (if t104 = true then ((q3_in.f x104001 0 100).bind fun t105 => (some t105)) else (some false)))
def q3_Table.f (k : Nat) (l0_0 : List (S126)) (a0_1 : Int) : Option (Bool) := q3_Table.l0 k 0 l0_0 a0_1
theorem q3_Table.calls (k : Nat) (A0_0 : Option Addr) (c0_0 : Nat) (l0_0 : List (S126)) (a0_1 : Int) (r : Bool) (w : World) (hr0_0 : Kd.C k126 w A0_0 l0_0.length l0_0) (hc0_0 : l0_0.length ≤ c0_0) (h : q3_Table.f k l0_0 a0_1 = some r) :
 Calls Tryz.prog 55 #[.agg #[.slice A0_0 l0_0.length c0_0,.int .i64 a0_1]] w fun e w' => e = .returned (.bool r) ∧ Below w.heap.size w w' := by
 have hu24 := Tryz.underlying24
 have hu126 := Tryz.underlying126
 have HR0_0 := am hr0_0
 have HC0_0 := am hc0_0
 clear hr0_0 hc0_0
 have HB := am (Below.refl w.heap.size w)
 have H : (q3_Table.l0 k 0 l0_0 a0_1) = some r := h
 clear h
 replace H' := am H
 go_enter Tryz.func55,Tryz.ntmps55
 go_wp2_with (first | ((refine gate_dst (N := 1) rfl ?_);refine box_event rfl (N := 1) rfl (cs := #[.slice A0_0 l0_0.length c0_0,.int .i64 a0_1]) (t := 24) ?hr ?_;(case hr => go_simp;try rfl);intro gb103 hg w2 hbox hb;have BK103 := am (hbox);have GW103 := am (ge_new (HB.out) hg);have GE103 := am (ge_new (HB.out) hg);replace HB := am (below_step (HB.out) hb);clear hb hbox hg))
 go_loopg [3] k (fun kq v3 w' => ∃ (x3_1 : Int),v3 = .int .i64 x3_1 ∧ Aside0 (q3_Table.l0 kq x3_1 l0_0 a0_1 = some r) ∧ Aside0 (kq ≤ k) ∧ Aside0 (w'.heap[gb103]? = some (.cells #[(.slice A0_0 l0_0.length c0_0),.int .i64 a0_1] 24 (0,0))) ∧ Aside0 (Below w.heap.size w w'))
 case atStart => exact ⟨(0),(by first | rfl | (simp;done) | (simp [*];done)),H',⟨Nat.le_refl _⟩,⟨by (with_reducible repeat (first | refine blk_drewN ?_ _ | refine blk_drew ?_ | refine blk_alloc ?_ _));exact BK103.out⟩,⟨HB.out⟩⟩
 case round =>
  clear H'
  obtain ⟨x3_1,rfl,HA,HK1,BK103,HB⟩ := hrel
  cases gk with
  | zero => exact absurd HA.out (by simp [q3_Table.l0])
  | succ k1 =>
   have H := HA.out
   clear HA
   simp only [q3_Table.l0] at H
   by_cases c3 : x3_1 < (l0_0.length : Int)
   case neg =>
    rw [if_neg c3] at H
    have c3b0 : decide (x3_1 < (l0_0.length : Int)) = false := decide_eq_false c3
    clear c3
    replace H := obm H
    obtain ⟨t104,A270,H⟩ := H
    replace H : (if t104 = true then ((q3_in.f a0_1 0 100).bind fun t105 => (some t105)) else (some false)) = some r := H
    have A27 := am A270
    clear A270
    by_cases c28 : t104 = true
    case neg =>
     replace c28 := Bool.eq_false_iff.mpr c28
     subst c28
     replace H : (some false) = some r := by rw [if_neg (show ¬ (false = true) by decide)] at H;exact H
     obtain rfl := Option.some.inj H
     obtain ⟨hcz31_0,hcz31_1⟩ := cO2 BK103.out
     have hfz31_0 := blk_frozen BK103.out 0
     have hfz31_1 := blk_frozen BK103.out 1
     go_wp2_with (first | ((with_reducible refine gate_callee (f := 98) rfl ?_);refine goesL_ (some 36) rfl rfl Tryz.func98 (by kernel_rfl) rfl #[.int .i64 (l0_0.length : Int),.int .i64 1,.int .i64 12] rfl (by (try simp only [List.map_toArray,List.map_cons,List.map_nil]);first | done | rfl | (simp only [List.length_drop,List.length_take];rfl)) ?_;(with_reducible refine (q3_in.calls (l0_0.length : Int) 1 12 false _ A27.out).mono ?_);rintro e w' ⟨rfl,⟨nd,rfl⟩⟩;refine ⟨_,rfl,?_⟩))
     go_ret
     exact ⟨by first | rfl | (simp [*] <;> rfl),pw_below_drewN HB.out _⟩
    subst c28
    replace H : ((q3_in.f a0_1 0 100).bind fun t105 => (some t105)) = some r := by rw [if_pos rfl] at H;exact H
    replace H := obm H
    obtain ⟨t105,A290,H⟩ := H
    replace H : (some t105) = some r := H
    have A29 := am A290
    clear A290
    obtain rfl := Option.some.inj H
    obtain ⟨hcz30_0,hcz30_1⟩ := cO2 BK103.out
    have hfz30_0 := blk_frozen BK103.out 0
    have hfz30_1 := blk_frozen BK103.out 1
    go_wp2_with (first | ((with_reducible refine gate_callee (f := 98) rfl ?_);refine goesL_ (some 36) rfl rfl Tryz.func98 (by kernel_rfl) rfl #[.int .i64 (l0_0.length : Int),.int .i64 1,.int .i64 12] rfl (by (try simp only [List.map_toArray,List.map_cons,List.map_nil]);first | done | rfl | (simp only [List.length_drop,List.length_take];rfl)) ?_;(with_reducible refine (q3_in.calls (l0_0.length : Int) 1 12 true _ A27.out).mono ?_);rintro e w' ⟨rfl,⟨nd,rfl⟩⟩;refine ⟨_,rfl,?_⟩) | (go_at_call 98;(with_reducible refine (q3_in.calls a0_1 0 100 t105 _ A29.out).mono ?_);rintro e w' ⟨rfl,⟨nd,rfl⟩⟩))
    go_ret
    exact ⟨by first | rfl | (simp [*] <;> rfl),pw_below_drewN HB.out _⟩
   rw [if_pos c3] at H
   have c3b0 : decide (x3_1 < (l0_0.length : Int)) = true := decide_eq_true c3
   clear c3
   by_cases c4 : 0 ≤ x3_1
   case neg =>
    rw [if_neg c4] at H
    exact absurd H (by simp)
   rw [if_pos c4] at H
   have c4b0 : decide (0 ≤ x3_1) = true := decide_eq_true c4
   clear c4
   replace H := obm H
   obtain ⟨t108,A50,H⟩ := H
   replace H : (if t108 = true then ((q3_in.f ((rd_T126 l0_0 x3_1).f1) 1 60).bind fun t109 => (if t109 = true then ((q3_in.f ((rd_T126 l0_0 x3_1).f2) 1 1000).bind fun t110 => (if t110 = true then (q3_Table.l0 k1 (wrap64 (x3_1 + 1)) l0_0 a0_1) else (some false))) else (some false))) else (some false)) = some r := H
   have A5 := am A50
   clear A50
   by_cases c6 : t108 = true
   case neg =>
    replace c6 := Bool.eq_false_iff.mpr c6
    subst c6
    replace H : (some false) = some r := by rw [if_neg (show ¬ (false = true) by decide)] at H;exact H
    obtain rfl := Option.some.inj H
    obtain ⟨hcz23_0,hcz23_1⟩ := cO2 BK103.out
    have hfz23_0 := blk_frozen BK103.out 0
    have hfz23_1 := blk_frozen BK103.out 1
    have p106 : 0 ≤ (x3_1 : Int) := of_decide_eq_true (by assumption)
    have q106 : x3_1 < (l0_0.length : Int) := of_decide_eq_true (by assumption)
    obtain ⟨ad106,e106,hx106_0,hx106_1,hx106_2⟩ := at_T126 HR0_0.out x3_1 p106 q106
    cases e106
    replace hx106_0 := (HB.out.cell (wbl hx106_0)).trans hx106_0
    replace hx106_1 := (HB.out.cell (wbl hx106_1)).trans hx106_1
    replace hx106_2 := (HB.out.cell (wbl hx106_2)).trans hx106_2
    replace p106 := eq_true p106
    replace q106 := eq_true q106
    go_wp2_with (first | ((refine gate_dst (N := 4) rfl ?_);refine box_event rfl (N := 4) rfl (cs := #[.int .i64 0,.int .i64 0,.int .i64 0]) (t := 126) ?hr ?_;(case hr => go_simp;try rfl);intro gb107 hg w24 hbox hb;have BK107 := am (hbox);have GW107 := am (ge_new (HB.out) hg);have GE107 := am (ge_new (HB.out) hg);have NB103_107 := am ((by rw [hg];exact Nat.ne_of_lt (blk_lt (g := gb103) (o := .cells #[.slice (some ad106) l0_0.length c0_0,.int .i64 a0_1] 24 (0,0)) (by (with_reducible repeat (first | refine blk_drewN ?_ _ | refine blk_drew ?_ | refine blk_alloc ?_ _));exact BK103.out)) : gb103 ≠ gb107));have NB107_103 := am ((by rw [hg];exact Nat.ne_of_gt (blk_lt (g := gb103) (o := .cells #[.slice (some ad106) l0_0.length c0_0,.int .i64 a0_1] 24 (0,0)) (by (with_reducible repeat (first | refine blk_drewN ?_ _ | refine blk_drew ?_ | refine blk_alloc ?_ _));exact BK103.out)) : gb107 ≠ gb103));replace BK103 := am (blk_below (g := gb103) (o := .cells #[.slice (some ad106) l0_0.length c0_0,.int .i64 a0_1] 24 (0,0)) (by (with_reducible repeat (first | refine blk_drewN ?_ _ | refine blk_drew ?_ | refine blk_alloc ?_ _));exact BK103.out) hb);replace HB := am (below_step (HB.out) hb);clear hb hbox hg;have hnb25 := NB107_103.out;have hnc25 := NB103_107.out;obtain ⟨hcz26_0,hcz26_1,hcz26_2⟩ := cO3 BK107.out;have hfz26_0 := blk_frozen BK107.out 0;have hfz26_1 := blk_frozen BK107.out 1;have hfz26_2 := blk_frozen BK107.out 2) | ((with_reducible refine gate_callee (f := 98) rfl ?_);refine goesL_ (some 19) rfl rfl Tryz.func98 (by kernel_rfl) rfl #[.int .i64 ((rd_T126 l0_0 x3_1).f0),.int .i64 1,.int .i64 60] rfl (by (try simp only [List.map_toArray,List.map_cons,List.map_nil]);first | done | rfl | (simp only [List.length_drop,List.length_take];rfl)) ?_;(with_reducible refine (q3_in.calls ((rd_T126 l0_0 x3_1).f0) 1 60 false _ A5.out).mono ?_);rintro e w' ⟨rfl,⟨nd,rfl⟩⟩;refine ⟨_,rfl,?_⟩))
    go_ret
    exact ⟨by first | rfl | (simp [*] <;> rfl),by repeat (first | (with_reducible first | exact HB.out | refine below_set ?_ (Aside0.out (by assumption)) | apply below_alloc | apply pw_below_drewN) | exact HB.out)⟩
   subst c6
   replace H : ((q3_in.f ((rd_T126 l0_0 x3_1).f1) 1 60).bind fun t109 => (if t109 = true then ((q3_in.f ((rd_T126 l0_0 x3_1).f2) 1 1000).bind fun t110 => (if t110 = true then (q3_Table.l0 k1 (wrap64 (x3_1 + 1)) l0_0 a0_1) else (some false))) else (some false))) = some r := by rw [if_pos rfl] at H;exact H
   replace H := obm H
   obtain ⟨t109,A70,H⟩ := H
   replace H : (if t109 = true then ((q3_in.f ((rd_T126 l0_0 x3_1).f2) 1 1000).bind fun t110 => (if t110 = true then (q3_Table.l0 k1 (wrap64 (x3_1 + 1)) l0_0 a0_1) else (some false))) else (some false)) = some r := H
   have A7 := am A70
   clear A70
   by_cases c8 : t109 = true
   case neg =>
    replace c8 := Bool.eq_false_iff.mpr c8
    subst c8
    replace H : (some false) = some r := by rw [if_neg (show ¬ (false = true) by decide)] at H;exact H
    obtain rfl := Option.some.inj H
    obtain ⟨hcz19_0,hcz19_1⟩ := cO2 BK103.out
    have hfz19_0 := blk_frozen BK103.out 0
    have hfz19_1 := blk_frozen BK103.out 1
    have p106 : 0 ≤ (x3_1 : Int) := of_decide_eq_true (by assumption)
    have q106 : x3_1 < (l0_0.length : Int) := of_decide_eq_true (by assumption)
    obtain ⟨ad106,e106,hx106_0,hx106_1,hx106_2⟩ := at_T126 HR0_0.out x3_1 p106 q106
    cases e106
    replace hx106_0 := (HB.out.cell (wbl hx106_0)).trans hx106_0
    replace hx106_1 := (HB.out.cell (wbl hx106_1)).trans hx106_1
    replace hx106_2 := (HB.out.cell (wbl hx106_2)).trans hx106_2
    replace p106 := eq_true p106
    replace q106 := eq_true q106
    go_wp2_with (first | ((refine gate_dst (N := 4) rfl ?_);refine box_event rfl (N := 4) rfl (cs := #[.int .i64 0,.int .i64 0,.int .i64 0]) (t := 126) ?hr ?_;(case hr => go_simp;try rfl);intro gb107 hg w20 hbox hb;have BK107 := am (hbox);have GW107 := am (ge_new (HB.out) hg);have GE107 := am (ge_new (HB.out) hg);have NB103_107 := am ((by rw [hg];exact Nat.ne_of_lt (blk_lt (g := gb103) (o := .cells #[.slice (some ad106) l0_0.length c0_0,.int .i64 a0_1] 24 (0,0)) (by (with_reducible repeat (first | refine blk_drewN ?_ _ | refine blk_drew ?_ | refine blk_alloc ?_ _));exact BK103.out)) : gb103 ≠ gb107));have NB107_103 := am ((by rw [hg];exact Nat.ne_of_gt (blk_lt (g := gb103) (o := .cells #[.slice (some ad106) l0_0.length c0_0,.int .i64 a0_1] 24 (0,0)) (by (with_reducible repeat (first | refine blk_drewN ?_ _ | refine blk_drew ?_ | refine blk_alloc ?_ _));exact BK103.out)) : gb107 ≠ gb103));replace BK103 := am (blk_below (g := gb103) (o := .cells #[.slice (some ad106) l0_0.length c0_0,.int .i64 a0_1] 24 (0,0)) (by (with_reducible repeat (first | refine blk_drewN ?_ _ | refine blk_drew ?_ | refine blk_alloc ?_ _));exact BK103.out) hb);replace HB := am (below_step (HB.out) hb);clear hb hbox hg;have hnb21 := NB107_103.out;have hnc21 := NB103_107.out;obtain ⟨hcz22_0,hcz22_1,hcz22_2⟩ := cO3 BK107.out;have hfz22_0 := blk_frozen BK107.out 0;have hfz22_1 := blk_frozen BK107.out 1;have hfz22_2 := blk_frozen BK107.out 2) | ((with_reducible refine gate_callee (f := 98) rfl ?_);refine goesL_ (some 19) rfl rfl Tryz.func98 (by kernel_rfl) rfl #[.int .i64 ((rd_T126 l0_0 x3_1).f0),.int .i64 1,.int .i64 60] rfl (by (try simp only [List.map_toArray,List.map_cons,List.map_nil]);first | done | rfl | (simp only [List.length_drop,List.length_take];rfl)) ?_;(with_reducible refine (q3_in.calls ((rd_T126 l0_0 x3_1).f0) 1 60 true _ A5.out).mono ?_);rintro e w' ⟨rfl,⟨nd,rfl⟩⟩;refine ⟨_,rfl,?_⟩) | (go_at_call 98;(with_reducible refine (q3_in.calls ((rd_T126 l0_0 x3_1).f1) 1 60 false _ A7.out).mono ?_);rintro e w' ⟨rfl,⟨nd,rfl⟩⟩))
    go_ret
    exact ⟨by first | rfl | (simp [*] <;> rfl),by repeat (first | (with_reducible first | exact HB.out | refine below_set ?_ (Aside0.out (by assumption)) | apply below_alloc | apply pw_below_drewN) | exact HB.out)⟩
   subst c8
   replace H : ((q3_in.f ((rd_T126 l0_0 x3_1).f2) 1 1000).bind fun t110 => (if t110 = true then (q3_Table.l0 k1 (wrap64 (x3_1 + 1)) l0_0 a0_1) else (some false))) = some r := by rw [if_pos rfl] at H;exact H
   replace H := obm H
   obtain ⟨t110,A90,H⟩ := H
   replace H : (if t110 = true then (q3_Table.l0 k1 (wrap64 (x3_1 + 1)) l0_0 a0_1) else (some false)) = some r := H
   have A9 := am A90
   clear A90
   by_cases c10 : t110 = true
   · subst c10
     replace H : (q3_Table.l0 k1 (wrap64 (x3_1 + 1)) l0_0 a0_1) = some r := by rw [if_pos rfl] at H;exact H
     replace H' := am H
     obtain ⟨hcz11_0,hcz11_1⟩ := cO2 BK103.out
     have hfz11_0 := blk_frozen BK103.out 0
     have hfz11_1 := blk_frozen BK103.out 1
     have p106 : 0 ≤ (x3_1 : Int) := of_decide_eq_true (by assumption)
     have q106 : x3_1 < (l0_0.length : Int) := of_decide_eq_true (by assumption)
     obtain ⟨ad106,e106,hx106_0,hx106_1,hx106_2⟩ := at_T126 HR0_0.out x3_1 p106 q106
     cases e106
     replace hx106_0 := (HB.out.cell (wbl hx106_0)).trans hx106_0
     replace hx106_1 := (HB.out.cell (wbl hx106_1)).trans hx106_1
     replace hx106_2 := (HB.out.cell (wbl hx106_2)).trans hx106_2
     replace p106 := eq_true p106
     replace q106 := eq_true q106
     go_wp2_with (first | ((refine gate_dst (N := 4) rfl ?_);refine box_event rfl (N := 4) rfl (cs := #[.int .i64 0,.int .i64 0,.int .i64 0]) (t := 126) ?hr ?_;(case hr => go_simp;try rfl);intro gb107 hg w12 hbox hb;have BK107 := am (hbox);have GW107 := am (ge_new (HB.out) hg);have GE107 := am (ge_new (HB.out) hg);have NB103_107 := am ((by rw [hg];exact Nat.ne_of_lt (blk_lt (g := gb103) (o := .cells #[.slice (some ad106) l0_0.length c0_0,.int .i64 a0_1] 24 (0,0)) (by (with_reducible repeat (first | refine blk_drewN ?_ _ | refine blk_drew ?_ | refine blk_alloc ?_ _));exact BK103.out)) : gb103 ≠ gb107));have NB107_103 := am ((by rw [hg];exact Nat.ne_of_gt (blk_lt (g := gb103) (o := .cells #[.slice (some ad106) l0_0.length c0_0,.int .i64 a0_1] 24 (0,0)) (by (with_reducible repeat (first | refine blk_drewN ?_ _ | refine blk_drew ?_ | refine blk_alloc ?_ _));exact BK103.out)) : gb107 ≠ gb103));replace BK103 := am (blk_below (g := gb103) (o := .cells #[.slice (some ad106) l0_0.length c0_0,.int .i64 a0_1] 24 (0,0)) (by (with_reducible repeat (first | refine blk_drewN ?_ _ | refine blk_drew ?_ | refine blk_alloc ?_ _));exact BK103.out) hb);replace HB := am (below_step (HB.out) hb);clear hb hbox hg;have hnb13 := NB107_103.out;have hnc13 := NB103_107.out;obtain ⟨hcz14_0,hcz14_1,hcz14_2⟩ := cO3 BK107.out;have hfz14_0 := blk_frozen BK107.out 0;have hfz14_1 := blk_frozen BK107.out 1;have hfz14_2 := blk_frozen BK107.out 2) | ((with_reducible refine gate_callee (f := 98) rfl ?_);refine goesL_ (some 19) rfl rfl Tryz.func98 (by kernel_rfl) rfl #[.int .i64 ((rd_T126 l0_0 x3_1).f0),.int .i64 1,.int .i64 60] rfl (by (try simp only [List.map_toArray,List.map_cons,List.map_nil]);first | done | rfl | (simp only [List.length_drop,List.length_take];rfl)) ?_;(with_reducible refine (q3_in.calls ((rd_T126 l0_0 x3_1).f0) 1 60 true _ A5.out).mono ?_);rintro e w' ⟨rfl,⟨nd,rfl⟩⟩;refine ⟨_,rfl,?_⟩) | (go_at_call 98;(with_reducible refine (q3_in.calls ((rd_T126 l0_0 x3_1).f1) 1 60 true _ A7.out).mono ?_);rintro e w' ⟨rfl,⟨nd,rfl⟩⟩) | (go_at_call 98;(with_reducible refine (q3_in.calls ((rd_T126 l0_0 x3_1).f2) 1 1000 true _ A9.out).mono ?_);rintro e w' ⟨rfl,⟨nd,rfl⟩⟩))
     go_roundg k1
     case measure => have := HK1.out;omega
     case rel => exact ⟨(wrap64 (x3_1 + 1)),(by first | rfl | (simp;done) | (simp [*];done)),H',⟨by have := HK1.out;omega⟩,⟨by (with_reducible repeat (first | refine blk_drewN ?_ _ | refine blk_drew ?_ | refine blk_alloc ?_ _));refine blk_far ?_ NB103_107.out _;(with_reducible repeat (first | refine blk_drewN ?_ _ | refine blk_drew ?_ | refine blk_alloc ?_ _));refine blk_far ?_ NB103_107.out _;(with_reducible repeat (first | refine blk_drewN ?_ _ | refine blk_drew ?_ | refine blk_alloc ?_ _));refine blk_far ?_ NB103_107.out _;(with_reducible repeat (first | refine blk_drewN ?_ _ | refine blk_drew ?_ | refine blk_alloc ?_ _));exact BK103.out⟩,⟨by repeat (first | (with_reducible first | exact HB.out | refine below_set ?_ (Aside0.out (by assumption)) | apply below_alloc | apply pw_below_drewN) | exact HB.out)⟩⟩
   · replace c10 := Bool.eq_false_iff.mpr c10
     subst c10
     replace H : (some false) = some r := by rw [if_neg (show ¬ (false = true) by decide)] at H;exact H
     obtain rfl := Option.some.inj H
     obtain ⟨hcz15_0,hcz15_1⟩ := cO2 BK103.out
     have hfz15_0 := blk_frozen BK103.out 0
     have hfz15_1 := blk_frozen BK103.out 1
     have p106 : 0 ≤ (x3_1 : Int) := of_decide_eq_true (by assumption)
     have q106 : x3_1 < (l0_0.length : Int) := of_decide_eq_true (by assumption)
     obtain ⟨ad106,e106,hx106_0,hx106_1,hx106_2⟩ := at_T126 HR0_0.out x3_1 p106 q106
     cases e106
     replace hx106_0 := (HB.out.cell (wbl hx106_0)).trans hx106_0
     replace hx106_1 := (HB.out.cell (wbl hx106_1)).trans hx106_1
     replace hx106_2 := (HB.out.cell (wbl hx106_2)).trans hx106_2
     replace p106 := eq_true p106
     replace q106 := eq_true q106
     go_wp2_with (first | ((refine gate_dst (N := 4) rfl ?_);refine box_event rfl (N := 4) rfl (cs := #[.int .i64 0,.int .i64 0,.int .i64 0]) (t := 126) ?hr ?_;(case hr => go_simp;try rfl);intro gb107 hg w16 hbox hb;have BK107 := am (hbox);have GW107 := am (ge_new (HB.out) hg);have GE107 := am (ge_new (HB.out) hg);have NB103_107 := am ((by rw [hg];exact Nat.ne_of_lt (blk_lt (g := gb103) (o := .cells #[.slice (some ad106) l0_0.length c0_0,.int .i64 a0_1] 24 (0,0)) (by (with_reducible repeat (first | refine blk_drewN ?_ _ | refine blk_drew ?_ | refine blk_alloc ?_ _));exact BK103.out)) : gb103 ≠ gb107));have NB107_103 := am ((by rw [hg];exact Nat.ne_of_gt (blk_lt (g := gb103) (o := .cells #[.slice (some ad106) l0_0.length c0_0,.int .i64 a0_1] 24 (0,0)) (by (with_reducible repeat (first | refine blk_drewN ?_ _ | refine blk_drew ?_ | refine blk_alloc ?_ _));exact BK103.out)) : gb107 ≠ gb103));replace BK103 := am (blk_below (g := gb103) (o := .cells #[.slice (some ad106) l0_0.length c0_0,.int .i64 a0_1] 24 (0,0)) (by (with_reducible repeat (first | refine blk_drewN ?_ _ | refine blk_drew ?_ | refine blk_alloc ?_ _));exact BK103.out) hb);replace HB := am (below_step (HB.out) hb);clear hb hbox hg;have hnb17 := NB107_103.out;have hnc17 := NB103_107.out;obtain ⟨hcz18_0,hcz18_1,hcz18_2⟩ := cO3 BK107.out;have hfz18_0 := blk_frozen BK107.out 0;have hfz18_1 := blk_frozen BK107.out 1;have hfz18_2 := blk_frozen BK107.out 2) | ((with_reducible refine gate_callee (f := 98) rfl ?_);refine goesL_ (some 19) rfl rfl Tryz.func98 (by kernel_rfl) rfl #[.int .i64 ((rd_T126 l0_0 x3_1).f0),.int .i64 1,.int .i64 60] rfl (by (try simp only [List.map_toArray,List.map_cons,List.map_nil]);first | done | rfl | (simp only [List.length_drop,List.length_take];rfl)) ?_;(with_reducible refine (q3_in.calls ((rd_T126 l0_0 x3_1).f0) 1 60 true _ A5.out).mono ?_);rintro e w' ⟨rfl,⟨nd,rfl⟩⟩;refine ⟨_,rfl,?_⟩) | (go_at_call 98;(with_reducible refine (q3_in.calls ((rd_T126 l0_0 x3_1).f1) 1 60 true _ A7.out).mono ?_);rintro e w' ⟨rfl,⟨nd,rfl⟩⟩) | (go_at_call 98;(with_reducible refine (q3_in.calls ((rd_T126 l0_0 x3_1).f2) 1 1000 false _ A9.out).mono ?_);rintro e w' ⟨rfl,⟨nd,rfl⟩⟩))
     go_ret
     exact ⟨by first | rfl | (simp [*] <;> rfl),by repeat (first | (with_reducible first | exact HB.out | refine below_set ?_ (Aside0.out (by assumption)) | apply below_alloc | apply pw_below_drewN) | exact HB.out)⟩
def q4_Basin.l0 : Nat → Int → List (S126) → Int → List (S48) → Int → Int → Option (Bool)
 | 0,_,_,_,_,_,_ => none
 | k + 1,x3,x112000,x112001,x112002,x112003,x112004 => if x3 < (x112002.length : Int) then (if 0 ≤ x3 then ((q4_in.f ((rd_T48 x112002 x3).f0) 0 (wrap64 ((x112000.length : Int) - 1))).bind fun t113 => (if t113 = true then ((q4_Height.f ((rd_T48 x112002 x3).f1)).bind fun t115 => (if t115 = true then (q4_Basin.l0 k (wrap64 (x3 + 1)) x112000 x112001 x112002 x112003 x112004) else (some false))) else (some false))) else (none)) else ((q3_Table.f k x112000 x112001).bind fun t116 => (if t116 = true then ((q4_in.f (x112002.length : Int) 1 6).bind fun t117 => (if t117 = true then ((q4_Height.f x112003).bind fun t118 => (if t118 = true then ((q4_in.f x112004 0 100).bind fun t119 => (some t119)) else (some false))) else (some false))) else (some false)))
def q4_Basin.f (k : Nat) (l0_0 : List (S126)) (a0_1 : Int) (l0_2 : List (S48)) (a0_3 : Int) (a0_4 : Int) : Option (Bool) := q4_Basin.l0 k 0 l0_0 a0_1 l0_2 a0_3 a0_4
theorem in_w {a b c : Int} {r : Bool} (h : q4_in.f a b (wrap64 c) = some r) : q4_in.f a b (IntKind.i64.wrap c) = some r := by rw [i64_w];exact h
theorem q4_Basin.calls (k : Nat) (A0_0 : Option Addr) (c0_0 : Nat) (l0_0 : List (S126)) (a0_1 : Int) (A0_2 : Option Addr) (c0_2 : Nat) (l0_2 : List (S48)) (a0_3 : Int) (a0_4 : Int) (r : Bool) (w : World) (hr0_0 : Kd.C k126 w A0_0 l0_0.length l0_0) (hc0_0 : l0_0.length ≤ c0_0) (hr0_2 : Kd.C k48 w A0_2 l0_2.length l0_2) (hc0_2 : l0_2.length ≤ c0_2) (h : q4_Basin.f k l0_0 a0_1 l0_2 a0_3 a0_4 = some r) :
 Calls Tryz.prog 15 #[.agg #[.slice A0_0 l0_0.length c0_0,.int .i64 a0_1,.slice A0_2 l0_2.length c0_2,.int .i64 a0_3,.int .i64 a0_4]] w fun e w' => e = .returned (.bool r) ∧ Below w.heap.size w w' := by
 have hu27 := Tryz.underlying27
 have hu24 := Tryz.underlying24
 have HR0_0 := am hr0_0
 have HC0_0 := am hc0_0
 clear hr0_0 hc0_0
 have HR0_2 := am hr0_2
 have HC0_2 := am hc0_2
 clear hr0_2 hc0_2
 have HB := am (Below.refl w.heap.size w)
 have H : (q4_Basin.l0 k 0 l0_0 a0_1 l0_2 a0_3 a0_4) = some r := h
 clear h
 replace H' := am H
 go_enter Tryz.func15,Tryz.ntmps15
 go_wp2_with (first | ((refine gate_dst (N := 1) rfl ?_);(try (refine gate_guard (by rfl) ?_;dsimp only));refine box_event rfl (N := 1) rfl (cs := #[.slice A0_0 l0_0.length c0_0,.int .i64 a0_1,.slice A0_2 l0_2.length c0_2,.int .i64 a0_3,.int .i64 a0_4]) (t := 27) ?hr ?_;(case hr => go_simp;try rfl);intro gb111 hg w2 hbox hb;have BK111 := am (hbox);have GW111 := am (ge_new (HB.out) hg);have GE111 := am (ge_new (HB.out) hg);replace HB := am (below_step (HB.out) hb);clear hb hbox hg))
 repeat (go_quiet (first | ((refine gate_dst (N := 1) rfl ?_);(try (refine gate_guard (by rfl) ?_;dsimp only));refine box_event rfl (N := 1) rfl (cs := #[.slice A0_0 l0_0.length c0_0,.int .i64 a0_1,.slice A0_2 l0_2.length c0_2,.int .i64 a0_3,.int .i64 a0_4]) (t := 27) ?hr ?_;(case hr => go_simp;try rfl);intro gb111 hg w2 hbox hb;have BK111 := am (hbox);have GW111 := am (ge_new (by repeat (first | (with_reducible first | exact HB.out | apply below_alloc | apply pw_below_drewN) | exact HB.out)) hg);have GE111 := am (ge_new (by repeat (first | (with_reducible first | exact HB.out | apply below_alloc | apply pw_below_drewN) | exact HB.out)) hg);replace HB := am (below_step (by repeat (first | (with_reducible first | exact HB.out | apply below_alloc | apply pw_below_drewN) | exact HB.out)) hb);clear hb hbox hg));try go_wp2_with (first | ((refine gate_dst (N := 1) rfl ?_);(try (refine gate_guard (by rfl) ?_;dsimp only));refine box_event rfl (N := 1) rfl (cs := #[.slice A0_0 l0_0.length c0_0,.int .i64 a0_1,.slice A0_2 l0_2.length c0_2,.int .i64 a0_3,.int .i64 a0_4]) (t := 27) ?hr ?_;(case hr => go_simp;try rfl);intro gb111 hg w2 hbox hb;have BK111 := am (hbox);have GW111 := am (ge_new (by repeat (first | (with_reducible first | exact HB.out | apply below_alloc | apply pw_below_drewN) | exact HB.out)) hg);have GE111 := am (ge_new (by repeat (first | (with_reducible first | exact HB.out | apply below_alloc | apply pw_below_drewN) | exact HB.out)) hg);replace HB := am (below_step (by repeat (first | (with_reducible first | exact HB.out | apply below_alloc | apply pw_below_drewN) | exact HB.out)) hb);clear hb hbox hg)))
 go_loopg [3] k (fun kq v3 w' => ∃ (x3_1 : Int),v3 = .int .i64 x3_1 ∧ Aside0 (q4_Basin.l0 kq x3_1 l0_0 a0_1 l0_2 a0_3 a0_4 = some r) ∧ Aside0 (kq ≤ k) ∧ Aside0 (w'.heap[gb111]? = some (.cells #[(.slice A0_0 l0_0.length c0_0),.int .i64 a0_1,(.slice A0_2 l0_2.length c0_2),.int .i64 a0_3,.int .i64 a0_4] 27 (0,0))) ∧ Aside0 (Below w.heap.size w w'))
 case atStart => exact ⟨(0),(by first | rfl | (simp;done) | (simp [*];done)),H',⟨Nat.le_refl _⟩,⟨BK111.out⟩,⟨HB.out⟩⟩
 case round =>
  clear H'
  obtain ⟨x3_1,rfl,HA,HK1,BK111,HB⟩ := hrel
  cases gk with
  | zero => exact absurd HA.out (by simp [q4_Basin.l0])
  | succ k1 =>
   have H := HA.out
   clear HA
   simp only [q4_Basin.l0] at H
   by_cases c3 : x3_1 < (l0_2.length : Int)
   · rw [if_pos c3] at H
     have c3b0 : decide (x3_1 < (l0_2.length : Int)) = true := decide_eq_true c3
     clear c3
     by_cases c4 : 0 ≤ x3_1
     case neg =>
      rw [if_neg c4] at H
      exact absurd H (by simp)
     rw [if_pos c4] at H
     have c4b0 : decide (0 ≤ x3_1) = true := decide_eq_true c4
     clear c4
     replace H := obm H
     obtain ⟨t113,A50,H⟩ := H
     replace H : (if t113 = true then ((q4_Height.f ((rd_T48 l0_2 x3_1).f1)).bind fun t115 => (if t115 = true then (q4_Basin.l0 k1 (wrap64 (x3_1 + 1)) l0_0 a0_1 l0_2 a0_3 a0_4) else (some false))) else (some false)) = some r := H
     have A5 := am A50
     clear A50
     by_cases c6 : t113 = true
     case neg =>
      replace c6 := Bool.eq_false_iff.mpr c6
      subst c6
      replace H : (some false) = some r := by rw [if_neg (show ¬ (false = true) by decide)] at H;exact H
      obtain rfl := Option.some.inj H
      obtain ⟨hcz11_0,hcz11_1,hcz11_2,hcz11_3,hcz11_4⟩ := cO5 BK111.out
      have p112 : 0 ≤ (x3_1 : Int) := of_decide_eq_true (by assumption)
      have q112 : x3_1 < (l0_2.length : Int) := of_decide_eq_true (by assumption)
      obtain ⟨ad112,e112,hx112_0,hx112_1⟩ := at_T48 HR0_2.out x3_1 p112 q112
      cases e112
      replace hx112_0 := (HB.out.cell (wbl hx112_0)).trans hx112_0
      replace hx112_1 := (HB.out.cell (wbl hx112_1)).trans hx112_1
      replace p112 := eq_true p112
      replace q112 := eq_true q112
      go_wp2_with (first | (go_at_call 54;(with_reducible refine (q4_in.calls ((rd_T48 l0_2 x3_1).f0) 0 (wrap64 ((l0_0.length : Int) - 1)) false _ A5.out).mono ?_);rintro e w' ⟨rfl,⟨nd,rfl⟩⟩;(try first | exact ⟨rfl,_,World.drewN_drewN _ _ _⟩ | exact ⟨rfl,_,Eq.trans (World.drewN_drewN _ _ _) (congrArg (World.drewN _) (Nat.add_assoc _ _ _))⟩)))
      repeat (go_quiet (first | (go_at_call 54;(with_reducible refine (q4_in.calls ((rd_T48 l0_2 x3_1).f0) 0 (wrap64 ((l0_0.length : Int) - 1)) false _ A5.out).mono ?_);rintro e w' ⟨rfl,⟨nd,rfl⟩⟩;(try first | exact ⟨rfl,_,World.drewN_drewN _ _ _⟩ | exact ⟨rfl,_,Eq.trans (World.drewN_drewN _ _ _) (congrArg (World.drewN _) (Nat.add_assoc _ _ _))⟩)));try go_wp2_with (first | (go_at_call 54;(with_reducible refine (q4_in.calls ((rd_T48 l0_2 x3_1).f0) 0 (wrap64 ((l0_0.length : Int) - 1)) false _ A5.out).mono ?_);rintro e w' ⟨rfl,⟨nd,rfl⟩⟩;(try first | exact ⟨rfl,_,World.drewN_drewN _ _ _⟩ | exact ⟨rfl,_,Eq.trans (World.drewN_drewN _ _ _) (congrArg (World.drewN _) (Nat.add_assoc _ _ _))⟩))))
      go_ret
      exact ⟨by first | rfl | (simp [*] <;> rfl),pw_below_drewN HB.out _⟩
     subst c6
     replace H : ((q4_Height.f ((rd_T48 l0_2 x3_1).f1)).bind fun t115 => (if t115 = true then (q4_Basin.l0 k1 (wrap64 (x3_1 + 1)) l0_0 a0_1 l0_2 a0_3 a0_4) else (some false))) = some r := by rw [if_pos rfl] at H;exact H
     replace H := obm H
     obtain ⟨t115,A70,H⟩ := H
     replace H : (if t115 = true then (q4_Basin.l0 k1 (wrap64 (x3_1 + 1)) l0_0 a0_1 l0_2 a0_3 a0_4) else (some false)) = some r := H
     have A7 := am A70
     clear A70
     by_cases c8 : t115 = true
     · subst c8
       replace H : (q4_Basin.l0 k1 (wrap64 (x3_1 + 1)) l0_0 a0_1 l0_2 a0_3 a0_4) = some r := by rw [if_pos rfl] at H;exact H
       replace H' := am H
       obtain ⟨hcz9_0,hcz9_1,hcz9_2,hcz9_3,hcz9_4⟩ := cO5 BK111.out
       have p112 : 0 ≤ (x3_1 : Int) := of_decide_eq_true (by assumption)
       have q112 : x3_1 < (l0_2.length : Int) := of_decide_eq_true (by assumption)
       obtain ⟨ad112,e112,hx112_0,hx112_1⟩ := at_T48 HR0_2.out x3_1 p112 q112
       cases e112
       replace hx112_0 := (HB.out.cell (wbl hx112_0)).trans hx112_0
       replace hx112_1 := (HB.out.cell (wbl hx112_1)).trans hx112_1
       replace p112 := eq_true p112
       replace q112 := eq_true q112
       go_wp2_with (first | (go_at_call 54;(with_reducible refine (q4_in.calls ((rd_T48 l0_2 x3_1).f0) 0 (IntKind.i64.wrap ((l0_0.length : Int) - 1)) true _ (in_w A5.out)).mono ?_);rintro e w' ⟨rfl,⟨nd,rfl⟩⟩;(try first | exact ⟨rfl,_,World.drewN_drewN _ _ _⟩ | exact ⟨rfl,_,Eq.trans (World.drewN_drewN _ _ _) (congrArg (World.drewN _) (Nat.add_assoc _ _ _))⟩);have p114 : 0 ≤ (x3_1 : Int) := of_decide_eq_true (by assumption);have q114 : x3_1 < (l0_2.length : Int) := of_decide_eq_true (by assumption);obtain ⟨ad114,e114,hx114_0,hx114_1⟩ := at_T48 HR0_2.out x3_1 p114 q114;obtain rfl : ad112 = ad114 := (by injection e114);replace hx114_0 := (HB.out.cell (wbl hx114_0)).trans hx114_0;replace hx114_1 := (HB.out.cell (wbl hx114_1)).trans hx114_1;replace p114 := eq_true p114;replace q114 := eq_true q114) | (go_at_call 39;(with_reducible refine (q4_Height.calls ((rd_T48 l0_2 x3_1).f1) true _ A7.out).mono ?_);rintro e w' ⟨rfl,⟨nd,rfl⟩⟩;(try first | exact ⟨rfl,_,World.drewN_drewN _ _ _⟩ | exact ⟨rfl,_,Eq.trans (World.drewN_drewN _ _ _) (congrArg (World.drewN _) (Nat.add_assoc _ _ _))⟩)))
       repeat (go_quiet (first | (go_at_call 54;(with_reducible refine (q4_in.calls ((rd_T48 l0_2 x3_1).f0) 0 (IntKind.i64.wrap ((l0_0.length : Int) - 1)) true _ (in_w A5.out)).mono ?_);rintro e w' ⟨rfl,⟨nd,rfl⟩⟩;(try first | exact ⟨rfl,_,World.drewN_drewN _ _ _⟩ | exact ⟨rfl,_,Eq.trans (World.drewN_drewN _ _ _) (congrArg (World.drewN _) (Nat.add_assoc _ _ _))⟩);have p114 : 0 ≤ (x3_1 : Int) := of_decide_eq_true (by assumption);have q114 : x3_1 < (l0_2.length : Int) := of_decide_eq_true (by assumption);obtain ⟨ad114,e114,hx114_0,hx114_1⟩ := at_T48 HR0_2.out x3_1 p114 q114;obtain rfl : ad112 = ad114 := (by injection e114);replace hx114_0 := (HB.out.cell (wbl hx114_0)).trans hx114_0;replace hx114_1 := (HB.out.cell (wbl hx114_1)).trans hx114_1;replace p114 := eq_true p114;replace q114 := eq_true q114) | (go_at_call 39;(with_reducible refine (q4_Height.calls ((rd_T48 l0_2 x3_1).f1) true _ A7.out).mono ?_);rintro e w' ⟨rfl,⟨nd,rfl⟩⟩;(try first | exact ⟨rfl,_,World.drewN_drewN _ _ _⟩ | exact ⟨rfl,_,Eq.trans (World.drewN_drewN _ _ _) (congrArg (World.drewN _) (Nat.add_assoc _ _ _))⟩)));try go_wp2_with (first | (go_at_call 54;(with_reducible refine (q4_in.calls ((rd_T48 l0_2 x3_1).f0) 0 (IntKind.i64.wrap ((l0_0.length : Int) - 1)) true _ (in_w A5.out)).mono ?_);rintro e w' ⟨rfl,⟨nd,rfl⟩⟩;(try first | exact ⟨rfl,_,World.drewN_drewN _ _ _⟩ | exact ⟨rfl,_,Eq.trans (World.drewN_drewN _ _ _) (congrArg (World.drewN _) (Nat.add_assoc _ _ _))⟩);have p114 : 0 ≤ (x3_1 : Int) := of_decide_eq_true (by assumption);have q114 : x3_1 < (l0_2.length : Int) := of_decide_eq_true (by assumption);obtain ⟨ad114,e114,hx114_0,hx114_1⟩ := at_T48 HR0_2.out x3_1 p114 q114;obtain rfl : ad112 = ad114 := (by injection e114);replace hx114_0 := (HB.out.cell (wbl hx114_0)).trans hx114_0;replace hx114_1 := (HB.out.cell (wbl hx114_1)).trans hx114_1;replace p114 := eq_true p114;replace q114 := eq_true q114) | (go_at_call 39;(with_reducible refine (q4_Height.calls ((rd_T48 l0_2 x3_1).f1) true _ A7.out).mono ?_);rintro e w' ⟨rfl,⟨nd,rfl⟩⟩;(try first | exact ⟨rfl,_,World.drewN_drewN _ _ _⟩ | exact ⟨rfl,_,Eq.trans (World.drewN_drewN _ _ _) (congrArg (World.drewN _) (Nat.add_assoc _ _ _))⟩))))
       go_roundg k1
       case measure => have := HK1.out;omega
       case rel => exact ⟨(wrap64 (x3_1 + 1)),(by first | rfl | (simp;done) | (simp [*];done)),H',⟨by have := HK1.out;omega⟩,⟨BK111.out⟩,⟨pw_below_drewN HB.out _⟩⟩
     · replace c8 := Bool.eq_false_iff.mpr c8
       subst c8
       replace H : (some false) = some r := by rw [if_neg (show ¬ (false = true) by decide)] at H;exact H
       obtain rfl := Option.some.inj H
       obtain ⟨hcz10_0,hcz10_1,hcz10_2,hcz10_3,hcz10_4⟩ := cO5 BK111.out
       have p112 : 0 ≤ (x3_1 : Int) := of_decide_eq_true (by assumption)
       have q112 : x3_1 < (l0_2.length : Int) := of_decide_eq_true (by assumption)
       obtain ⟨ad112,e112,hx112_0,hx112_1⟩ := at_T48 HR0_2.out x3_1 p112 q112
       cases e112
       replace hx112_0 := (HB.out.cell (wbl hx112_0)).trans hx112_0
       replace hx112_1 := (HB.out.cell (wbl hx112_1)).trans hx112_1
       replace p112 := eq_true p112
       replace q112 := eq_true q112
       go_wp2_with (first | (go_at_call 54;(with_reducible refine (q4_in.calls ((rd_T48 l0_2 x3_1).f0) 0 (IntKind.i64.wrap ((l0_0.length : Int) - 1)) true _ (in_w A5.out)).mono ?_);rintro e w' ⟨rfl,⟨nd,rfl⟩⟩;(try first | exact ⟨rfl,_,World.drewN_drewN _ _ _⟩ | exact ⟨rfl,_,Eq.trans (World.drewN_drewN _ _ _) (congrArg (World.drewN _) (Nat.add_assoc _ _ _))⟩);have p114 : 0 ≤ (x3_1 : Int) := of_decide_eq_true (by assumption);have q114 : x3_1 < (l0_2.length : Int) := of_decide_eq_true (by assumption);obtain ⟨ad114,e114,hx114_0,hx114_1⟩ := at_T48 HR0_2.out x3_1 p114 q114;obtain rfl : ad112 = ad114 := (by injection e114);replace hx114_0 := (HB.out.cell (wbl hx114_0)).trans hx114_0;replace hx114_1 := (HB.out.cell (wbl hx114_1)).trans hx114_1;replace p114 := eq_true p114;replace q114 := eq_true q114) | (go_at_call 39;(with_reducible refine (q4_Height.calls ((rd_T48 l0_2 x3_1).f1) false _ A7.out).mono ?_);rintro e w' ⟨rfl,⟨nd,rfl⟩⟩;(try first | exact ⟨rfl,_,World.drewN_drewN _ _ _⟩ | exact ⟨rfl,_,Eq.trans (World.drewN_drewN _ _ _) (congrArg (World.drewN _) (Nat.add_assoc _ _ _))⟩)))
       repeat (go_quiet (first | (go_at_call 54;(with_reducible refine (q4_in.calls ((rd_T48 l0_2 x3_1).f0) 0 (IntKind.i64.wrap ((l0_0.length : Int) - 1)) true _ (in_w A5.out)).mono ?_);rintro e w' ⟨rfl,⟨nd,rfl⟩⟩;(try first | exact ⟨rfl,_,World.drewN_drewN _ _ _⟩ | exact ⟨rfl,_,Eq.trans (World.drewN_drewN _ _ _) (congrArg (World.drewN _) (Nat.add_assoc _ _ _))⟩);have p114 : 0 ≤ (x3_1 : Int) := of_decide_eq_true (by assumption);have q114 : x3_1 < (l0_2.length : Int) := of_decide_eq_true (by assumption);obtain ⟨ad114,e114,hx114_0,hx114_1⟩ := at_T48 HR0_2.out x3_1 p114 q114;obtain rfl : ad112 = ad114 := (by injection e114);replace hx114_0 := (HB.out.cell (wbl hx114_0)).trans hx114_0;replace hx114_1 := (HB.out.cell (wbl hx114_1)).trans hx114_1;replace p114 := eq_true p114;replace q114 := eq_true q114) | (go_at_call 39;(with_reducible refine (q4_Height.calls ((rd_T48 l0_2 x3_1).f1) false _ A7.out).mono ?_);rintro e w' ⟨rfl,⟨nd,rfl⟩⟩;(try first | exact ⟨rfl,_,World.drewN_drewN _ _ _⟩ | exact ⟨rfl,_,Eq.trans (World.drewN_drewN _ _ _) (congrArg (World.drewN _) (Nat.add_assoc _ _ _))⟩)));try go_wp2_with (first | (go_at_call 54;(with_reducible refine (q4_in.calls ((rd_T48 l0_2 x3_1).f0) 0 (IntKind.i64.wrap ((l0_0.length : Int) - 1)) true _ (in_w A5.out)).mono ?_);rintro e w' ⟨rfl,⟨nd,rfl⟩⟩;(try first | exact ⟨rfl,_,World.drewN_drewN _ _ _⟩ | exact ⟨rfl,_,Eq.trans (World.drewN_drewN _ _ _) (congrArg (World.drewN _) (Nat.add_assoc _ _ _))⟩);have p114 : 0 ≤ (x3_1 : Int) := of_decide_eq_true (by assumption);have q114 : x3_1 < (l0_2.length : Int) := of_decide_eq_true (by assumption);obtain ⟨ad114,e114,hx114_0,hx114_1⟩ := at_T48 HR0_2.out x3_1 p114 q114;obtain rfl : ad112 = ad114 := (by injection e114);replace hx114_0 := (HB.out.cell (wbl hx114_0)).trans hx114_0;replace hx114_1 := (HB.out.cell (wbl hx114_1)).trans hx114_1;replace p114 := eq_true p114;replace q114 := eq_true q114) | (go_at_call 39;(with_reducible refine (q4_Height.calls ((rd_T48 l0_2 x3_1).f1) false _ A7.out).mono ?_);rintro e w' ⟨rfl,⟨nd,rfl⟩⟩;(try first | exact ⟨rfl,_,World.drewN_drewN _ _ _⟩ | exact ⟨rfl,_,Eq.trans (World.drewN_drewN _ _ _) (congrArg (World.drewN _) (Nat.add_assoc _ _ _))⟩))))
       go_ret
       exact ⟨by first | rfl | (simp [*] <;> rfl),pw_below_drewN HB.out _⟩
   · rw [if_neg c3] at H
     have c3b0 : decide (x3_1 < (l0_2.length : Int)) = false := decide_eq_false c3
     clear c3
     replace H := obm H
     obtain ⟨t116,A120,H⟩ := H
     replace H : (if t116 = true then ((q4_in.f (l0_2.length : Int) 1 6).bind fun t117 => (if t117 = true then ((q4_Height.f a0_3).bind fun t118 => (if t118 = true then ((q4_in.f a0_4 0 100).bind fun t119 => (some t119)) else (some false))) else (some false))) else (some false)) = some r := H
     have A12 := am A120
     clear A120
     by_cases c13 : t116 = true
     case neg =>
      replace c13 := Bool.eq_false_iff.mpr c13
      subst c13
      replace H : (some false) = some r := by rw [if_neg (show ¬ (false = true) by decide)] at H;exact H
      obtain rfl := Option.some.inj H
      obtain ⟨hcz28_0,hcz28_1,hcz28_2,hcz28_3,hcz28_4⟩ := cO5 BK111.out
      go_wp2_with (first | (go_at_call 55;(with_reducible refine (q3_Table.calls k1 _ _ l0_0 a0_1 false _ ?side1 ?side2 A12.out).mono ?_);(case side1 => exact kC HR0_0.out HB.out);(case side2 => exact HC0_0.out);rintro e w29 ⟨rfl,hb⟩;replace BK111 := (kmv hb BK111);replace HB := am (below_step (HB.out) hb);(try clear hb);(try clear hb2);(try clear hk);(try clear hi)))
      repeat (go_quiet (first | (go_at_call 55;(with_reducible refine (q3_Table.calls k1 _ _ l0_0 a0_1 false _ ?side1 ?side2 A12.out).mono ?_);(case side1 => repeat (first | exact (kC HR0_0.out HB.out) | (with_reducible refine Kd.C_alloc ?_ _) | (with_reducible refine Kd.C_drewN ?_ _) | (with_reducible refine Kd.C_drew ?_)));(case side2 => exact HC0_0.out);rintro e w29 ⟨rfl,hb⟩;replace BK111 := (kmv hb BK111);replace HB := am (below_step (by repeat (first | (with_reducible first | exact HB.out | refine below_set ?_ GE111.out | apply below_alloc | apply pw_below_drewN) | exact HB.out)) hb);(try clear hb);(try clear hb2);(try clear hk);(try clear hi)));try go_wp2_with (first | (go_at_call 55;(with_reducible refine (q3_Table.calls k1 _ _ l0_0 a0_1 false _ ?side1 ?side2 A12.out).mono ?_);(case side1 => repeat (first | exact (kC HR0_0.out HB.out) | (with_reducible refine Kd.C_alloc ?_ _) | (with_reducible refine Kd.C_drewN ?_ _) | (with_reducible refine Kd.C_drew ?_)));(case side2 => exact HC0_0.out);rintro e w29 ⟨rfl,hb⟩;replace BK111 := (kmv hb BK111);replace HB := am (below_step (by repeat (first | (with_reducible first | exact HB.out | refine below_set ?_ GE111.out | apply below_alloc | apply pw_below_drewN) | exact HB.out)) hb);(try clear hb);(try clear hb2);(try clear hk);(try clear hi))))
      go_ret
      exact ⟨by first | rfl | (simp [*] <;> rfl),HB.out⟩
     subst c13
     replace H : ((q4_in.f (l0_2.length : Int) 1 6).bind fun t117 => (if t117 = true then ((q4_Height.f a0_3).bind fun t118 => (if t118 = true then ((q4_in.f a0_4 0 100).bind fun t119 => (some t119)) else (some false))) else (some false))) = some r := by rw [if_pos rfl] at H;exact H
     replace H := obm H
     obtain ⟨t117,A140,H⟩ := H
     replace H : (if t117 = true then ((q4_Height.f a0_3).bind fun t118 => (if t118 = true then ((q4_in.f a0_4 0 100).bind fun t119 => (some t119)) else (some false))) else (some false)) = some r := H
     have A14 := am A140
     clear A140
     by_cases c15 : t117 = true
     case neg =>
      replace c15 := Bool.eq_false_iff.mpr c15
      subst c15
      replace H : (some false) = some r := by rw [if_neg (show ¬ (false = true) by decide)] at H;exact H
      obtain rfl := Option.some.inj H
      obtain ⟨hcz25_0,hcz25_1,hcz25_2,hcz25_3,hcz25_4⟩ := cO5 BK111.out
      go_wp2_with (first | (go_at_call 55;(with_reducible refine (q3_Table.calls k1 _ _ l0_0 a0_1 true _ ?side1 ?side2 A12.out).mono ?_);(case side1 => exact kC HR0_0.out HB.out);(case side2 => exact HC0_0.out);rintro e w26 ⟨rfl,hb⟩;replace BK111 := (kmv hb BK111);replace HB := am (below_step (HB.out) hb);(try clear hb);(try clear hb2);(try clear hk);(try clear hi);obtain ⟨hcz27_0,hcz27_1,hcz27_2,hcz27_3,hcz27_4⟩ := cO5 BK111.out) | (go_at_call 54;(with_reducible refine (q4_in.calls (l0_2.length : Int) 1 6 false _ A14.out).mono ?_);rintro e w' ⟨rfl,⟨nd,rfl⟩⟩;(try first | exact ⟨rfl,_,World.drewN_drewN _ _ _⟩ | exact ⟨rfl,_,Eq.trans (World.drewN_drewN _ _ _) (congrArg (World.drewN _) (Nat.add_assoc _ _ _))⟩)))
      repeat (go_quiet (first | (go_at_call 55;(with_reducible refine (q3_Table.calls k1 _ _ l0_0 a0_1 true _ ?side1 ?side2 A12.out).mono ?_);(case side1 => repeat (first | exact (kC HR0_0.out HB.out) | (with_reducible refine Kd.C_alloc ?_ _) | (with_reducible refine Kd.C_drewN ?_ _) | (with_reducible refine Kd.C_drew ?_)));(case side2 => exact HC0_0.out);rintro e w26 ⟨rfl,hb⟩;replace BK111 := (kmv hb BK111);replace HB := am (below_step (by repeat (first | (with_reducible first | exact HB.out | refine below_set ?_ GE111.out | apply below_alloc | apply pw_below_drewN) | exact HB.out)) hb);(try clear hb);(try clear hb2);(try clear hk);(try clear hi);obtain ⟨hcz27_0,hcz27_1,hcz27_2,hcz27_3,hcz27_4⟩ := cO5 BK111.out) | (go_at_call 54;(with_reducible refine (q4_in.calls (l0_2.length : Int) 1 6 false _ A14.out).mono ?_);rintro e w' ⟨rfl,⟨nd,rfl⟩⟩;(try first | exact ⟨rfl,_,World.drewN_drewN _ _ _⟩ | exact ⟨rfl,_,Eq.trans (World.drewN_drewN _ _ _) (congrArg (World.drewN _) (Nat.add_assoc _ _ _))⟩)));try go_wp2_with (first | (go_at_call 55;(with_reducible refine (q3_Table.calls k1 _ _ l0_0 a0_1 true _ ?side1 ?side2 A12.out).mono ?_);(case side1 => repeat (first | exact (kC HR0_0.out HB.out) | (with_reducible refine Kd.C_alloc ?_ _) | (with_reducible refine Kd.C_drewN ?_ _) | (with_reducible refine Kd.C_drew ?_)));(case side2 => exact HC0_0.out);rintro e w26 ⟨rfl,hb⟩;replace BK111 := (kmv hb BK111);replace HB := am (below_step (by repeat (first | (with_reducible first | exact HB.out | refine below_set ?_ GE111.out | apply below_alloc | apply pw_below_drewN) | exact HB.out)) hb);(try clear hb);(try clear hb2);(try clear hk);(try clear hi);obtain ⟨hcz27_0,hcz27_1,hcz27_2,hcz27_3,hcz27_4⟩ := cO5 BK111.out) | (go_at_call 54;(with_reducible refine (q4_in.calls (l0_2.length : Int) 1 6 false _ A14.out).mono ?_);rintro e w' ⟨rfl,⟨nd,rfl⟩⟩;(try first | exact ⟨rfl,_,World.drewN_drewN _ _ _⟩ | exact ⟨rfl,_,Eq.trans (World.drewN_drewN _ _ _) (congrArg (World.drewN _) (Nat.add_assoc _ _ _))⟩))))
      go_ret
      exact ⟨by first | rfl | (simp [*] <;> rfl),pw_below_drewN HB.out _⟩
     subst c15
     replace H : ((q4_Height.f a0_3).bind fun t118 => (if t118 = true then ((q4_in.f a0_4 0 100).bind fun t119 => (some t119)) else (some false))) = some r := by rw [if_pos rfl] at H;exact H
     replace H := obm H
     obtain ⟨t118,A160,H⟩ := H
     replace H : (if t118 = true then ((q4_in.f a0_4 0 100).bind fun t119 => (some t119)) else (some false)) = some r := H
     have A16 := am A160
     clear A160
     by_cases c17 : t118 = true
     case neg =>
      replace c17 := Bool.eq_false_iff.mpr c17
      subst c17
      replace H : (some false) = some r := by rw [if_neg (show ¬ (false = true) by decide)] at H;exact H
      obtain rfl := Option.some.inj H
      obtain ⟨hcz22_0,hcz22_1,hcz22_2,hcz22_3,hcz22_4⟩ := cO5 BK111.out
      go_wp2_with (first | (go_at_call 55;(with_reducible refine (q3_Table.calls k1 _ _ l0_0 a0_1 true _ ?side1 ?side2 A12.out).mono ?_);(case side1 => exact kC HR0_0.out HB.out);(case side2 => exact HC0_0.out);rintro e w23 ⟨rfl,hb⟩;replace BK111 := (kmv hb BK111);replace HB := am (below_step (HB.out) hb);(try clear hb);(try clear hb2);(try clear hk);(try clear hi);obtain ⟨hcz24_0,hcz24_1,hcz24_2,hcz24_3,hcz24_4⟩ := cO5 BK111.out) | (go_at_call 54;(with_reducible refine (q4_in.calls (l0_2.length : Int) 1 6 true _ A14.out).mono ?_);rintro e w' ⟨rfl,⟨nd,rfl⟩⟩;(try first | exact ⟨rfl,_,World.drewN_drewN _ _ _⟩ | exact ⟨rfl,_,Eq.trans (World.drewN_drewN _ _ _) (congrArg (World.drewN _) (Nat.add_assoc _ _ _))⟩)) | (go_at_call 39;(with_reducible refine (q4_Height.calls a0_3 false _ A16.out).mono ?_);rintro e w' ⟨rfl,⟨nd,rfl⟩⟩;(try first | exact ⟨rfl,_,World.drewN_drewN _ _ _⟩ | exact ⟨rfl,_,Eq.trans (World.drewN_drewN _ _ _) (congrArg (World.drewN _) (Nat.add_assoc _ _ _))⟩)))
      repeat (go_quiet (first | (go_at_call 55;(with_reducible refine (q3_Table.calls k1 _ _ l0_0 a0_1 true _ ?side1 ?side2 A12.out).mono ?_);(case side1 => repeat (first | exact (kC HR0_0.out HB.out) | (with_reducible refine Kd.C_alloc ?_ _) | (with_reducible refine Kd.C_drewN ?_ _) | (with_reducible refine Kd.C_drew ?_)));(case side2 => exact HC0_0.out);rintro e w23 ⟨rfl,hb⟩;replace BK111 := (kmv hb BK111);replace HB := am (below_step (by repeat (first | (with_reducible first | exact HB.out | refine below_set ?_ GE111.out | apply below_alloc | apply pw_below_drewN) | exact HB.out)) hb);(try clear hb);(try clear hb2);(try clear hk);(try clear hi);obtain ⟨hcz24_0,hcz24_1,hcz24_2,hcz24_3,hcz24_4⟩ := cO5 BK111.out) | (go_at_call 54;(with_reducible refine (q4_in.calls (l0_2.length : Int) 1 6 true _ A14.out).mono ?_);rintro e w' ⟨rfl,⟨nd,rfl⟩⟩;(try first | exact ⟨rfl,_,World.drewN_drewN _ _ _⟩ | exact ⟨rfl,_,Eq.trans (World.drewN_drewN _ _ _) (congrArg (World.drewN _) (Nat.add_assoc _ _ _))⟩)) | (go_at_call 39;(with_reducible refine (q4_Height.calls a0_3 false _ A16.out).mono ?_);rintro e w' ⟨rfl,⟨nd,rfl⟩⟩;(try first | exact ⟨rfl,_,World.drewN_drewN _ _ _⟩ | exact ⟨rfl,_,Eq.trans (World.drewN_drewN _ _ _) (congrArg (World.drewN _) (Nat.add_assoc _ _ _))⟩)));try go_wp2_with (first | (go_at_call 55;(with_reducible refine (q3_Table.calls k1 _ _ l0_0 a0_1 true _ ?side1 ?side2 A12.out).mono ?_);(case side1 => repeat (first | exact (kC HR0_0.out HB.out) | (with_reducible refine Kd.C_alloc ?_ _) | (with_reducible refine Kd.C_drewN ?_ _) | (with_reducible refine Kd.C_drew ?_)));(case side2 => exact HC0_0.out);rintro e w23 ⟨rfl,hb⟩;replace BK111 := (kmv hb BK111);replace HB := am (below_step (by repeat (first | (with_reducible first | exact HB.out | refine below_set ?_ GE111.out | apply below_alloc | apply pw_below_drewN) | exact HB.out)) hb);(try clear hb);(try clear hb2);(try clear hk);(try clear hi);obtain ⟨hcz24_0,hcz24_1,hcz24_2,hcz24_3,hcz24_4⟩ := cO5 BK111.out) | (go_at_call 54;(with_reducible refine (q4_in.calls (l0_2.length : Int) 1 6 true _ A14.out).mono ?_);rintro e w' ⟨rfl,⟨nd,rfl⟩⟩;(try first | exact ⟨rfl,_,World.drewN_drewN _ _ _⟩ | exact ⟨rfl,_,Eq.trans (World.drewN_drewN _ _ _) (congrArg (World.drewN _) (Nat.add_assoc _ _ _))⟩)) | (go_at_call 39;(with_reducible refine (q4_Height.calls a0_3 false _ A16.out).mono ?_);rintro e w' ⟨rfl,⟨nd,rfl⟩⟩;(try first | exact ⟨rfl,_,World.drewN_drewN _ _ _⟩ | exact ⟨rfl,_,Eq.trans (World.drewN_drewN _ _ _) (congrArg (World.drewN _) (Nat.add_assoc _ _ _))⟩))))
      go_ret
      exact ⟨by first | rfl | (simp [*] <;> rfl),pw_below_drewN HB.out _⟩
     subst c17
     replace H : ((q4_in.f a0_4 0 100).bind fun t119 => (some t119)) = some r := by rw [if_pos rfl] at H;exact H
     replace H := obm H
     obtain ⟨t119,A180,H⟩ := H
     replace H : (some t119) = some r := H
     have A18 := am A180
     clear A180
     obtain rfl := Option.some.inj H
     obtain ⟨hcz19_0,hcz19_1,hcz19_2,hcz19_3,hcz19_4⟩ := cO5 BK111.out
     go_wp2_with (first | (go_at_call 55;(with_reducible refine (q3_Table.calls k1 _ _ l0_0 a0_1 true _ ?side1 ?side2 A12.out).mono ?_);(case side1 => exact kC HR0_0.out HB.out);(case side2 => exact HC0_0.out);rintro e w20 ⟨rfl,hb⟩;replace BK111 := (kmv hb BK111);replace HB := am (below_step (HB.out) hb);(try clear hb);(try clear hb2);(try clear hk);(try clear hi);obtain ⟨hcz21_0,hcz21_1,hcz21_2,hcz21_3,hcz21_4⟩ := cO5 BK111.out) | (go_at_call 54;(with_reducible refine (q4_in.calls (l0_2.length : Int) 1 6 true _ A14.out).mono ?_);rintro e w' ⟨rfl,⟨nd,rfl⟩⟩;(try first | exact ⟨rfl,_,World.drewN_drewN _ _ _⟩ | exact ⟨rfl,_,Eq.trans (World.drewN_drewN _ _ _) (congrArg (World.drewN _) (Nat.add_assoc _ _ _))⟩)) | (go_at_call 39;(with_reducible refine (q4_Height.calls a0_3 true _ A16.out).mono ?_);rintro e w' ⟨rfl,⟨nd,rfl⟩⟩;(try first | exact ⟨rfl,_,World.drewN_drewN _ _ _⟩ | exact ⟨rfl,_,Eq.trans (World.drewN_drewN _ _ _) (congrArg (World.drewN _) (Nat.add_assoc _ _ _))⟩)) | (go_at_call 54;(with_reducible refine (q4_in.calls a0_4 0 100 t119 _ A18.out).mono ?_);rintro e w' ⟨rfl,⟨nd,rfl⟩⟩;(try first | exact ⟨rfl,_,World.drewN_drewN _ _ _⟩ | exact ⟨rfl,_,Eq.trans (World.drewN_drewN _ _ _) (congrArg (World.drewN _) (Nat.add_assoc _ _ _))⟩)))
     repeat (go_quiet (first | (go_at_call 55;(with_reducible refine (q3_Table.calls k1 _ _ l0_0 a0_1 true _ ?side1 ?side2 A12.out).mono ?_);(case side1 => repeat (first | exact (kC HR0_0.out HB.out) | (with_reducible refine Kd.C_alloc ?_ _) | (with_reducible refine Kd.C_drewN ?_ _) | (with_reducible refine Kd.C_drew ?_)));(case side2 => exact HC0_0.out);rintro e w20 ⟨rfl,hb⟩;replace BK111 := (kmv hb BK111);replace HB := am (below_step (by repeat (first | (with_reducible first | exact HB.out | refine below_set ?_ GE111.out | apply below_alloc | apply pw_below_drewN) | exact HB.out)) hb);(try clear hb);(try clear hb2);(try clear hk);(try clear hi);obtain ⟨hcz21_0,hcz21_1,hcz21_2,hcz21_3,hcz21_4⟩ := cO5 BK111.out) | (go_at_call 54;(with_reducible refine (q4_in.calls (l0_2.length : Int) 1 6 true _ A14.out).mono ?_);rintro e w' ⟨rfl,⟨nd,rfl⟩⟩;(try first | exact ⟨rfl,_,World.drewN_drewN _ _ _⟩ | exact ⟨rfl,_,Eq.trans (World.drewN_drewN _ _ _) (congrArg (World.drewN _) (Nat.add_assoc _ _ _))⟩)) | (go_at_call 39;(with_reducible refine (q4_Height.calls a0_3 true _ A16.out).mono ?_);rintro e w' ⟨rfl,⟨nd,rfl⟩⟩;(try first | exact ⟨rfl,_,World.drewN_drewN _ _ _⟩ | exact ⟨rfl,_,Eq.trans (World.drewN_drewN _ _ _) (congrArg (World.drewN _) (Nat.add_assoc _ _ _))⟩)) | (go_at_call 54;(with_reducible refine (q4_in.calls a0_4 0 100 t119 _ A18.out).mono ?_);rintro e w' ⟨rfl,⟨nd,rfl⟩⟩;(try first | exact ⟨rfl,_,World.drewN_drewN _ _ _⟩ | exact ⟨rfl,_,Eq.trans (World.drewN_drewN _ _ _) (congrArg (World.drewN _) (Nat.add_assoc _ _ _))⟩)));try go_wp2_with (first | (go_at_call 55;(with_reducible refine (q3_Table.calls k1 _ _ l0_0 a0_1 true _ ?side1 ?side2 A12.out).mono ?_);(case side1 => repeat (first | exact (kC HR0_0.out HB.out) | (with_reducible refine Kd.C_alloc ?_ _) | (with_reducible refine Kd.C_drewN ?_ _) | (with_reducible refine Kd.C_drew ?_)));(case side2 => exact HC0_0.out);rintro e w20 ⟨rfl,hb⟩;replace BK111 := (kmv hb BK111);replace HB := am (below_step (by repeat (first | (with_reducible first | exact HB.out | refine below_set ?_ GE111.out | apply below_alloc | apply pw_below_drewN) | exact HB.out)) hb);(try clear hb);(try clear hb2);(try clear hk);(try clear hi);obtain ⟨hcz21_0,hcz21_1,hcz21_2,hcz21_3,hcz21_4⟩ := cO5 BK111.out) | (go_at_call 54;(with_reducible refine (q4_in.calls (l0_2.length : Int) 1 6 true _ A14.out).mono ?_);rintro e w' ⟨rfl,⟨nd,rfl⟩⟩;(try first | exact ⟨rfl,_,World.drewN_drewN _ _ _⟩ | exact ⟨rfl,_,Eq.trans (World.drewN_drewN _ _ _) (congrArg (World.drewN _) (Nat.add_assoc _ _ _))⟩)) | (go_at_call 39;(with_reducible refine (q4_Height.calls a0_3 true _ A16.out).mono ?_);rintro e w' ⟨rfl,⟨nd,rfl⟩⟩;(try first | exact ⟨rfl,_,World.drewN_drewN _ _ _⟩ | exact ⟨rfl,_,Eq.trans (World.drewN_drewN _ _ _) (congrArg (World.drewN _) (Nat.add_assoc _ _ _))⟩)) | (go_at_call 54;(with_reducible refine (q4_in.calls a0_4 0 100 t119 _ A18.out).mono ?_);rintro e w' ⟨rfl,⟨nd,rfl⟩⟩;(try first | exact ⟨rfl,_,World.drewN_drewN _ _ _⟩ | exact ⟨rfl,_,Eq.trans (World.drewN_drewN _ _ _) (congrArg (World.drewN _) (Nat.add_assoc _ _ _))⟩))))
     go_ret
     exact ⟨by first | rfl | (simp [*] <;> rfl),pw_below_drewN HB.out _⟩
theorem eqA48 (d : Nat) (w : World) (x0 y0 : Int) (x1 y1 : Int) :
 (Op.equalIn (d + 2) 48 (.agg #[.int .i64 x0,.int .i64 x1]) (.agg #[.int .i64 y0,.int .i64 y1])).run Tryz.prog w = .ok (x0 == y0 && (x1 == y1)) w := by
 refine eqA_of Tryz.underlying48 (by kernel_rfl) ?_
 refine eqf_cons (by rfl) (by go_simp;rfl) (by go_simp;rfl) (by go_simp) ?_
 exact eqf_last (by rfl) (by go_simp;rfl) (by go_simp;rfl) (by go_simp)
theorem eqA126 (d : Nat) (w : World) (x0 y0 : Int) (x1 y1 : Int) (x2 y2 : Int) :
 (Op.equalIn (d + 2) 126 (.agg #[.int .i64 x0,.int .i64 x1,.int .i64 x2]) (.agg #[.int .i64 y0,.int .i64 y1,.int .i64 y2])).run Tryz.prog w = .ok (x0 == y0 && (x1 == y1 && (x2 == y2))) w := by
 refine eqA_of Tryz.underlying126 (by kernel_rfl) ?_
 refine eqf_cons (by rfl) (by go_simp;rfl) (by go_simp;rfl) (by go_simp) ?_
 refine eqf_cons (by rfl) (by go_simp;rfl) (by go_simp;rfl) (by go_simp) ?_
 exact eqf_last (by rfl) (by go_simp;rfl) (by go_simp;rfl) (by go_simp)
end
end Go.Proofs.YtnnmnhpeblhiiaaGreatDoor.C

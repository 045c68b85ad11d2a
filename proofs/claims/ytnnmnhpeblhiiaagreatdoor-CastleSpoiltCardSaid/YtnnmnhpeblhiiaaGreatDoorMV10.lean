/- A part of the proof: the walks of the functions that it reaches. TIGHT. -/
import Derived.Test.YtnnmnhpeblhiiaaGreatDoorMV9
import Derived.Laws.EntriesVeiled
import Derived.Outline
set_option linter.unusedVariables false
set_option linter.unusedSimpArgs false
namespace Go.Proofs.YtnnmnhpeblhiiaaGreatDoor.C
open Go.RowKit Go.Proofs.YtnnmnhpeblhiiaaGreatDoorW.PrintWords Go.Proofs.YtnnmnhpeblhiiaaGreatDoorW.PrintLast Go.Proofs.YtnnmnhpeblhiiaaGreatDoorW.PrintMore
set_option linter.unusedVariables false
set_option linter.unusedSimpArgs false
set_option maxHeartbeats 16000000
set_option maxRecDepth 100000
section
attribute [local go_sem] max2_int min2_int max_two min_two
def sl_IsSorted_int_int.l0 : Nat→List Int→Int→Option (Bool)
 | 0,_,_=>none
 | k + 1,x0,x3=>if x3 > 0 then (if 0≤x3 then (if x3 < (x0.length : Int) then (if 0≤(wrap64 (x3 - 1)) then (if (wrap64 (x3 - 1)) < (x0.length : Int) then ((cmp_Less_int.f (rd x0 x3) (rd x0 (wrap64 (x3 - 1)))).bind fun t142=>(if t142 = true then (some false) else (sl_IsSorted_int_int.l0 k x0 (wrap64 (x3 - 1))))) else (none)) else (none)) else (none)) else (none)) else (some true)
def sl_IsSorted_int_int.f (k : Nat) (l0 : List Int) : Option (Bool):=sl_IsSorted_int_int.l0 k l0 (wrap64 ((l0.length : Int) - 1))
theorem sl_IsSorted_int_int.calls (k : Nat) (A0 : Option Addr) (c0 : Nat) (l0 : List Int) (r : Bool) (w : World) (hr0 : Kd.C (Kd.int .i64) w A0 l0.length l0) (hc0 : l0.length≤c0) (h : sl_IsSorted_int_int.f k l0 = some r) :
 Calls Tryz.prog 138 #[.slice A0 l0.length c0] w fun e w'=>e = .returned (.bool r)∧Drawn0 w w':=by
 have HR0:=am hr0
 have HC0:=am hc0
 clear hr0 hc0
 have H : (sl_IsSorted_int_int.l0 k l0 (wrap64 ((l0.length : Int) - 1))) = some r:=h
 clear h
 replace H':=am H
 go_enter Tryz.func138,Tryz.ntmps138
 go_wp2
 repeat (go_quiet (fail);try go_wp2)
 go_loopg [3] k (fun kq v3 w'=>∃ (x3_1 : Int),v3 = .int .i64 x3_1∧Aside0 (sl_IsSorted_int_int.l0 kq l0 x3_1 = some r)∧Aside0 (kq≤k)∧Drawn0 w w')
 case atStart=>exact ⟨(wrap64 ((l0.length : Int) - 1)),(by first | rfl | (simp;done) | (simp [*];done)),H',⟨Nat.le_refl _⟩,by repeat (first | exact Drawn0.refl _ | apply Drawn0.step)⟩
 case round =>
  clear H'
  obtain ⟨x3_1,rfl,HA,HK1,⟨m1,rfl⟩⟩:=hrel
  cases gk with
  | zero=>exact absurd HA.out (by simp [sl_IsSorted_int_int.l0])
  | succ k1 =>
   have H:=HA.out
   clear HA
   simp only [sl_IsSorted_int_int.l0] at H
   by_cases c2 : x3_1 > 0
   case neg =>
    rw [if_neg c2] at H
    have c2b0 : decide (0 < x3_1) = false:=decide_eq_false c2
    clear c2
    obtain rfl:=Option.some.inj H
    go_wp2
    repeat (go_quiet (fail);try go_wp2)
    go_ret
    exact ⟨by first | rfl | (simp;done) | (simp [*];done),by repeat (first | exact Drawn0.refl _ | apply Drawn0.step)⟩
   rw [if_pos c2] at H
   have c2b0 : decide (0 < x3_1) = true:=decide_eq_true c2
   clear c2
   by_cases c3 : 0≤x3_1
   case neg =>
    rw [if_neg c3] at H
    exact absurd H (by simp)
   rw [if_pos c3] at H
   have c3b0 : decide (0≤x3_1) = true:=decide_eq_true c3
   clear c3
   by_cases c4 : x3_1 < (l0.length : Int)
   case neg =>
    rw [if_neg c4] at H
    exact absurd H (by simp)
   rw [if_pos c4] at H
   have c4b0 : decide (x3_1 < (l0.length : Int)) = true:=decide_eq_true c4
   clear c4
   obtain ⟨ji5,hji5⟩ : ∃ j_ : Int,(wrap64 (x3_1 - 1)) = j_:=⟨_,rfl⟩
   replace H : (if 0≤(ji5) then (if (ji5) < (l0.length : Int) then ((cmp_Less_int.f (rd l0 x3_1) (rd l0 (ji5))).bind fun t142=>(if t142 = true then (some false) else (sl_IsSorted_int_int.l0 k1 l0 ji5))) else (none)) else (none)) = some r:=by first | (rw [hji5] at H;exact H) | (simp only [hji5] at H ⊢;exact H)
   have hji5w : (IntKind.i64.wrap (x3_1 - 1)) = ji5:=(i64_w _).trans hji5
   by_cases c6 : 0≤(ji5)
   case neg =>
    rw [if_neg c6] at H
    exact absurd H (by simp)
   rw [if_pos c6] at H
   have c6b0 : decide (0≤(ji5)) = true:=decide_eq_true c6
   clear c6
   by_cases c7 : (ji5) < (l0.length : Int)
   case neg =>
    rw [if_neg c7] at H
    exact absurd H (by simp)
   rw [if_pos c7] at H
   have c7b0 : decide ((ji5) < (l0.length : Int)) = true:=decide_eq_true c7
   clear c7
   replace H:=obm H
   obtain ⟨t142,A80,H⟩:=H
   replace H : (if t142 = true then (some false) else (sl_IsSorted_int_int.l0 k1 l0 ji5)) = some r:=H
   have A8:=am A80
   clear A80
   by_cases c9 : t142 = true
   ·subst c9
    replace H : (some false) = some r:=by rw [if_pos rfl] at H;exact H
    obtain rfl:=Option.some.inj H
    have p140 : 0≤(x3_1 : Int):=of_decide_eq_true (by assumption)
    have q140 : x3_1 < (l0.length : Int):=of_decide_eq_true (by assumption)
    obtain ⟨ad140,e140,hx140_0⟩:=Kd.at_int HR0.out x3_1 p140 q140
    cases e140
    replace p140:=eq_true p140
    replace q140:=eq_true q140
    have p141 : 0≤((ji5) : Int):=of_decide_eq_true (by assumption)
    have q141 : (ji5) < (l0.length : Int):=of_decide_eq_true (by assumption)
    obtain ⟨ad141,e141,hx141_0⟩:=Kd.at_int HR0.out (ji5) p141 q141
    obtain rfl : ad140 = ad141:=(by injection e141)
    replace p141:=eq_true p141
    replace q141:=eq_true q141
    go_wp2_with (first | (go_at_call 147;(with_reducible refine (cmp_Less_int.calls (rd l0 x3_1) (rd l0 (ji5)) true _ A8.out).mono ?_);rintro e w' ⟨rfl,⟨nd,rfl⟩⟩;(try first | exact ⟨rfl,_,World.drewN_drewN _ _ _⟩ | exact ⟨rfl,_,Eq.trans (World.drewN_drewN _ _ _) (congrArg (World.drewN _) (Nat.add_assoc _ _ _))⟩)))
    repeat (go_quiet (first | (go_at_call 147;(with_reducible refine (cmp_Less_int.calls (rd l0 x3_1) (rd l0 (ji5)) true _ A8.out).mono ?_);rintro e w' ⟨rfl,⟨nd,rfl⟩⟩;(try first | exact ⟨rfl,_,World.drewN_drewN _ _ _⟩ | exact ⟨rfl,_,Eq.trans (World.drewN_drewN _ _ _) (congrArg (World.drewN _) (Nat.add_assoc _ _ _))⟩)));try go_wp2_with (first | (go_at_call 147;(with_reducible refine (cmp_Less_int.calls (rd l0 x3_1) (rd l0 (ji5)) true _ A8.out).mono ?_);rintro e w' ⟨rfl,⟨nd,rfl⟩⟩;(try first | exact ⟨rfl,_,World.drewN_drewN _ _ _⟩ | exact ⟨rfl,_,Eq.trans (World.drewN_drewN _ _ _) (congrArg (World.drewN _) (Nat.add_assoc _ _ _))⟩))))
    go_ret
    exact ⟨by first | rfl | (simp;done) | (simp only [← hji5]<;>(first | rfl | simp)) | (simp [*];done),by repeat (first | exact Drawn0.refl _ | apply Drawn0.step)⟩
   ·replace c9:=Bool.eq_false_iff.mpr c9
    subst c9
    replace H : (sl_IsSorted_int_int.l0 k1 l0 ji5) = some r:=by rw [if_neg (show ¬ (false = true) by decide)] at H;exact H
    replace H':=am H
    have p140 : 0≤(x3_1 : Int):=of_decide_eq_true (by assumption)
    have q140 : x3_1 < (l0.length : Int):=of_decide_eq_true (by assumption)
    obtain ⟨ad140,e140,hx140_0⟩:=Kd.at_int HR0.out x3_1 p140 q140
    cases e140
    replace p140:=eq_true p140
    replace q140:=eq_true q140
    have p141 : 0≤((ji5) : Int):=of_decide_eq_true (by assumption)
    have q141 : (ji5) < (l0.length : Int):=of_decide_eq_true (by assumption)
    obtain ⟨ad141,e141,hx141_0⟩:=Kd.at_int HR0.out (ji5) p141 q141
    obtain rfl : ad140 = ad141:=(by injection e141)
    replace p141:=eq_true p141
    replace q141:=eq_true q141
    go_wp2_with (first | (go_at_call 147;(with_reducible refine (cmp_Less_int.calls (rd l0 x3_1) (rd l0 (ji5)) false _ A8.out).mono ?_);rintro e w' ⟨rfl,⟨nd,rfl⟩⟩;(try first | exact ⟨rfl,_,World.drewN_drewN _ _ _⟩ | exact ⟨rfl,_,Eq.trans (World.drewN_drewN _ _ _) (congrArg (World.drewN _) (Nat.add_assoc _ _ _))⟩)))
    repeat (go_quiet (first | (go_at_call 147;(with_reducible refine (cmp_Less_int.calls (rd l0 x3_1) (rd l0 (ji5)) false _ A8.out).mono ?_);rintro e w' ⟨rfl,⟨nd,rfl⟩⟩;(try first | exact ⟨rfl,_,World.drewN_drewN _ _ _⟩ | exact ⟨rfl,_,Eq.trans (World.drewN_drewN _ _ _) (congrArg (World.drewN _) (Nat.add_assoc _ _ _))⟩)));try go_wp2_with (first | (go_at_call 147;(with_reducible refine (cmp_Less_int.calls (rd l0 x3_1) (rd l0 (ji5)) false _ A8.out).mono ?_);rintro e w' ⟨rfl,⟨nd,rfl⟩⟩;(try first | exact ⟨rfl,_,World.drewN_drewN _ _ _⟩ | exact ⟨rfl,_,Eq.trans (World.drewN_drewN _ _ _) (congrArg (World.drewN _) (Nat.add_assoc _ _ _))⟩))))
    go_roundg k1
    case measure=>have:=HK1.out;omega
    case rel=>exact ⟨(ji5),(by first | rfl | (simp;done) | (simp only [← hji5]<;>(first | rfl | simp)) | (simp [*];done)),H',⟨by have:=HK1.out;omega⟩,by repeat (first | exact Drawn0.refl _ | apply Drawn0.step)⟩
def nz_isRow.f (l0_0 : List (S126)) (a0_1 : Int) (a1 : Int) : Option (Bool):=(nz_in.f a1 0 (wrap64 ((l0_0.length : Int) - 1))).bind fun t1081=>(some t1081)
theorem nz_isRow.calls (A0_0 : Option Addr) (c0_0 : Nat) (l0_0 : List (S126)) (a0_1 : Int) (a1 : Int) (r : Bool) (w : World) (hr0_0 : Kd.C k126 w A0_0 l0_0.length l0_0) (hc0_0 : l0_0.length≤c0_0) (h : nz_isRow.f l0_0 a0_1 a1 = some r) :
 Calls Tryz.prog 140 #[.agg #[.slice A0_0 l0_0.length c0_0,.int .i64 a0_1],.int .i64 a1] w fun e w'=>e = .returned (.bool r)∧Below w.heap.size w w':=by
 have hu24:=Tryz.underlying24
 have HR0_0:=am hr0_0
 have HC0_0:=am hc0_0
 clear hr0_0 hc0_0
 have HB:=am (Below.refl w.heap.size w)
 have H : ((nz_in.f a1 0 (wrap64 ((l0_0.length : Int) - 1))).bind fun t1081=>(some t1081)) = some r:=h
 clear h
 replace H:=obm H
 obtain ⟨t1081,A30,H⟩:=H
 replace H : (some t1081) = some r:=H
 have A3:=am A30
 clear A30
 obtain rfl:=Option.some.inj H
 go_enter Tryz.func140,Tryz.ntmps140
 go_wp2_with (first | ((refine gate_dst (N:=2) rfl ?_);refine box_event rfl (N:=2) rfl (cs:=#[.slice A0_0 l0_0.length c0_0,.int .i64 a0_1]) (t:=24) ?hr ?_;(case hr=>go_simp;try rfl);intro gb1080 hg w4 hbox hb;have BK1080:=am (hbox);have GW1080:=am (ge_new (HB.out) hg);have GE1080:=am (ge_new (HB.out) hg);replace HB:=am (below_step (HB.out) hb);clear hb hbox hg;obtain ⟨hcz5_0,hcz5_1⟩:=cO2 BK1080.out) | ((with_reducible refine gate_callee (f:=135) rfl ?_);refine goesL_ (some 10) rfl rfl Tryz.func135 (by kernel_rfl) rfl #[.int .i64 a1,.int .i64 0,.int .i64 (wrap64 ((l0_0.length : Int) - 1))] rfl (by (try simp only [List.map_toArray,List.map_cons,List.map_nil]);first | done | rfl | (simp only [List.length_drop,List.length_take];rfl)) ?_;(with_reducible refine (nz_in.calls a1 0 (wrap64 ((l0_0.length : Int) - 1)) t1081 _ A3.out).mono ?_);rintro e w' ⟨rfl,⟨nd,rfl⟩⟩;refine ⟨_,rfl,?_⟩))
 go_ret
 exact ⟨by first | rfl | (simp [*]<;>rfl),pw_below_drewN HB.out _⟩
end
theorem isSet1_calls (g : Nat) (A0 : Option Addr) (c0 : Nat) (l0 : List S126) (a1 : Int) (n : Int) (r : Bool) (W : World) (hb : W.heap[g]? = some (.cells #[.slice A0 l0.length c0,.int .i64 a1] 24 (0,0)))
 (hr0 : Kd.C k126 W A0 l0.length l0) (hc0 : l0.length≤c0) (h : nz_isRow.f l0 a1 n = some r) :
 Calls Tryz.prog 139 #[.int .i64 n,.pointer (some ⟨g,0,none⟩)] W fun e W'=>e = .returned (.bool (!r))∧Below W.heap.size W W':=by
 have hu:=Tryz.underlying24
 have HR:=am hr0
 have HC:=am hc0
 have H:=am h
 obtain ⟨hcz0,hcz1⟩:=cO2 hb
 clear hr0 hc0 h hb
 go_enter Tryz.func139,Tryz.ntmps139
 go_wp2_with (go_at_call 140;refine (nz_isRow.calls _ _ l0 a1 n r _ HR.out HC.out H.out).mono ?_;rintro e W' ⟨rfl,hb⟩)
 go_ret
 exact ⟨rfl,hb⟩
def nz_isSet.f (l0 : List S126) (a1 : Int) (l1 : List Int) : Option Bool:=
 if (l1.length : Int)≤6 then (sl_IsSorted_int_int.f (l1.length + 1) l1).bind fun t=>(if t = true then (anyM (fun n=>(nz_isRow.f l0 a1 n).bind fun b=>some (!b)) l1).bind fun u=>some (!u) else some false) else some false
theorem nz_isSet.calls (A0_0 : Option Addr) (c0_0 : Nat) (l0_0 : List S126) (a0_1 : Int) (A1 : Option Addr) (c1 : Nat) (l1 : List Int) (r : Bool) (w : World) (hr0_0 : Kd.C k126 w A0_0 l0_0.length l0_0) (hc0_0 : l0_0.length≤c0_0) (hr1 : Kd.C (Kd.int .i64) w A1 l1.length l1) (hc1 : l1.length≤c1) (h : nz_isSet.f l0_0 a0_1 l1 = some r) :
 Calls Tryz.prog 129 #[.agg #[.slice A0_0 l0_0.length c0_0,.int .i64 a0_1],.slice A1 l1.length c1] w fun e w'=>e = .returned (.bool r)∧Below w.heap.size w w':=by
 have hu:=Tryz.underlying24
 have HR:=am hr0_0
 have HC:=am hc0_0
 have HR1:=am (kC hr1 (below_alloc (Below.refl _ w) (.cells #[.slice A0_0 l0_0.length c0_0,.int .i64 a0_1] 24)))
 have HC1:=am hc1
 have HBX:=am (blk_new w (.cells #[.slice A0_0 l0_0.length c0_0,.int .i64 a0_1] 24))
 have HB:=am (below_alloc (Below.refl w.heap.size w) (.cells #[.slice A0_0 l0_0.length c0_0,.int .i64 a0_1] 24))
 have hm : l1.length≤9223372036854775807:=Kd.C_max hr1
 clear hr0_0 hc0_0 hr1 hc1
 unfold nz_isSet.f at h
 by_cases h1 : (l1.length : Int)≤6
 case neg =>
  rw [if_neg h1] at h
  have b1 : decide ((l1.length : Int)≤6) = false:=decide_eq_false h1
  clear h1
  obtain rfl:=Option.some.inj h
  clear h
  go_enter Tryz.func129,Tryz.ntmps129
  go_wp2
  go_ret
  exact ⟨rfl,HB.out⟩
 rw [if_pos h1] at h
 have b1 : decide ((l1.length : Int)≤6) = true:=decide_eq_true h1
 clear h1
 obtain ⟨t,ht,h⟩:=obm h
 have H1:=am ht
 clear ht
 cases t with
 | true =>
  rw [if_pos rfl] at h
  obtain ⟨u,hu',h⟩:=obm h
  obtain rfl:=Option.some.inj h
  have H2:=am hu'
  clear hu' h
  have HP:=am (show ∀ W0,Below (w.alloc (.cells #[.slice A0_0 l0_0.length c0_0,.int .i64 a0_1] 24)).heap.size (w.alloc (.cells #[.slice A0_0 l0_0.length c0_0,.int .i64 a0_1] 24)) W0→Pred_isSet w.heap.size (fun n=>(nz_isRow.f l0_0 a0_1 n).bind fun b=>some (!b)) W0 l1 from by
   intro W0 h0 x b W hx hq hb
   obtain ⟨b',hb',he⟩:=obm hq
   obtain rfl:=Option.some.inj he
   exact isSet1_calls w.heap.size A0_0 c0_0 l0_0 a0_1 x b' W (blk_below (blk_below HBX.out h0) hb) (kC (kC (kC HR.out HB.out) h0) hb) HC.out hb')
  go_enter Tryz.func129,Tryz.ntmps129
  go_wp2_with (first | (go_at_call 138;refine (sl_IsSorted_int_int.calls _ _ _ l1 true _ HR1.out HC1.out H1.out).mono ?_;rintro e w1 ⟨rfl,hd⟩;have HB1:=am hd.below;clear hd) | (go_at_call 65;refine (any_isSet w.heap.size _ _ _ l1 u _ (kC HR1.out HB1.out) (HP.out _ HB1.out) H2.out).mono ?_;rintro e w' ⟨rfl,hb⟩))
  go_ret
  exact ⟨rfl,below_then (below_then HB.out HB.out.size HB1.out) (below_then HB.out HB.out.size HB1.out).size hb⟩
 | false =>
  rw [if_neg (by decide)] at h
  obtain rfl:=Option.some.inj h
  clear h
  go_enter Tryz.func129,Tryz.ntmps129
  go_wp2_with (go_at_call 138;refine (sl_IsSorted_int_int.calls _ _ _ l1 false _ HR1.out HC1.out H1.out).mono ?_;rintro e w' ⟨rfl,hd⟩)
  go_ret
  exact ⟨rfl,below_then HB.out HB.out.size hd.below⟩
section
attribute [local go_sem] max2_int min2_int max_two min_two
def nz_Gives.f (k : Nat) (l0_0 : List (S126)) (a0_1 : Int) (l1 : List Int) : Option (Int × Int):=(nz_isTable.f l0_0 a0_1).bind fun t152=>(if t152 = true then ((nz_isSet.f l0_0 a0_1 l1).bind fun t153=>(if t153 = true then ((nz_gives.f k l0_0 a0_1 l1).bind fun t154=>(some (t154,0))) else (some (0,2)))) else (some (0,2)))
theorem nz_Gives.calls (k : Nat) (A0_0 : Option Addr) (c0_0 : Nat) (l0_0 : List (S126)) (a0_1 : Int) (A1 : Option Addr) (c1 : Nat) (l1 : List Int) (r1 : Int) (r2 : Int) (w : World) (hr0_0 : Kd.C k126 w A0_0 l0_0.length l0_0) (hc0_0 : l0_0.length≤c0_0) (hr1 : Kd.C (Kd.int .i64) w A1 l1.length l1) (hc1 : l1.length≤c1) (h : nz_Gives.f k l0_0 a0_1 l1 = some (r1,r2)) :
 Calls Tryz.prog 106 #[.agg #[.slice A0_0 l0_0.length c0_0,.int .i64 a0_1],.slice A1 l1.length c1] w fun e w'=>e = .returned (.tuple #[.int .i64 r1,.int .i64 r2])∧Below w.heap.size w w':=by
 have hu24:=Tryz.underlying24
 have HR0_0:=am hr0_0
 have HC0_0:=am hc0_0
 clear hr0_0 hc0_0
 have HR1:=am hr1
 have HC1:=am hc1
 clear hr1 hc1
 have HB:=am (Below.refl w.heap.size w)
 have H : ((nz_isTable.f l0_0 a0_1).bind fun t152=>(if t152 = true then ((nz_isSet.f l0_0 a0_1 l1).bind fun t153=>(if t153 = true then ((nz_gives.f k l0_0 a0_1 l1).bind fun t154=>(some (t154,0))) else (some (0,2)))) else (some (0,2)))) = some (r1,r2):=h
 clear h
 replace H:=obm H
 obtain ⟨t152,A30,H⟩:=H
 replace H : (if t152 = true then ((nz_isSet.f l0_0 a0_1 l1).bind fun t153=>(if t153 = true then ((nz_gives.f k l0_0 a0_1 l1).bind fun t154=>(some (t154,0))) else (some (0,2)))) else (some (0,2))) = some (r1,r2):=H
 have A3:=am A30
 clear A30
 by_cases c4 : t152 = true
 case neg =>
  replace c4:=Bool.eq_false_iff.mpr c4
  subst c4
  replace H : (some (0,2)) = some (r1,r2):=by rw [if_neg (show ¬ (false = true) by decide)] at H;exact H
  simp only [Option.some.injEq,Prod.mk.injEq] at H
  obtain ⟨rfl,rfl⟩:=H
  go_enter Tryz.func106,Tryz.ntmps106
  go_wp2_with (first | ((refine gate_dst (N:=2) rfl ?_);refine box_event rfl (N:=2) rfl (cs:=#[.slice A0_0 l0_0.length c0_0,.int .i64 a0_1]) (t:=24) ?hr ?_;(case hr=>go_simp;try rfl);intro gb151 hg w20 hbox hb;have BK151:=am (hbox);have GW151:=am (ge_new (HB.out) hg);have GE151:=am (ge_new (HB.out) hg);replace HB:=am (below_step (HB.out) hb);clear hb hbox hg;obtain ⟨hcz21_0,hcz21_1⟩:=cO2 BK151.out) | ((with_reducible refine gate_callee (f:=127) rfl ?_);refine goesL_ (some 7) rfl rfl Tryz.func127 (by kernel_rfl) rfl #[.agg #[.slice A0_0 l0_0.length c0_0,.int .i64 a0_1]] rfl (by (try simp only [List.map_toArray,List.map_cons,List.map_nil]);first | done | rfl | (simp only [List.length_drop,List.length_take];rfl)) ?_;(refine (nz_isTable.calls _ _ l0_0 a0_1 false _ ?side1 ?side2 A3.out).mono ?_);(case side1=>exact kC HR0_0.out HB.out);(case side2=>exact HC0_0.out);rintro e w22 ⟨rfl,hb⟩;refine ⟨_,rfl,?_⟩;replace BK151:=(kmv hb BK151);replace HB:=am (below_step (HB.out) hb);(try clear hb);(try clear hb2);(try clear hk);(try clear hi)))
  go_ret2
  exact ⟨by first | rfl | (simp [*]<;>rfl),HB.out⟩
 subst c4
 replace H : ((nz_isSet.f l0_0 a0_1 l1).bind fun t153=>(if t153 = true then ((nz_gives.f k l0_0 a0_1 l1).bind fun t154=>(some (t154,0))) else (some (0,2)))) = some (r1,r2):=by rw [if_pos rfl] at H;exact H
 replace H:=obm H
 obtain ⟨t153,A50,H⟩:=H
 replace H : (if t153 = true then ((nz_gives.f k l0_0 a0_1 l1).bind fun t154=>(some (t154,0))) else (some (0,2))) = some (r1,r2):=H
 have A5:=am A50
 clear A50
 by_cases c6 : t153 = true
 case neg =>
  replace c6:=Bool.eq_false_iff.mpr c6
  subst c6
  replace H : (some (0,2)) = some (r1,r2):=by rw [if_neg (show ¬ (false = true) by decide)] at H;exact H
  simp only [Option.some.injEq,Prod.mk.injEq] at H
  obtain ⟨rfl,rfl⟩:=H
  go_enter Tryz.func106,Tryz.ntmps106
  go_wp2_with (first | ((refine gate_dst (N:=2) rfl ?_);refine box_event rfl (N:=2) rfl (cs:=#[.slice A0_0 l0_0.length c0_0,.int .i64 a0_1]) (t:=24) ?hr ?_;(case hr=>go_simp;try rfl);intro gb151 hg w15 hbox hb;have BK151:=am (hbox);have GW151:=am (ge_new (HB.out) hg);have GE151:=am (ge_new (HB.out) hg);replace HB:=am (below_step (HB.out) hb);clear hb hbox hg;obtain ⟨hcz16_0,hcz16_1⟩:=cO2 BK151.out) | ((with_reducible refine gate_callee (f:=127) rfl ?_);refine goesL_ (some 7) rfl rfl Tryz.func127 (by kernel_rfl) rfl #[.agg #[.slice A0_0 l0_0.length c0_0,.int .i64 a0_1]] rfl (by (try simp only [List.map_toArray,List.map_cons,List.map_nil]);first | done | rfl | (simp only [List.length_drop,List.length_take];rfl)) ?_;(refine (nz_isTable.calls _ _ l0_0 a0_1 true _ ?side1 ?side2 A3.out).mono ?_);(case side1=>exact kC HR0_0.out HB.out);(case side2=>exact HC0_0.out);rintro e w17 ⟨rfl,hb⟩;refine ⟨_,rfl,?_⟩;replace BK151:=(kmv hb BK151);replace HB:=am (below_step (HB.out) hb);(try clear hb);(try clear hb2);(try clear hk);(try clear hi);obtain ⟨hcz18_0,hcz18_1⟩:=cO2 BK151.out) | (go_at_call 129;(refine (nz_isSet.calls _ _ l0_0 a0_1 _ _ l1 false _ ?side1 ?side2 ?side3 ?side4 A5.out).mono ?_);(case side1=>exact kC HR0_0.out HB.out);(case side2=>exact HC0_0.out);(case side3=>exact kC HR1.out HB.out);(case side4=>exact HC1.out);rintro e w19 ⟨rfl,hb⟩;replace BK151:=(kmv hb BK151);replace HB:=am (below_step (HB.out) hb);(try clear hb);(try clear hb2);(try clear hk);(try clear hi)))
  go_ret2
  exact ⟨by first | rfl | (simp [*]<;>rfl),HB.out⟩
 subst c6
 replace H : ((nz_gives.f k l0_0 a0_1 l1).bind fun t154=>(some (t154,0))) = some (r1,r2):=by rw [if_pos rfl] at H;exact H
 replace H:=obm H
 obtain ⟨t154,A70,H⟩:=H
 replace H : (some (t154,0)) = some (r1,r2):=H
 have A7:=am A70
 clear A70
 simp only [Option.some.injEq,Prod.mk.injEq] at H
 obtain ⟨rfl,rfl⟩:=H
 go_enter Tryz.func106,Tryz.ntmps106
 go_wp2_with (first | ((refine gate_dst (N:=2) rfl ?_);refine box_event rfl (N:=2) rfl (cs:=#[.slice A0_0 l0_0.length c0_0,.int .i64 a0_1]) (t:=24) ?hr ?_;(case hr=>go_simp;try rfl);intro gb151 hg w8 hbox hb;have BK151:=am (hbox);have GW151:=am (ge_new (HB.out) hg);have GE151:=am (ge_new (HB.out) hg);replace HB:=am (below_step (HB.out) hb);clear hb hbox hg;obtain ⟨hcz9_0,hcz9_1⟩:=cO2 BK151.out) | ((with_reducible refine gate_callee (f:=127) rfl ?_);refine goesL_ (some 7) rfl rfl Tryz.func127 (by kernel_rfl) rfl #[.agg #[.slice A0_0 l0_0.length c0_0,.int .i64 a0_1]] rfl (by (try simp only [List.map_toArray,List.map_cons,List.map_nil]);first | done | rfl | (simp only [List.length_drop,List.length_take];rfl)) ?_;(refine (nz_isTable.calls _ _ l0_0 a0_1 true _ ?side1 ?side2 A3.out).mono ?_);(case side1=>exact kC HR0_0.out HB.out);(case side2=>exact HC0_0.out);rintro e w10 ⟨rfl,hb⟩;refine ⟨_,rfl,?_⟩;replace BK151:=(kmv hb BK151);replace HB:=am (below_step (HB.out) hb);(try clear hb);(try clear hb2);(try clear hk);(try clear hi);obtain ⟨hcz11_0,hcz11_1⟩:=cO2 BK151.out) | (go_at_call 129;(refine (nz_isSet.calls _ _ l0_0 a0_1 _ _ l1 true _ ?side1 ?side2 ?side3 ?side4 A5.out).mono ?_);(case side1=>exact kC HR0_0.out HB.out);(case side2=>exact HC0_0.out);(case side3=>exact kC HR1.out HB.out);(case side4=>exact HC1.out);rintro e w12 ⟨rfl,hb⟩;replace BK151:=(kmv hb BK151);replace HB:=am (below_step (HB.out) hb);(try clear hb);(try clear hb2);(try clear hk);(try clear hi);obtain ⟨hcz13_0,hcz13_1⟩:=cO2 BK151.out) | ((with_reducible refine gate_callee (f:=130) rfl ?_);refine goesL_ (some 17) rfl rfl Tryz.func130 (by kernel_rfl) rfl #[.agg #[.slice A0_0 l0_0.length c0_0,.int .i64 a0_1],.slice A1 l1.length c1] rfl (by (try simp only [List.map_toArray,List.map_cons,List.map_nil]);first | done | rfl | (simp only [List.length_drop,List.length_take];rfl)) ?_;(refine (nz_gives.calls k _ _ l0_0 a0_1 _ _ l1 t154 _ ?side1 ?side2 ?side3 ?side4 A7.out).mono ?_);(case side1=>exact kC HR0_0.out HB.out);(case side2=>exact HC0_0.out);(case side3=>exact kC HR1.out HB.out);(case side4=>exact HC1.out);rintro e w14 ⟨rfl,hb⟩;refine ⟨_,rfl,?_⟩;replace BK151:=(kmv hb BK151);replace HB:=am (below_step (HB.out) hb);(try clear hb);(try clear hb2);(try clear hk);(try clear hi)))
 go_ret2
 exact ⟨by first | rfl | (simp [*]<;>rfl),HB.out⟩
mutual
def ca_fill.l0 : Nat→List Int→List (S48)→Int→Int→List (S126)→Int→List (S48)→Int→Int→List (S126)→Int→List (S48)→Int→Int→Option (Int × Int × Int × (List (List Int)))
 | 0,_,_,_,_,_,_,_,_,_,_,_,_,_,_=>none
 | k + 1,x4,x16,x17,x18,x156000,x156001,x156002,x156003,x156004,x158000,x158001,x158002,x158003,x158004=>if x18 < x17 then (if 0≤x18 then (if x18 < (x16.length : Int) then ((nz_Gives.f k x156000 x156001 (([(rd_T48 x16 x18).f0] : List Int))).bind fun bt163=>(if x4.length < 17592186044416 then (ca_fill.l0 k (x4 ++ [bt163.1]) x16 x17 (wrap64 (x18 + 1)) x156000 x156001 x156002 x156003 x156004 x158000 x158001 x158002 x158003 x158004) else (none))) else (none)) else (none)) else (ca_fill.l1 k x4 0 x156000 x156001 x156002 x156003 x156004 x158000 x158001 x158002 x158003 x158004 ([] : List (List Int)))
def ca_fill.l1 : Nat→List Int→Int→List (S126)→Int→List (S48)→Int→Int→List (S126)→Int→List (S48)→Int→Int→List (List Int)→Option (Int × Int × Int × (List (List Int)))
 | 0,_,_,_,_,_,_,_,_,_,_,_,_,_=>none
 | k + 1,x4,x36,x156000,x156001,x156002,x156003,x156004,x158000,x158001,x158002,x158003,x158004,x158005=>if x36 < 41 then (ca_fill.l2 k x4 x36 ([] : List Int) x36 x156002 (x156002.length : Int) 0 x156000 x156001 x156002 x156003 x156004 x158000 x158001 x158002 x158003 x158004 x158005) else (some (x158001,x158003,x158004,x158005))
def ca_fill.l2 : Nat→List Int→Int→List Int→Int→List (S48)→Int→Int→List (S126)→Int→List (S48)→Int→Int→List (S126)→Int→List (S48)→Int→Int→List (List Int)→Option (Int × Int × Int × (List (List Int)))
 | 0,_,_,_,_,_,_,_,_,_,_,_,_,_,_,_,_,_,_=>none
 | k + 1,x4,x9,x10,x36,x40,x41,x42,x156000,x156001,x156002,x156003,x156004,x158000,x158001,x158002,x158003,x158004,x158005=>if x42 < x41 then (if 0≤x42 then (if x42 < (x40.length : Int) then (if x42 < (x4.length : Int) then (if x10.length < 17592186044416 then (ca_fill.l2 k x4 x9 (x10 ++ [wrap64 (Int.tdiv (wrap64 ((rd x4 x42) * (mx 0 (mn 5 (wrap64 (x9 - ((rd_T48 x40 x42).f1))))))) 5)]) x36 x40 x41 (wrap64 (x42 + 1)) x156000 x156001 x156002 x156003 x156004 x158000 x158001 x158002 x158003 x158004 x158005) else (none)) else (none)) else (none)) else (none)) else (if x158005.length < 5864062014805 then (ca_fill.l1 k x4 (wrap64 (x36 + 1)) x156000 x156001 x156002 x156003 x156004 x158000 x158001 x158002 x158003 x158004 (x158005 ++ [x10])) else (none))
end
def ca_fill.f (k : Nat) (l0_0 : List (S126)) (a0_1 : Int) (l0_2 : List (S48)) (a0_3 : Int) (a0_4 : Int) : Option (Int × Int × Int × (List (List Int))):=ca_fill.l0 k ([] : List Int) l0_2 (l0_2.length : Int) 0 l0_0 a0_1 l0_2 a0_3 a0_4 l0_0 a0_1 l0_2 a0_3 a0_4
def ca_fill.T16 : Bool × List (List Nat × List Nat):=(true,[([],[]),([],[]),([],[]),([1,2],[1,2]),([3],[3]),([],[]),([],[]),([6],[6]),([5,7],[5,7]),([8],[8]),([9],[9]),([4,10],[4,10]),([11],[11]),([12],[12]),([0,13],[0,13]),([14,14,0,1,2,3,4,5,6,7,8,9,10,11,12,13,14],[0,14])])
def ca_fill.B16 : List Nat:=[0,0,0,6,14,0,0,64,224,480,992,2046,4094,8190,16383,32767]
theorem ca_fill.tab16 : rtab .any (opsOf Tryz.f69 16) = ca_fill.T16:=by kernel_rfl
theorem ca_fill.bits16 : waitsOk ca_fill.T16.2 ca_fill.B16 = true:=by kernel_rfl
theorem ca_fill.calls (k : Nat) (A0_0 : Option Addr) (c0_0 : Nat) (l0_0 : List (S126)) (a0_1 : Int) (A0_2 : Option Addr) (c0_2 : Nat) (l0_2 : List (S48)) (a0_3 : Int) (a0_4 : Int) (r1 : Int) (r2 : Int) (r3 : Int) (r4 : List (List Int)) (w : World) (hr0_0 : Kd.C k126 w A0_0 l0_0.length l0_0) (hc0_0 : l0_0.length≤c0_0) (hr0_2 : Kd.C k48 w A0_2 l0_2.length l0_2) (hc0_2 : l0_2.length≤c0_2) (h : ca_fill.f k l0_0 a0_1 l0_2 a0_3 a0_4 = some (r1,r2,r3,r4)) :
 Calls Tryz.prog 69 #[.agg #[.slice A0_0 l0_0.length c0_0,.int .i64 a0_1,.slice A0_2 l0_2.length c0_2,.int .i64 a0_3,.int .i64 a0_4]] w fun e w'=>∃ v3_ : Value,e = .returned (.agg #[.slice A0_0 l0_0.length c0_0,.int .i64 r1,.slice A0_2 l0_2.length c0_2,.int .i64 r2,.int .i64 r3,v3_])∧Kd.S (Kd.slice 3 (Kd.int .i64)) 28 w' w.heap.size (fun _=>True) v3_ r4∧Below w.heap.size w w':=by
 have hu27:=Tryz.underlying27
 have hu110:=Tryz.underlying110
 have hu48:=Tryz.underlying48
 have hu24:=Tryz.underlying24
 have HR0_0:=am hr0_0
 have HC0_0:=am hc0_0
 clear hr0_0 hc0_0
 have HR0_2:=am hr0_2
 have HC0_2:=am hc0_2
 clear hr0_2 hc0_2
 have HB:=am (Below.refl w.heap.size w)
 have H : (ca_fill.l0 k ([] : List Int) l0_2 (l0_2.length : Int) 0 l0_0 a0_1 l0_2 a0_3 a0_4 l0_0 a0_1 l0_2 a0_3 a0_4) = some (r1,r2,r3,r4):=h
 clear h
 replace H':=am H
 go_enter Tryz.func69,Tryz.ntmps69
 go_wp2_with (first | ((refine gate_dst (N:=1) rfl ?_);refine box_event rfl (N:=1) rfl (cs:=#[.slice A0_0 l0_0.length c0_0,.int .i64 a0_1,.slice A0_2 l0_2.length c0_2,.int .i64 a0_3,.int .i64 a0_4]) (t:=27) ?hr ?_;(case hr=>go_simp;try rfl);intro gb155 hg w2 hbox hb;have BK155:=am (hbox);have GW155:=am (ge_new (HB.out) hg);have GE155:=am (ge_new (HB.out) hg);replace HB:=am (below_step (HB.out) hb);clear hb hbox hg) | ((refine gate_dst (N:=2) rfl ?_);refine box_event rfl (N:=2) rfl (cs:=#[.slice none 0 0,.int .i64 0,.slice none 0 0,.int .i64 0,.int .i64 0,.slice none 0 0]) (t:=110) ?hr ?_;(case hr=>go_simp;try rfl);intro gb156 hg w3 hbox hb;have BK156:=am (hbox);have GW156:=am (ge_new (HB.out) hg);have GE156:=am (ge_new (HB.out) hg);have NB155_156:=am (ne_new BK155.out hg);have NB156_155:=am (ne_new2 BK155.out hg);replace BK155:=(kmv hb BK155);replace HB:=am (below_step (HB.out) hb);clear hb hbox hg;have hnb4:=NB155_156.out;have hnc4:=NB156_155.out;obtain ⟨hcz5_0,hcz5_1,hcz5_2,hcz5_3,hcz5_4⟩:=cO5 BK155.out) | ((refine gate_dst (N:=3) rfl ?_);refine box_event rfl (N:=3) rfl (cs:=#[.slice none 0 0,.int .i64 0,.slice none 0 0,.int .i64 0,.int .i64 0,.slice none 0 0]) (t:=110) ?hr ?_;(case hr=>go_simp;try rfl);intro gb157 hg w6 hbox hb;have BK157:=am (hbox);have GW157:=am (ge_new (HB.out) hg);have GE157:=am (ge_new (HB.out) hg);have NB155_157:=am (ne_new BK155.out hg);have NB157_155:=am (ne_new2 BK155.out hg);have NB156_157:=am (ne_new BK156.out hg);have NB157_156:=am (ne_new2 BK156.out hg);replace BK155:=(kmv hb BK155);replace BK156:=(kmv hb BK156);replace HB:=am (below_step (HB.out) hb);clear hb hbox hg;have hnb7:=NB157_155.out;have hnc7:=NB155_157.out;have hnb8:=NB157_156.out;have hnc8:=NB156_157.out;obtain ⟨hcz9_0,hcz9_1,hcz9_2,hcz9_3,hcz9_4,hcz9_5⟩:=cO6 BK157.out;have hfz9_0:=blk_frozen BK157.out 0;have hfz9_1:=blk_frozen BK157.out 1;have hfz9_2:=blk_frozen BK157.out 2;have hfz9_3:=blk_frozen BK157.out 3;have hfz9_4:=blk_frozen BK157.out 4;have hfz9_5:=blk_frozen BK157.out 5;obtain ⟨hcz10_0,hcz10_1,hcz10_2,hcz10_3,hcz10_4⟩:=cO5 BK155.out))
 go_loopg [4,18] k (fun kq v4 v18 w'=>∃ (x4_1 : List Int) (x18_1 : Int),v18 = .int .i64 x18_1∧Aside0 (ca_fill.l0 kq x4_1 l0_2 (l0_2.length : Int) x18_1 l0_0 a0_1 l0_2 a0_3 a0_4 l0_0 a0_1 l0_2 a0_3 a0_4 = some (r1,r2,r3,r4))∧Aside0 (kq≤k)∧Aside0 (Kd.R (Kd.int .i64) 3 w' w.heap.size (fun _=>True) v4 x4_1)∧Aside0 (w'.heap[gb155]? = some (.cells #[(.slice A0_0 l0_0.length c0_0),.int .i64 a0_1,(.slice A0_2 l0_2.length c0_2),.int .i64 a0_3,.int .i64 a0_4] 27 (0,0)))∧Aside0 (w'.heap[gb156]? = some (.cells #[(.slice none 0 0),.int .i64 0,(.slice none 0 0),.int .i64 0,.int .i64 0,(.slice none 0 0)] 110 (0,0)))∧Aside0 (w'.heap[gb157]? = some (.cells #[(.slice A0_0 l0_0.length c0_0),.int .i64 a0_1,(.slice A0_2 l0_2.length c0_2),.int .i64 a0_3,.int .i64 a0_4,(.slice none 0 0)] 110 (0,0)))∧Aside0 (Below w.heap.size w w'))
 case atStart=>exact ⟨(([] : List Int)),(0),(by first | rfl | (simp;done) | (simp [*];done)),H',⟨Nat.le_refl _⟩,⟨by first | exact Kd.R_nil _ _ _ _ _ | exact Kd.N_nil _ _ _ _ _ | exact Kd.V_nil _ _ _ _ _ | exact Kd.Q_nil _ _ _ _ _ | exact Kd.S_nil _ _ _ _ _⟩,⟨(blk_far (blk_far (blk_far (blk_far (blk_far (blk_far BK155.out NB155_157.out _) NB155_157.out _) NB155_157.out _) NB155_157.out _) NB155_157.out _) NB155_157.out _)⟩,⟨(blk_far (blk_far (blk_far (blk_far (blk_far (blk_far BK156.out NB156_157.out _) NB156_157.out _) NB156_157.out _) NB156_157.out _) NB156_157.out _) NB156_157.out _)⟩,⟨(blk_put (cs:=#[.slice A0_0 l0_0.length c0_0,.int .i64 a0_1,.slice A0_2 l0_2.length c0_2,.int .i64 a0_3,.int .i64 a0_4,.slice none 0 0]) (blk_put (cs:=#[.slice A0_0 l0_0.length c0_0,.int .i64 a0_1,.slice A0_2 l0_2.length c0_2,.int .i64 a0_3,.int .i64 0,.slice none 0 0]) (blk_put (cs:=#[.slice A0_0 l0_0.length c0_0,.int .i64 a0_1,.slice A0_2 l0_2.length c0_2,.int .i64 0,.int .i64 0,.slice none 0 0]) (blk_put (cs:=#[.slice A0_0 l0_0.length c0_0,.int .i64 a0_1,.slice none 0 0,.int .i64 0,.int .i64 0,.slice none 0 0]) (blk_put (cs:=#[.slice A0_0 l0_0.length c0_0,.int .i64 0,.slice none 0 0,.int .i64 0,.int .i64 0,.slice none 0 0]) (blk_put (cs:=#[.slice none 0 0,.int .i64 0,.slice none 0 0,.int .i64 0,.int .i64 0,.slice none 0 0]) BK157.out 0 _ rfl) 1 _ rfl) 2 _ rfl) 3 _ rfl) 4 _ rfl) 5 _ rfl)⟩,⟨by repeat (first | (with_reducible first | exact HB.out | refine below_set ?_ (Aside0.out (by assumption)) | apply below_alloc | apply pw_below_drewN) | exact HB.out)⟩⟩
 case round =>
  clear H'
  obtain ⟨x4_1,x18_1,rfl,HA,HK1,HO_4,BK155,BK156,BK157,HB⟩:=hrel
  cases gk with
  | zero=>exact absurd HA.out (by simp [ca_fill.l0])
  | succ k1 =>
   have H:=HA.out
   clear HA
   simp only [ca_fill.l0] at H
   by_cases c11 : x18_1 < (l0_2.length : Int)
   ·rw [if_pos c11] at H
    have c11b0 : decide (x18_1 < (l0_2.length : Int)) = true:=decide_eq_true c11
    clear c11
    by_cases c12 : 0≤x18_1
    case neg =>
     rw [if_neg c12] at H
     exact absurd H (by simp)
    rw [if_pos c12] at H
    have c12b0 : decide (0≤x18_1) = true:=decide_eq_true c12
    clear c12
    by_cases c13 : x18_1 < (l0_2.length : Int)
    case neg =>
     rw [if_neg c13] at H
     exact absurd H (by simp)
    rw [if_pos c13] at H
    have c13b0 : decide (x18_1 < (l0_2.length : Int)) = true:=decide_eq_true c13
    clear c13
    obtain ⟨y160,hy160⟩ : ∃ y_ : List Int,y_ = (([(rd_T48 l0_2 x18_1).f0] : List Int)):=⟨_,rfl⟩
    replace H : ((nz_Gives.f k1 l0_0 a0_1 y160).bind fun bt163=>(if x4_1.length < 17592186044416 then (ca_fill.l0 k1 (x4_1 ++ [bt163.1]) l0_2 (l0_2.length : Int) (wrap64 (x18_1 + 1)) l0_0 a0_1 l0_2 a0_3 a0_4 l0_0 a0_1 l0_2 a0_3 a0_4) else (none))) = some (r1,r2,r3,r4):=by first | (rw [hy160];with_reducible exact H) | (have H2_:=(Option.bind_some _ _).symm.trans H;rw [hy160];with_reducible exact H2_) | (have H2_:=(Option.bind_some _ _).symm.trans H;with_reducible exact H2_) | with_reducible exact H | (rw [hy160];exact H) | exact H
    have Ny160:=am hy160
    clear hy160
    replace H:=obm H
    obtain ⟨⟨t163,t164⟩,A140,H⟩:=H
    replace H : (if x4_1.length < 17592186044416 then (ca_fill.l0 k1 (x4_1 ++ [t163]) l0_2 (l0_2.length : Int) (wrap64 (x18_1 + 1)) l0_0 a0_1 l0_2 a0_3 a0_4 l0_0 a0_1 l0_2 a0_3 a0_4) else (none)) = some (r1,r2,r3,r4):=H
    have A14:=am A140
    clear A140
    by_cases c15 : x4_1.length < 17592186044416
    case neg =>
     rw [if_neg c15] at H
     exact absurd H (by simp)
    rw [if_pos c15] at H
    have LMc15:=am c15
    clear c15
    obtain ⟨y165,hy165⟩ : ∃ y_ : List Int,y_ = (x4_1 ++ [t163]):=⟨_,rfl⟩
    replace H : (ca_fill.l0 k1 y165 l0_2 (l0_2.length : Int) (wrap64 (x18_1 + 1)) l0_0 a0_1 l0_2 a0_3 a0_4 l0_0 a0_1 l0_2 a0_3 a0_4) = some (r1,r2,r3,r4):=by first | (rw [hy165];with_reducible exact H) | (have H2_:=(Option.bind_some _ _).symm.trans H;rw [hy165];with_reducible exact H2_) | (have H2_:=(Option.bind_some _ _).symm.trans H;with_reducible exact H2_) | with_reducible exact H | (rw [hy165];exact H) | exact H
    have Ny165:=am hy165
    clear hy165
    replace H':=am H
    have p158 : 0≤(x18_1 : Int):=of_decide_eq_true (by assumption)
    have q158 : x18_1 < (l0_2.length : Int):=of_decide_eq_true (by assumption)
    obtain ⟨ad158,e158,hx158_0,hx158_1⟩:=at_T48 HR0_2.out x18_1 p158 q158
    cases e158
    replace hx158_0:=(HB.out.cell (wbl hx158_0)).trans hx158_0
    replace hx158_1:=(HB.out.cell (wbl hx158_1)).trans hx158_1
    replace p158:=eq_true p158
    replace q158:=eq_true q158
    go_wp2_with (first | ((refine gate_dst (N:=6) rfl ?_);refine box_event rfl (N:=6) rfl (cs:=#[.int .i64 0,.int .i64 0]) (t:=48) ?hr ?_;(case hr=>go_simp;try rfl);intro gb159 hg w16 hbox hb;have BK159:=am (hbox);have GW159:=am (ge_new (HB.out) hg);have GE159:=am (ge_new (HB.out) hg);have NB155_159:=am (ne_new BK155.out hg);have NB159_155:=am (ne_new2 BK155.out hg);have NB156_159:=am (ne_new BK156.out hg);have NB159_156:=am (ne_new2 BK156.out hg);have NB157_159:=am (ne_new BK157.out hg);have NB159_157:=am (ne_new2 BK157.out hg);replace HO_4:=am (Kd.R_below HO_4.out hb);replace BK155:=(kmv hb BK155);replace BK156:=(kmv hb BK156);replace BK157:=(kmv hb BK157);replace HB:=am (below_step (HB.out) hb);clear hb hbox hg;have hnb17:=NB159_155.out;have hnc17:=NB155_159.out;have hnb18:=NB159_156.out;have hnc18:=NB156_159.out;have hnb19:=NB159_157.out;have hnc19:=NB157_159.out;obtain ⟨hcz20_0,hcz20_1⟩:=cO2 BK159.out;have hfz20_0:=blk_frozen BK159.out 0;have hfz20_1:=blk_frozen BK159.out 1;have hnb21:=NB155_156.out;have hnc21:=NB156_155.out;have hnb22:=NB155_157.out;have hnc22:=NB157_155.out;obtain ⟨hcz23_0,hcz23_1,hcz23_2,hcz23_3,hcz23_4⟩:=cO5 BK155.out) | ((refine gate_dst (N:=27) rfl ?_);refine Kd.R_lit (Kd.int .i64) _ 3 ?hg (N:=27) ?hd (xs:=([(rd_T48 l0_2 x18_1).f0] : List Int)) (inner:=[.int .i64 ((rd_T48 l0_2 x18_1).f0)]) (ok:=fun _=>True) (okp:=fun _=>True) ?hr ?hp (fun _ hk=>hk) trivial (Below.refl _ _) (Nat.le_refl _) (by simp) ?_;(case hd=>rfl);(case hg=>rfl);(case hr=>go_simp;try rfl);(case hp=>exact (Reps.one (show Kd.M (Kd.int .i64) _ _ _ ((rd_T48 l0_2 x18_1).f0) [.int .i64 ((rd_T48 l0_2 x18_1).f0)] from rfl) (Reps.none _ _)));intro v161 w24 ho25 hb hg_ hnew_;clear hg_ hnew_;(first | rw [← Ny160.out] at ho25 | (simp only [Int.reduceToNat] at ho25;rw [← Ny160.out] at ho25));have HO162:=am (Kd.R_lower (Kd.R_new' ho25 (Kd.R_lt (Kd.R_mono (Kd.R_far (p:=⟨gb159,1,none⟩) (Kd.R_far (p:=⟨gb159,0,none⟩) (Kd.R_types HO_4.out BK159.out (by decide)) (fun _ hk=>hk.2) (.int .i64 ((rd_T48 l0_2 x18_1).f0))) (fun _ hk=>hk.2) (.int .i64 ((rd_T48 l0_2 x18_1).f1))) (fun _ h_=>h_.1)))) (below_size (by repeat (first | (with_reducible first | exact HB.out | refine below_set ?_ (Aside0.out (by assumption)) | apply below_alloc | apply pw_below_drewN) | exact HB.out))));replace HO_4:=am (Kd.R_elder' (Kd.R_mono (Kd.R_far (p:=⟨gb159,1,none⟩) (Kd.R_far (p:=⟨gb159,0,none⟩) (Kd.R_types HO_4.out BK159.out (by decide)) (fun _ hk=>hk.2) (.int .i64 ((rd_T48 l0_2 x18_1).f0))) (fun _ hk=>hk.2) (.int .i64 ((rd_T48 l0_2 x18_1).f1))) (fun _ h_=>h_.1)) (Kd.R_base ho25) hb);replace BK155:=am (blk_below (blk_far (blk_far BK155.out NB155_159.out _) NB155_159.out _) hb);replace BK156:=am (blk_below (blk_far (blk_far BK156.out NB156_159.out _) NB156_159.out _) hb);replace BK157:=am (blk_below (blk_far (blk_far BK157.out NB157_159.out _) NB157_159.out _) hb);replace BK159:=am (blk_below (blk_put (cs:=#[.int .i64 ((rd_T48 l0_2 x18_1).f0),.int .i64 0]) (blk_put (cs:=#[.int .i64 0,.int .i64 0]) BK159.out 0 _ rfl) 1 _ rfl) hb);replace HB:=am (below_step (by repeat (first | (with_reducible first | exact HB.out | refine below_set ?_ (Aside0.out (by assumption)) | apply below_alloc | apply pw_below_drewN) | exact HB.out)) hb);clear hb ho25;obtain ⟨Ao26,co26,eo26⟩:=Kd.R_slice HO162.out;subst eo26) | ((with_reducible refine gate_callee (f:=106) rfl ?_);refine goesL_ (some 28) rfl rfl Tryz.func106 (by kernel_rfl) rfl #[.agg #[.slice A0_0 l0_0.length c0_0,.int .i64 a0_1],.slice Ao26 y160.length co26] rfl (by (try simp only [List.map_toArray,List.map_cons,List.map_nil]);first | done | rfl | (simp only [List.length_drop,List.length_take];rfl)) ?_;(refine (nz_Gives.calls k1 _ _ l0_0 a0_1 _ _ y160 t163 t164 _ ?side1 ?side2 ?side3 ?side4 A14.out).mono ?_);(case side1=>exact kC HR0_0.out HB.out);(case side2=>exact HC0_0.out);(case side3=>repeat (first | exact (Kd.R_reads' HO162.out).2.2 | (with_reducible refine Kd.C_alloc ?_ _) | (with_reducible refine Kd.C_drewN ?_ _) | (with_reducible refine Kd.C_drew ?_)));(case side4=>exact (Kd.R_reads' HO162.out).2.1);rintro e w27 ⟨rfl,hb⟩;refine ⟨_,rfl,?_⟩;replace HO_4:=am (Kd.R_below HO_4.out hb);replace HO162:=am (Kd.R_below HO162.out hb);replace BK155:=(kmv hb BK155);replace BK156:=(kmv hb BK156);replace BK157:=(kmv hb BK157);replace BK159:=(kmv hb BK159);replace HB:=am (below_step (HB.out) hb);(try clear hb);(try clear hb2);(try clear hk);(try clear hi)) | ((with_reducible refine gate_builtin (b:=.append) (xs:=#[.tmp 31,.tmp 33]) rfl ?_);at_builtin;refine Kd.R_append (Kd.int .i64) (w0:=w) w.heap.size rfl (.tmp 31) (.tmp 33) 28 3 (.int .i64 0) 8 rfl Tryz.underlying28 info3 rfl (by decide) (by omega) u4 x4_1 t163 [.int .i64 t163] (fun k_=>some k_ ≠ (.slice Ao26 y160.length co26 : Value).ownBlock) (fun _=>False) rfl rfl ?aP (fun _ hk=>hk.elim) ?aF ?aO ?aB ?aS ?aL ?_;(case aP=>exact rfl);(case aB=>exact (HB.out));(case aF=>exact (fun k_ hk=>Kd.fresh' (Kd.R_lt HO162.out) k_ hk));(case aO=>exact (Kd.R_mono HO_4.out (fun _ hk=>hk.2)));(case aS=>exact (below_size (HB.out)));(case aL=>have:=LMc15.out;omega);intro v166 w28 ho hb hg hat;rw [← Ny165.out] at ho;have n0_:=am (blk_grown (g:=gb155) (o:=.cells #[.slice A0_0 l0_0.length c0_0,.int .i64 a0_1,.slice (some ad158) l0_2.length c0_2,.int .i64 a0_3,.int .i64 a0_4] 27 (0,0)) BK155.out hg (Kd.R_ne HO_4.out BK155.out (by decide)));have n1_:=am (blk_grown (g:=gb156) (o:=.cells #[.slice none 0 0,.int .i64 0,.slice none 0 0,.int .i64 0,.int .i64 0,.slice none 0 0] 110 (0,0)) BK156.out hg (Kd.R_ne HO_4.out BK156.out (by decide)));have n2_:=am (blk_grown (g:=gb157) (o:=.cells #[.slice A0_0 l0_0.length c0_0,.int .i64 a0_1,.slice (some ad158) l0_2.length c0_2,.int .i64 a0_3,.int .i64 a0_4,.slice none 0 0] 110 (0,0)) BK157.out hg (Kd.R_ne HO_4.out BK157.out (by decide)));have n3_:=am (blk_grown (g:=gb159) (o:=.cells #[.int .i64 ((rd_T48 l0_2 x18_1).f0),.int .i64 ((rd_T48 l0_2 x18_1).f1)] 48 (0,0)) BK159.out hg (Kd.R_ne HO_4.out BK159.out (by decide)));have n4_:=am (Kd.R_after (ok:=(fun _=>True)) HO162.out hg hat);have n5_:=am (hb);have n6_:=am (ho);clear BK155;clear BK156;clear BK157;clear BK159;clear HO162;clear HB;clear HO_4;have BK155:=n0_;have BK156:=n1_;have BK157:=n2_;have BK159:=n3_;have HO162:=n4_;have HB:=n5_;have HO167:=n6_;clear n0_ n1_ n2_ n3_ n4_ n5_ n6_;clear ho hb hg hat))
    go_roundg k1
    case measure=>have:=HK1.out;omega
    case rel=>exact ⟨(y165),(wrap64 (x18_1 + 1)),(by first | rfl | (simp;done) | (simp [*];done)),H',⟨by have:=HK1.out;omega⟩,⟨by (with_reducible repeat (first | apply Kd.R_alloc | apply Kd.R_drewN | apply Kd.R_drew));exact Kd.R_mono HO167.out (fun _ hk=>trivial)⟩,⟨BK155.out⟩,⟨BK156.out⟩,⟨BK157.out⟩,⟨HB.out⟩⟩
   ·rw [if_neg c11] at H
    have c11b0 : decide (x18_1 < (l0_2.length : Int)) = false:=decide_eq_false c11
    clear c11
    replace H':=am H
    go_wp2
    go_loopg [36] k1 (fun kq v36 w'=>∃ (x36_2 : Int) (x158005_2 : List (List Int)) (u158005 : Value),v36 = .int .i64 x36_2∧Aside0 (ca_fill.l1 kq x4_1 x36_2 l0_0 a0_1 l0_2 a0_3 a0_4 l0_0 a0_1 l0_2 a0_3 a0_4 x158005_2 = some (r1,r2,r3,r4))∧Aside0 (kq≤k1)∧Aside0 (Kd.R (Kd.int .i64) 3 w' w.heap.size (fun _=>True) u4 x4_1)∧Aside0 (Kd.S (Kd.slice 3 (Kd.int .i64)) 28 w' w.heap.size (fun k_=>some k_ ≠ (u4 : Value).ownBlock) u158005 x158005_2)∧Aside0 (w'.heap[gb155]? = some (.cells #[(.slice A0_0 l0_0.length c0_0),.int .i64 a0_1,(.slice A0_2 l0_2.length c0_2),.int .i64 a0_3,.int .i64 a0_4] 27 (0,0)))∧Aside0 (w'.heap[gb156]? = some (.cells #[(.slice none 0 0),.int .i64 0,(.slice none 0 0),.int .i64 0,.int .i64 0,(.slice none 0 0)] 110 (0,0)))∧Aside0 (w'.heap[gb157]? = some (.cells #[(.slice A0_0 l0_0.length c0_0),.int .i64 a0_1,(.slice A0_2 l0_2.length c0_2),.int .i64 a0_3,.int .i64 a0_4,u158005] 110 (0,0)))∧Aside0 (Below w.heap.size w w'))
    case atStart=>exact ⟨(0),(([] : List (List Int))),(.slice none 0 0),(by first | rfl | (simp;done) | (simp [*];done)),H',⟨Nat.le_refl _⟩,⟨by (with_reducible repeat (first | apply Kd.R_alloc | apply Kd.R_drewN | apply Kd.R_drew));exact HO_4.out⟩,⟨by first | exact Kd.S_nil _ _ _ _ _ | exact Kd.N_nil _ _ _ _ _ | exact Kd.V_nil _ _ _ _ _ | exact Kd.Q_nil _ _ _ _ _ | exact Kd.R_nil _ _ _ _ _⟩,⟨BK155.out⟩,⟨BK156.out⟩,⟨BK157.out⟩,⟨HB.out⟩⟩
    case round =>
     clear H'
     obtain ⟨x36_2,x158005_2,u158005,rfl,HA,HK2,HO_4,HO_158005,BK155,BK156,BK157,HB⟩:=hrel
     cases gk with
     | zero=>exact absurd HA.out (by simp [ca_fill.l1])
     | succ k2 =>
      have H:=HA.out
      clear HA
      simp only [ca_fill.l1] at H
      by_cases c29 : x36_2 < 41
      case neg =>
       rw [if_neg c29] at H
       have c29b0 : decide (x36_2 < 41) = false:=decide_eq_false c29
       clear c29
       simp only [Option.some.injEq,Prod.mk.injEq] at H
       obtain ⟨rfl,rfl,rfl,rfl⟩:=H
       have hnb57:=NB157_155.out
       have hnc57:=NB155_157.out
       have hnb58:=NB157_156.out
       have hnc58:=NB156_157.out
       obtain ⟨hcz59_0,hcz59_1,hcz59_2,hcz59_3,hcz59_4,hcz59_5⟩:=cO6 BK157.out
       have hfz59_0:=blk_frozen BK157.out 0
       have hfz59_1:=blk_frozen BK157.out 1
       have hfz59_2:=blk_frozen BK157.out 2
       have hfz59_3:=blk_frozen BK157.out 3
       have hfz59_4:=blk_frozen BK157.out 4
       have hfz59_5:=blk_frozen BK157.out 5
       have hnb60:=NB156_155.out
       have hnc60:=NB155_156.out
       obtain ⟨hcz61_0,hcz61_1,hcz61_2,hcz61_3,hcz61_4,hcz61_5⟩:=cO6 BK156.out
       have hfz61_0:=blk_frozen BK156.out 0
       have hfz61_1:=blk_frozen BK156.out 1
       have hfz61_2:=blk_frozen BK156.out 2
       have hfz61_3:=blk_frozen BK156.out 3
       have hfz61_4:=blk_frozen BK156.out 4
       have hfz61_5:=blk_frozen BK156.out 5
       obtain ⟨Ao62,co62,eo62⟩:=Kd.S_slice HO_158005.out
       subst eo62
       go_wp2
       refine bodyPost_ret (results_cell_row rfl _ _ gb156 110 #[.slice A0_0 l0_0.length c0_0,.int .i64 a0_1,.slice A0_2 l0_2.length c0_2,.int .i64 a0_3,.int .i64 a0_4,.slice Ao62 x158005_2.length co62] (0,0) _ rfl (blk_put (cs:=#[.slice A0_0 l0_0.length c0_0,.int .i64 a0_1,.slice A0_2 l0_2.length c0_2,.int .i64 a0_3,.int .i64 a0_4,.slice none 0 0]) (blk_put (cs:=#[.slice A0_0 l0_0.length c0_0,.int .i64 a0_1,.slice A0_2 l0_2.length c0_2,.int .i64 a0_3,.int .i64 0,.slice none 0 0]) (blk_put (cs:=#[.slice A0_0 l0_0.length c0_0,.int .i64 a0_1,.slice A0_2 l0_2.length c0_2,.int .i64 0,.int .i64 0,.slice none 0 0]) (blk_put (cs:=#[.slice A0_0 l0_0.length c0_0,.int .i64 a0_1,.slice none 0 0,.int .i64 0,.int .i64 0,.slice none 0 0]) (blk_put (cs:=#[.slice A0_0 l0_0.length c0_0,.int .i64 0,.slice none 0 0,.int .i64 0,.int .i64 0,.slice none 0 0]) (blk_put (cs:=#[.slice none 0 0,.int .i64 0,.slice none 0 0,.int .i64 0,.int .i64 0,.slice none 0 0]) BK156.out 0 _ rfl) 1 _ rfl) 2 _ rfl) 3 _ rfl) 4 _ rfl) 5 _ rfl) Tryz.underlying110 rfl (by kernel_rfl)) rfl ?_
       exact ⟨_,by first | rfl | (simp [*]<;>rfl),by (with_reducible repeat (first | apply Kd.S_alloc | apply Kd.S_drewN | apply Kd.S_drew));exact Kd.S_mono (Kd.S_far (p:=⟨gb156,5,none⟩) (Kd.S_far (p:=⟨gb156,4,none⟩) (Kd.S_far (p:=⟨gb156,3,none⟩) (Kd.S_far (p:=⟨gb156,2,none⟩) (Kd.S_far (p:=⟨gb156,1,none⟩) (Kd.S_far (p:=⟨gb156,0,none⟩) (Kd.S_types HO_158005.out BK156.out (by decide)) (fun _ hk=>hk.2) (.slice A0_0 l0_0.length c0_0)) (fun _ hk=>hk.2) (.int .i64 a0_1)) (fun _ hk=>hk.2) (.slice A0_2 l0_2.length c0_2)) (fun _ hk=>hk.2) (.int .i64 a0_3)) (fun _ hk=>hk.2) (.int .i64 a0_4)) (fun _ hk=>hk.2) (.slice Ao62 x158005_2.length co62)) (fun _ hk=>trivial),by repeat (first | (with_reducible first | exact HB.out | refine below_set ?_ (Aside0.out (by assumption)) | apply below_alloc | apply pw_below_drewN) | exact HB.out)⟩
      rw [if_pos c29] at H
      have c29b0 : decide (x36_2 < 41) = true:=decide_eq_true c29
      clear c29
      replace H':=am H
      have hnb30:=NB155_156.out
      have hnc30:=NB156_155.out
      have hnb31:=NB155_157.out
      have hnc31:=NB157_155.out
      obtain ⟨hcz32_0,hcz32_1,hcz32_2,hcz32_3,hcz32_4⟩:=cO5 BK155.out
      go_wp2
      go_loopg [10,42] k2 (fun kq v10 v42 w'=>∃ (x10_3 : List Int) (x42_3 : Int),v42 = .int .i64 x42_3∧Aside0 (ca_fill.l2 kq x4_1 x36_2 x10_3 x36_2 l0_2 (l0_2.length : Int) x42_3 l0_0 a0_1 l0_2 a0_3 a0_4 l0_0 a0_1 l0_2 a0_3 a0_4 x158005_2 = some (r1,r2,r3,r4))∧Aside0 (kq≤k2)∧Aside0 (Kd.R (Kd.int .i64) 3 w' w.heap.size (fun k_=>some k_ ≠ (v10 : Value).ownBlock) u4 x4_1)∧Aside0 (Kd.R (Kd.int .i64) 3 w' w.heap.size (fun k_=>some k_ ≠ (u4 : Value).ownBlock) v10 x10_3)∧Aside0 (Kd.S (Kd.slice 3 (Kd.int .i64)) 28 w' w.heap.size (fun k_=>some k_ ≠ (u4 : Value).ownBlock∧some k_ ≠ (v10 : Value).ownBlock) u158005 x158005_2)∧Aside0 (w'.heap[gb155]? = some (.cells #[(.slice A0_0 l0_0.length c0_0),.int .i64 a0_1,(.slice A0_2 l0_2.length c0_2),.int .i64 a0_3,.int .i64 a0_4] 27 (0,0)))∧Aside0 (w'.heap[gb156]? = some (.cells #[(.slice none 0 0),.int .i64 0,(.slice none 0 0),.int .i64 0,.int .i64 0,(.slice none 0 0)] 110 (0,0)))∧Aside0 (w'.heap[gb157]? = some (.cells #[(.slice A0_0 l0_0.length c0_0),.int .i64 a0_1,(.slice A0_2 l0_2.length c0_2),.int .i64 a0_3,.int .i64 a0_4,u158005] 110 (0,0)))∧Aside0 (Below w.heap.size w w'))
      case atStart=>exact ⟨(([] : List Int)),(0),(by first | rfl | (simp;done) | (simp [*];done)),H',⟨Nat.le_refl _⟩,⟨by (with_reducible repeat (first | apply Kd.R_alloc | apply Kd.R_drewN | apply Kd.R_drew));exact Kd.R_mono HO_4.out (fun _ hk=>(by simp [Value.ownBlock]))⟩,⟨by first | exact Kd.R_nil _ _ _ _ _ | exact Kd.N_nil _ _ _ _ _ | exact Kd.V_nil _ _ _ _ _ | exact Kd.Q_nil _ _ _ _ _ | exact Kd.S_nil _ _ _ _ _⟩,⟨by (with_reducible repeat (first | apply Kd.S_alloc | apply Kd.S_drewN | apply Kd.S_drew));exact Kd.S_mono HO_158005.out (fun _ hk=>⟨hk,(by simp [Value.ownBlock])⟩)⟩,⟨BK155.out⟩,⟨BK156.out⟩,⟨BK157.out⟩,⟨HB.out⟩⟩
      case round =>
       clear H'
       obtain ⟨x10_3,x42_3,rfl,HA,HK3,HO_4,HO_10,HO_158005,BK155,BK156,BK157,HB⟩:=hrel
       cases gk with
       | zero=>exact absurd HA.out (by simp [ca_fill.l2])
       | succ k3 =>
        have H:=HA.out
        clear HA
        simp only [ca_fill.l2] at H
        by_cases c33 : x42_3 < (l0_2.length : Int)
        case neg =>
         rw [if_neg c33] at H
         have c33b0 : decide (x42_3 < (l0_2.length : Int)) = false:=decide_eq_false c33
         clear c33
         by_cases c49 : x158005_2.length < 5864062014805
         case neg =>
          rw [if_neg c49] at H
          exact absurd H (by simp)
         rw [if_pos c49] at H
         have LMc49:=am c49
         clear c49
         obtain ⟨y174,hy174⟩ : ∃ y_ : List (List Int),y_ = (x158005_2 ++ [x10_3]):=⟨_,rfl⟩
         replace H : (ca_fill.l1 k3 x4_1 (wrap64 (x36_2 + 1)) l0_0 a0_1 l0_2 a0_3 a0_4 l0_0 a0_1 l0_2 a0_3 a0_4 y174) = some (r1,r2,r3,r4):=by first | (rw [hy174];with_reducible exact H) | (have H2_:=(Option.bind_some _ _).symm.trans H;rw [hy174];with_reducible exact H2_) | (have H2_:=(Option.bind_some _ _).symm.trans H;with_reducible exact H2_) | with_reducible exact H | (rw [hy174];exact H) | exact H
         have Ny174:=am hy174
         clear hy174
         replace H':=am H
         have hnb50:=NB157_155.out
         have hnc50:=NB155_157.out
         have hnb51:=NB157_156.out
         have hnc51:=NB156_157.out
         obtain ⟨hcz52_0,hcz52_1,hcz52_2,hcz52_3,hcz52_4,hcz52_5⟩:=cO6 BK157.out
         have hfz52_0:=blk_frozen BK157.out 0
         have hfz52_1:=blk_frozen BK157.out 1
         have hfz52_2:=blk_frozen BK157.out 2
         have hfz52_3:=blk_frozen BK157.out 3
         have hfz52_4:=blk_frozen BK157.out 4
         have hfz52_5:=blk_frozen BK157.out 5
         obtain ⟨Ao54,co54,eo54⟩:=Kd.R_slice HO_10.out
         subst eo54
         go_wp2_with (first | ((with_reducible refine gate_builtin (b:=.append) (xs:=#[.tmp 64,.tmp 66]) rfl ?_);at_builtin;refine Kd.S_append (Kd.slice 3 (Kd.int .i64)) (w0:=w) w.heap.size rfl (.tmp 64) (.tmp 66) 61 28 (.slice none 0 0) 24 rfl Tryz.underlying61 info28 rfl (by decide) (by omega) u158005 x158005_2 x10_3 [.slice Ao54 x10_3.length co54] (fun k_=>some k_ ≠ (u4 : Value).ownBlock) (fun k_=>some k_ = (.slice Ao54 x10_3.length co54 : Value).ownBlock) rfl rfl ?aP (fun k_ hk_=>((Kd.R_mono (ok':=fun k_=>((fun k_=>some k_ ≠ (u4 : Value).ownBlock)) k_∧some k_ ≠ (u158005 : Value).ownBlock) (Kd.R_apart' (HO_10.out) (Kd.S_typed HO_158005.out) (by decide)) (fun k_ hk=>⟨hk.1,hk.2⟩))).1 k_ hk_.symm) ?aF ?aO ?aB ?aS ?aL ?_;(case aP=>exact Kd.M_row (Kd.R_mono (Kd.R_tight rfl (Kd.R_mono (ok':=fun k_=>((fun k_=>some k_ ≠ (u4 : Value).ownBlock)) k_∧some k_ ≠ (u158005 : Value).ownBlock) (Kd.R_apart' (HO_10.out) (Kd.S_typed HO_158005.out) (by decide)) (fun k_ hk=>⟨hk.1,hk.2⟩))) (fun _ h_=>h_)));(case aB=>exact (HB.out));(case aF=>exact (fun k_ hk=>Kd.fresh' (Kd.R_lt HO_4.out) k_ hk));(case aO=>exact (Kd.S_mono HO_158005.out (fun k_ hk=>⟨hk.1,fun e_=>hk.2 e_⟩)));(case aS=>exact (below_size (HB.out)));(case aL=>have:=LMc49.out;omega);intro v175 w53 ho hb hg hat;rw [← Ny174.out] at ho;have n0_:=am (Kd.R_over' HO_4.out (Kd.S_typed HO_158005.out) (by decide) hg);have n1_:=am (blk_grown (g:=gb155) (o:=.cells #[.slice A0_0 l0_0.length c0_0,.int .i64 a0_1,.slice A0_2 l0_2.length c0_2,.int .i64 a0_3,.int .i64 a0_4] 27 (0,0)) BK155.out hg (Kd.S_ne HO_158005.out BK155.out (by decide)));have n2_:=am (blk_grown (g:=gb156) (o:=.cells #[.slice none 0 0,.int .i64 0,.slice none 0 0,.int .i64 0,.int .i64 0,.slice none 0 0] 110 (0,0)) BK156.out hg (Kd.S_ne HO_158005.out BK156.out (by decide)));have n3_:=am (blk_grown (g:=gb157) (o:=.cells #[.slice A0_0 l0_0.length c0_0,.int .i64 a0_1,.slice A0_2 l0_2.length c0_2,.int .i64 a0_3,.int .i64 a0_4,u158005] 110 (0,0)) BK157.out hg (Kd.S_ne HO_158005.out BK157.out (by decide)));have n4_:=am (hb);have n5_:=am (ho);clear HO_4;clear BK155;clear BK156;clear BK157;clear HB;clear HO_158005;clear HO_10;have HO_4:=n0_;have BK155:=n1_;have BK156:=n2_;have BK157:=n3_;have HB:=n4_;have HO176:=n5_;clear n0_ n1_ n2_ n3_ n4_ n5_;clear ho hb hg hat;obtain ⟨Ao55,co55,eo55⟩:=Kd.S_slice HO176.out;subst eo55;obtain ⟨hcz56_0,hcz56_1,hcz56_2,hcz56_3,hcz56_4,hcz56_5⟩:=cO6 BK157.out;have hfz56_0:=blk_frozen BK157.out 0;have hfz56_1:=blk_frozen BK157.out 1;have hfz56_2:=blk_frozen BK157.out 2;have hfz56_3:=blk_frozen BK157.out 3;have hfz56_4:=blk_frozen BK157.out 4;have hfz56_5:=blk_frozen BK157.out 5))
         go_roundg k3
         case measure=>have:=HK1.out;have:=HK2.out;have:=HK3.out;omega
         case rel=>exact ⟨(wrap64 (x36_2 + 1)),(y174),(.slice Ao55 y174.length co55),(by first | rfl | (simp;done) | (simp [*];done)),H',⟨by have:=HK1.out;have:=HK2.out;have:=HK3.out;omega⟩,⟨by (with_reducible repeat (first | apply Kd.R_alloc | apply Kd.R_drewN | apply Kd.R_drew));exact Kd.R_mono (Kd.R_far (p:=⟨gb157,5,none⟩) (Kd.R_types HO_4.out BK157.out (by decide)) (fun _ hk=>hk.2) (.slice Ao55 y174.length co55)) (fun _ hk=>trivial)⟩,⟨by (with_reducible repeat (first | apply Kd.S_alloc | apply Kd.S_drewN | apply Kd.S_drew));exact Kd.S_mono (Kd.S_far (p:=⟨gb157,5,none⟩) (Kd.S_types HO176.out BK157.out (by decide)) (fun _ hk=>hk.2) (.slice Ao55 y174.length co55)) (fun _ hk=>hk.1)⟩,⟨(blk_far BK155.out NB155_157.out _)⟩,⟨(blk_far BK156.out NB156_157.out _)⟩,⟨(blk_put (cs:=#[.slice A0_0 l0_0.length c0_0,.int .i64 a0_1,.slice A0_2 l0_2.length c0_2,.int .i64 a0_3,.int .i64 a0_4,u158005]) BK157.out 5 _ rfl)⟩,⟨by repeat (first | (with_reducible first | exact HB.out | refine below_set ?_ (Aside0.out (by assumption)) | apply below_alloc | apply pw_below_drewN) | exact HB.out)⟩⟩
        rw [if_pos c33] at H
        have c33b0 : decide (x42_3 < (l0_2.length : Int)) = true:=decide_eq_true c33
        clear c33
        by_cases c34 : 0≤x42_3
        case neg =>
         rw [if_neg c34] at H
         exact absurd H (by simp)
        rw [if_pos c34] at H
        have c34b0 : decide (0≤x42_3) = true:=decide_eq_true c34
        clear c34
        by_cases c35 : x42_3 < (l0_2.length : Int)
        case neg =>
         rw [if_neg c35] at H
         exact absurd H (by simp)
        rw [if_pos c35] at H
        have c35b0 : decide (x42_3 < (l0_2.length : Int)) = true:=decide_eq_true c35
        clear c35
        by_cases c36 : x42_3 < (x4_1.length : Int)
        case neg =>
         rw [if_neg c36] at H
         exact absurd H (by simp)
        rw [if_pos c36] at H
        have c36b0 : decide (x42_3 < (x4_1.length : Int)) = true:=decide_eq_true c36
        clear c36
        obtain ⟨ji37,hji37⟩ : ∃ j_ : Int,(mn 5 (wrap64 (x36_2 - ((rd_T48 l0_2 x42_3).f1)))) = j_:=⟨_,rfl⟩
        replace H : (if x10_3.length < 17592186044416 then (ca_fill.l2 k3 x4_1 x36_2 (x10_3 ++ [wrap64 (Int.tdiv (wrap64 ((rd x4_1 x42_3) * (mx 0 (ji37)))) 5)]) x36_2 l0_2 (l0_2.length : Int) (wrap64 (x42_3 + 1)) l0_0 a0_1 l0_2 a0_3 a0_4 l0_0 a0_1 l0_2 a0_3 a0_4 x158005_2) else (none)) = some (r1,r2,r3,r4):=by first | (rw [hji37] at H;exact H) | (simp only [hji37] at H ⊢;exact H)
        have hji37_ : (if (wrap64 (x36_2 - ((rd_T48 l0_2 x42_3).f1))) < 5 then (wrap64 (x36_2 - ((rd_T48 l0_2 x42_3).f1))) else 5) = ji37:=hji37
        obtain ⟨ji38,hji38⟩ : ∃ j_ : Int,(mx 0 (ji37)) = j_:=⟨_,rfl⟩
        replace H : (if x10_3.length < 17592186044416 then (ca_fill.l2 k3 x4_1 x36_2 (x10_3 ++ [wrap64 (Int.tdiv (wrap64 ((rd x4_1 x42_3) * (ji38))) 5)]) x36_2 l0_2 (l0_2.length : Int) (wrap64 (x42_3 + 1)) l0_0 a0_1 l0_2 a0_3 a0_4 l0_0 a0_1 l0_2 a0_3 a0_4 x158005_2) else (none)) = some (r1,r2,r3,r4):=by first | (rw [hji38] at H;exact H) | (simp only [hji38] at H ⊢;exact H)
        have hji38_ : (if 0 < (ji37) then (ji37) else 0) = ji38:=hji38
        by_cases c39 : x10_3.length < 17592186044416
        case neg =>
         rw [if_neg c39] at H
         exact absurd H (by simp)
        rw [if_pos c39] at H
        have LMc39:=am c39
        clear c39
        obtain ⟨y171,hy171⟩ : ∃ y_ : List Int,y_ = (x10_3 ++ [wrap64 (Int.tdiv (wrap64 ((rd x4_1 x42_3) * (ji38))) 5)]):=⟨_,rfl⟩
        replace H : (ca_fill.l2 k3 x4_1 x36_2 y171 x36_2 l0_2 (l0_2.length : Int) (wrap64 (x42_3 + 1)) l0_0 a0_1 l0_2 a0_3 a0_4 l0_0 a0_1 l0_2 a0_3 a0_4 x158005_2) = some (r1,r2,r3,r4):=by first | (rw [hy171];with_reducible exact H) | (have H2_:=(Option.bind_some _ _).symm.trans H;rw [hy171];with_reducible exact H2_) | (have H2_:=(Option.bind_some _ _).symm.trans H;with_reducible exact H2_) | with_reducible exact H | (rw [hy171];exact H) | exact H
        have Ny171:=am hy171
        clear hy171
        replace H':=am H
        have p168 : 0≤(x42_3 : Int):=of_decide_eq_true (by assumption)
        have q168 : x42_3 < (l0_2.length : Int):=of_decide_eq_true (by assumption)
        obtain ⟨ad168,e168,hx168_0,hx168_1⟩:=at_T48 HR0_2.out x42_3 p168 q168
        cases e168
        replace hx168_0:=(HB.out.cell (wbl hx168_0)).trans hx168_0
        replace hx168_1:=(HB.out.cell (wbl hx168_1)).trans hx168_1
        replace p168:=eq_true p168
        replace q168:=eq_true q168
        try go_wp2_with (first | ((refine gate_dst (N:=12) rfl ?_);refine box_event rfl (N:=12) rfl (cs:=#[.int .i64 0,.int .i64 0]) (t:=48) ?hr ?_;(case hr=>go_simp;try rfl);intro gb169 hg w40 hbox hb;have BK169:=am (hbox);have GW169:=am (ge_new (HB.out) hg);have GE169:=am (ge_new (HB.out) hg);have NB155_169:=am (ne_new BK155.out hg);have NB169_155:=am (ne_new2 BK155.out hg);have NB156_169:=am (ne_new BK156.out hg);have NB169_156:=am (ne_new2 BK156.out hg);have NB157_169:=am (ne_new BK157.out hg);have NB169_157:=am (ne_new2 BK157.out hg);replace HO_4:=am (Kd.R_below HO_4.out hb);replace HO_10:=am (Kd.R_below HO_10.out hb);replace HO_158005:=am (Kd.S_below HO_158005.out hb);replace BK155:=(kmv hb BK155);replace BK156:=(kmv hb BK156);replace BK157:=(kmv hb BK157);replace HB:=am (below_step (HB.out) hb);clear hb hbox hg;have hnb41:=NB169_155.out;have hnc41:=NB155_169.out;have hnb42:=NB169_156.out;have hnc42:=NB156_169.out;have hnb43:=NB169_157.out;have hnc43:=NB157_169.out;obtain ⟨hcz44_0,hcz44_1⟩:=cO2 BK169.out;have hfz44_0:=blk_frozen BK169.out 0;have hfz44_1:=blk_frozen BK169.out 1))
        have n0_ : Aside0 (Kd.R (Kd.int .i64) 3 ((w40.setCell ⟨gb169,0,none⟩ (.int .i64 ((rd_T48 l0_2 x42_3).f0))).setCell ⟨gb169,1,none⟩ (.int .i64 ((rd_T48 l0_2 x42_3).f1))) w.heap.size (fun k_=>some k_ ≠ (u10 : Value).ownBlock) u4 x4_1):=⟨by (with_reducible repeat (first | apply Kd.R_alloc | apply Kd.R_drewN | apply Kd.R_drew));exact Kd.R_mono (Kd.R_far (p:=⟨gb169,1,none⟩) (Kd.R_far (p:=⟨gb169,0,none⟩) (Kd.R_types HO_4.out BK169.out (by decide)) (fun _ hk=>hk.2) (.int .i64 ((rd_T48 l0_2 x42_3).f0))) (fun _ hk=>hk.2) (.int .i64 ((rd_T48 l0_2 x42_3).f1))) (fun _ hk=>hk.1)⟩
        have n1_ : Aside0 (Kd.R (Kd.int .i64) 3 ((w40.setCell ⟨gb169,0,none⟩ (.int .i64 ((rd_T48 l0_2 x42_3).f0))).setCell ⟨gb169,1,none⟩ (.int .i64 ((rd_T48 l0_2 x42_3).f1))) w.heap.size (fun k_=>some k_ ≠ (u4 : Value).ownBlock) u10 x10_3):=⟨by (with_reducible repeat (first | apply Kd.R_alloc | apply Kd.R_drewN | apply Kd.R_drew));exact Kd.R_mono (Kd.R_far (p:=⟨gb169,1,none⟩) (Kd.R_far (p:=⟨gb169,0,none⟩) (Kd.R_types HO_10.out BK169.out (by decide)) (fun _ hk=>hk.2) (.int .i64 ((rd_T48 l0_2 x42_3).f0))) (fun _ hk=>hk.2) (.int .i64 ((rd_T48 l0_2 x42_3).f1))) (fun _ hk=>hk.1)⟩
        have n2_ : Aside0 (Kd.S (Kd.slice 3 (Kd.int .i64)) 28 ((w40.setCell ⟨gb169,0,none⟩ (.int .i64 ((rd_T48 l0_2 x42_3).f0))).setCell ⟨gb169,1,none⟩ (.int .i64 ((rd_T48 l0_2 x42_3).f1))) w.heap.size (fun k_=>some k_ ≠ (u4 : Value).ownBlock∧some k_ ≠ (u10 : Value).ownBlock) u158005 x158005_2):=⟨by (with_reducible repeat (first | apply Kd.S_alloc | apply Kd.S_drewN | apply Kd.S_drew));exact Kd.S_mono (Kd.S_far (p:=⟨gb169,1,none⟩) (Kd.S_far (p:=⟨gb169,0,none⟩) (Kd.S_types HO_158005.out BK169.out (by decide)) (fun _ hk=>hk.2) (.int .i64 ((rd_T48 l0_2 x42_3).f0))) (fun _ hk=>hk.2) (.int .i64 ((rd_T48 l0_2 x42_3).f1))) (fun _ hk=>⟨hk.1.1,hk.1.2⟩)⟩
        have n3_ : Aside0 (((w40.setCell ⟨gb169,0,none⟩ (.int .i64 ((rd_T48 l0_2 x42_3).f0))).setCell ⟨gb169,1,none⟩ (.int .i64 ((rd_T48 l0_2 x42_3).f1))).heap[gb155]? = some (.cells #[.slice A0_0 l0_0.length c0_0,.int .i64 a0_1,.slice (some ad168) l0_2.length c0_2,.int .i64 a0_3,.int .i64 a0_4] 27 (0,0))):=⟨(blk_far (blk_far BK155.out NB155_169.out _) NB155_169.out _)⟩
        have n4_ : Aside0 (((w40.setCell ⟨gb169,0,none⟩ (.int .i64 ((rd_T48 l0_2 x42_3).f0))).setCell ⟨gb169,1,none⟩ (.int .i64 ((rd_T48 l0_2 x42_3).f1))).heap[gb156]? = some (.cells #[.slice none 0 0,.int .i64 0,.slice none 0 0,.int .i64 0,.int .i64 0,.slice none 0 0] 110 (0,0))):=⟨(blk_far (blk_far BK156.out NB156_169.out _) NB156_169.out _)⟩
        have n5_ : Aside0 (((w40.setCell ⟨gb169,0,none⟩ (.int .i64 ((rd_T48 l0_2 x42_3).f0))).setCell ⟨gb169,1,none⟩ (.int .i64 ((rd_T48 l0_2 x42_3).f1))).heap[gb157]? = some (.cells #[.slice A0_0 l0_0.length c0_0,.int .i64 a0_1,.slice (some ad168) l0_2.length c0_2,.int .i64 a0_3,.int .i64 a0_4,u158005] 110 (0,0))):=⟨(blk_far (blk_far BK157.out NB157_169.out _) NB157_169.out _)⟩
        have n6_ : Aside0 (((w40.setCell ⟨gb169,0,none⟩ (.int .i64 ((rd_T48 l0_2 x42_3).f0))).setCell ⟨gb169,1,none⟩ (.int .i64 ((rd_T48 l0_2 x42_3).f1))).heap[gb169]? = some (.cells #[.int .i64 ((rd_T48 l0_2 x42_3).f0),.int .i64 ((rd_T48 l0_2 x42_3).f1)] 48 (0,0))):=⟨(blk_put (cs:=#[.int .i64 ((rd_T48 l0_2 x42_3).f0),.int .i64 0]) (blk_put (cs:=#[.int .i64 0,.int .i64 0]) BK169.out 0 _ rfl) 1 _ rfl)⟩
        have n7_ : Aside0 (Below w.heap.size w ((w40.setCell ⟨gb169,0,none⟩ (.int .i64 ((rd_T48 l0_2 x42_3).f0))).setCell ⟨gb169,1,none⟩ (.int .i64 ((rd_T48 l0_2 x42_3).f1)))):=⟨by repeat (first | (with_reducible first | exact HB.out | refine below_set ?_ (Aside0.out (by assumption)) | apply below_alloc | apply pw_below_drewN) | exact HB.out)⟩
        (try clear HO_4)
        (try clear HO_10)
        (try clear HO_158005)
        (try clear BK155)
        (try clear BK156)
        (try clear BK157)
        (try clear BK169)
        (try clear HB)
        generalize ((w40.setCell ⟨gb169,0,none⟩ (.int .i64 ((rd_T48 l0_2 x42_3).f0))).setCell ⟨gb169,1,none⟩ (.int .i64 ((rd_T48 l0_2 x42_3).f1))) = w45 at n0_ n1_ n2_ n3_ n4_ n5_ n6_ n7_ ⊢
        have HO_4:=n0_
        have HO_10:=n1_
        have HO_158005:=n2_
        have BK155:=n3_
        have BK156:=n4_
        have BK157:=n5_
        have BK169:=n6_
        have HB:=n7_
        clear n0_ n1_ n2_ n3_ n4_ n5_ n6_ n7_
        replace HO_4:=am (Kd.R_drew HO_4.out)
        replace HO_10:=am (Kd.R_drew HO_10.out)
        replace HO_158005:=am (Kd.S_drew HO_158005.out)
        replace BK155:=am (blk_drew BK155.out)
        replace BK156:=am (blk_drew BK156.out)
        replace BK157:=am (blk_drew BK157.out)
        replace BK169:=am (blk_drew BK169.out)
        replace HB:=am (below_drew1 HB.out)
        obtain ⟨Ao47,co47,eo47⟩:=Kd.R_slice HO_4.out
        (first | subst eo47 | (injection eo47 with f1_ f2_ f3_;have f4_:=f1_.symm;have f5_:=f3_.symm;clear f1_ f2_ f3_;subst f4_;subst f5_))
        have p170 : 0≤(x42_3 : Int):=of_decide_eq_true (by assumption)
        have q170 : x42_3 < (x4_1.length : Int):=of_decide_eq_true (by assumption)
        obtain ⟨ad170,e170,hx170_0⟩:=Kd.at_int (Kd.R_reads' HO_4.out).2.2 x42_3 p170 q170
        cases e170
        replace p170:=eq_true p170
        replace q170:=eq_true q170
        refine start_ (n:=16) (S:=fun w'=>w'.cell? ⟨gb169,0,none⟩ = some (.int .i64 ((rd_T48 l0_2 x42_3).f0))∧w'.cell? ⟨gb169,1,none⟩ = some (.int .i64 ((rd_T48 l0_2 x42_3).f1))∧w'.cell? (ad170.add (x42_3).toNat) = some (.int .i64 (rd x4_1 x42_3))) (ds:=[13,14]) (ba 16 0) (by kernel_rfl) rfl rfl ⟨(blk_cell BK169.out 0).trans rfl,(blk_cell BK169.out 1).trans rfl,hx170_0⟩ (fun hHeld=>?_);refine with_tabW ca_fill.tab16 ca_fill.bits16 (fun HT_ HW_=>?_)
        generalize w45.drew = w46 at HO_4 HO_10 HO_158005 BK155 BK156 BK157 BK169 HB hx170_0 hHeld ⊢
        refine pure_ (i:=0) (N:=some 47) (v:=?_) (a':=?_) (ba 16 1) rfl rfl (any_of HT_.out (by kernel_rfl)) (fun _ _ _ h=>h) (Or.inl ⟨by rfl,?_⟩) ?_ ?_
        rotate_left
        ·intro w'
         go_simp
         with_reducible rfl
        rotate_left
        ·simp only [Act.put,NRM]
         rfl
        refine pure_ (i:=1) (N:=some 48) (v:=?_) (a':=?_) (ba 16 3) rfl rfl (any_of HT_.out (by kernel_rfl)) (fun _ _ _ h=>h) (Or.inl ⟨by rfl,?_⟩) ?_ ?_
        rotate_left
        ·intro w'
         go_simp
         with_reducible rfl
        rotate_left
        ·simp only [Act.put,NRM]
         rfl
        refine pure_ (i:=2) (N:=some 49) (v:=?_) (a':=?_) (ba 16 7) rfl rfl (any_of HT_.out (by kernel_rfl)) (fun _ _ _ h=>h) (Or.inl ⟨by rfl,?_⟩) ?_ ?_
        rotate_left
        ·intro w'
         go_simp
         with_reducible rfl
        rotate_left
        ·simp only [Act.put,NRM]
         rfl
        refine pure_ (i:=3) (N:=some 50) (v:=?_) (a':=?_) (ba 16 15) rfl rfl (any_of HT_.out (by kernel_rfl)) (fun _ _ _ h=>h) (Or.inl ⟨by rfl,?_⟩) ?_ ?_
        rotate_left
        ·intro w'
         go_simp
         with_reducible rfl
        rotate_left
        ·simp only [Act.put,NRM]
         rfl
        refine pure_ (i:=5) (N:=some 52) (v:=?_) (a':=?_) (ba 16 47) rfl rfl (any_of HT_.out (by kernel_rfl)) (fun _ _ _ h=>h) (Or.inl ⟨by rfl,?_⟩) ?_ ?_
        rotate_left
        ·intro w'
         go_simp
         with_reducible rfl
        rotate_left
        ·simp only [Act.put,NRM]
         rfl
        refine pure_ (i:=6) (N:=some 53) (v:=?_) (a':=?_) (ba 16 111) rfl rfl (any_of HT_.out (by kernel_rfl)) (fun _ _ _ h=>h) (Or.inl ⟨by rfl,?_⟩) ?_ ?_
        rotate_left
        ·intro w'
         go_simp
         with_reducible rfl
        rotate_left
        ·simp only [Act.put,NRM]
         rfl
        refine take_ (i:=4) (N:=some 51) (v:=?_) (a':=?_) (ba 16 127) rfl rfl (take_ofW HT_.out HW_.out (by kernel_rfl)) (fun _ _ _ h=>h) (Or.inl ⟨by rfl,?_⟩) hHeld ?_ ?_
        rotate_left
        ·rintro w' ⟨s0,s1,s2⟩
         go_simp
         with_reducible rfl
        rotate_left
        ·simp only [Act.put,NRM]
         rfl
        refine take_ (i:=7) (N:=some 54) (v:=?_) (a':=?_) (ba 16 255) rfl rfl (take_ofW HT_.out HW_.out (by kernel_rfl)) (fun _ _ _ h=>h) (Or.inl ⟨by rfl,?_⟩) hHeld ?_ ?_
        rotate_left
        ·rintro w' ⟨s0,s1,s2⟩
         go_simp
         with_reducible rfl
        rotate_left
        ·simp only [Act.put,NRM]
         rfl
        refine pure_ (i:=8) (N:=some 55) (v:=?_) (a':=?_) (ba 16 511) rfl rfl (any_of HT_.out (by kernel_rfl)) (fun _ _ _ h=>h) (Or.inl ⟨by rfl,?_⟩) ?_ ?_
        rotate_left
        ·intro w'
         go_simp
         with_reducible rfl
        rotate_left
        ·simp only [Act.put,NRM]
         rfl
        refine pure_ (i:=9) (N:=some 56) (v:=?_) (a':=?_) (ba 16 1023) rfl rfl (any_of HT_.out (by kernel_rfl)) (fun _ _ _ h=>h) (Or.inl ⟨by rfl,?_⟩) ?_ ?_
        rotate_left
        ·intro w'
         go_simp
         with_reducible rfl
        rotate_left
        ·simp only [Act.put,NRM]
         rfl
        refine pure_ (i:=10) (N:=some 57) (v:=?_) (a':=?_) (ba 16 2047) rfl rfl (any_of HT_.out (by kernel_rfl)) (fun _ _ _ h=>h) (Or.inl ⟨by rfl,?_⟩) ?_ ?_
        rotate_left
        ·intro w'
         go_simp
         with_reducible rfl
        rotate_left
        ·simp only [Act.put,NRM]
         rfl
        refine pure_ (i:=11) (N:=some 58) (v:=?_) (a':=?_) (ba 16 4095) rfl rfl (any_of HT_.out (by kernel_rfl)) (fun _ _ _ h=>h) (Or.inl ⟨by rfl,?_⟩) ?_ ?_
        rotate_left
        ·intro w'
         go_simp
         with_reducible rfl
        rotate_left
        ·simp only [Act.put,NRM]
         rfl
        refine pure_ (i:=12) (N:=some 59) (v:=?_) (a':=?_) (ba 16 8191) rfl rfl (any_of HT_.out (by kernel_rfl)) (fun _ _ _ h=>h) (Or.inl ⟨by rfl,?_⟩) ?_ ?_
        rotate_left
        ·intro w'
         go_simp
         with_reducible rfl
        rotate_left
        ·simp only [Act.put,NRM]
         rfl
        refine last_ (i:=13) (N:=some 60) (ba 16 16383) rfl rfl (one_of HT_.out (by kernel_rfl)) (by decide) (fun K hK=>?_)
        refine value_ (w1:=?_) (v:=?_) (by rfl) rfl ?_ ?_
        rotate_left 2
        ·go_simp
         constructor
         ·rfl
         ·rfl
        refine hK.out _ _ ?_
        clear hK K
        refine norm_ (a':=?_) ?_ ?_
        rotate_left
        ·show Act.put _ (some 60) _ = _
         simp only [Act.put,NRM]
         rfl
        refine last_ (i:=14) (N:=some 61) (ba 16 32767) rfl rfl (one_of HT_.out (by kernel_rfl)) (by decide) (fun K hK=>?_)
        refine Kd.R_append_step (Kd.int .i64) (w0:=w) w.heap.size (by rfl) (.tmp 47) (.tmp 60) 28 3 (.int .i64 0) 8 rfl Tryz.underlying28 info3 rfl (by decide) (by omega) u10 x10_3 (wrap64 (Int.tdiv (wrap64 ((rd x4_1 x42_3) * (ji38))) 5)) [.int .i64 (wrap64 (Int.tdiv (wrap64 ((rd x4_1 x42_3) * (ji38))) 5))] (fun k_=>some k_ ≠ (.slice (some ad170) x4_1.length co47 : Value).ownBlock) (fun _=>False) rfl rfl ?aP (fun _ hk=>hk.elim) ?aF ?aO ?aB ?aS ?aL ?_
        (case aP=>exact rfl)
        (case aB=>exact (HB.out))
        (case aF=>exact (fun k_ hk=>Kd.fresh' (Kd.R_lt HO_4.out) k_ hk))
        (case aO=>exact HO_10.out)
        (case aS=>exact (below_size (HB.out)))
        (case aL=>have:=LMc39.out;omega)
        intro v172 w48 ho hb hg hat
        rw [← Ny171.out] at ho
        have n0_:=am (Kd.R_after (ok:=(fun _=>True)) (Kd.R_mono HO_4.out (fun _ hk=>⟨trivial,hk⟩)) hg hat)
        have n1_:=am (Kd.S_after (ok:=(fun k_=>some k_ ≠ (.slice (some ad170) x4_1.length co47 : Value).ownBlock)) HO_158005.out hg hat)
        have n2_:=am (blk_grown (g:=gb155) (o:=.cells #[.slice A0_0 l0_0.length c0_0,.int .i64 a0_1,.slice (some ad168) l0_2.length c0_2,.int .i64 a0_3,.int .i64 a0_4] 27 (0,0)) BK155.out hg (Kd.R_ne HO_10.out BK155.out (by decide)))
        have n3_:=am (blk_grown (g:=gb156) (o:=.cells #[.slice none 0 0,.int .i64 0,.slice none 0 0,.int .i64 0,.int .i64 0,.slice none 0 0] 110 (0,0)) BK156.out hg (Kd.R_ne HO_10.out BK156.out (by decide)))
        have n4_:=am (blk_grown (g:=gb157) (o:=.cells #[.slice A0_0 l0_0.length c0_0,.int .i64 a0_1,.slice (some ad168) l0_2.length c0_2,.int .i64 a0_3,.int .i64 a0_4,u158005] 110 (0,0)) BK157.out hg (Kd.R_ne HO_10.out BK157.out (by decide)))
        have n5_:=am (blk_grown (g:=gb169) (o:=.cells #[.int .i64 ((rd_T48 l0_2 x42_3).f0),.int .i64 ((rd_T48 l0_2 x42_3).f1)] 48 (0,0)) BK169.out hg (Kd.R_ne HO_10.out BK169.out (by decide)))
        have n6_:=am (hb)
        have n7_:=am (ho)
        clear HO_4
        clear HO_158005
        clear BK155
        clear BK156
        clear BK157
        clear BK169
        clear HB
        clear HO_10
        have HO_4:=n0_
        have HO_158005:=n1_
        have BK155:=n2_
        have BK156:=n3_
        have BK157:=n4_
        have BK169:=n5_
        have HB:=n6_
        have HO173:=n7_
        clear n0_ n1_ n2_ n3_ n4_ n5_ n6_ n7_
        clear ho hb hg hat
        refine hK.out _ _ ?_
        clear hK K
        refine norm_ (a':=?_) ?_ ?_
        rotate_left
        ·show Act.put _ (some 61) _ = _
         simp only [Act.put,NRM]
         rfl
        refine pure_ (i:=15) (N:=some 10) (v:=?_) (a':=?_) (ba 16 65535) rfl rfl (any_of HT_.out (by kernel_rfl)) (fun _ _ _ h=>h) (Or.inl ⟨by rfl,?_⟩) ?_ ?_
        rotate_left
        ·intro w'
         go_simp
         with_reducible rfl
        rotate_left
        ·simp only [Act.put,NRM]
         rfl
        refine done_ (done_of HT_.out (by kernel_rfl)) ?_
        try go_wp2
        go_roundg k3
        case measure=>have:=HK1.out;have:=HK2.out;have:=HK3.out;omega
        case rel=>exact ⟨(y171),(wrap64 (x42_3 + 1)),(by first | rfl | (simp;done) | (simp [*];done)),H',⟨by have:=HK1.out;have:=HK2.out;have:=HK3.out;omega⟩,⟨by (with_reducible repeat (first | apply Kd.R_alloc | apply Kd.R_drewN | apply Kd.R_drew));exact Kd.R_mono HO_4.out (fun _ hk=>hk.2)⟩,⟨by (with_reducible repeat (first | apply Kd.R_alloc | apply Kd.R_drewN | apply Kd.R_drew));exact HO173.out⟩,⟨by (with_reducible repeat (first | apply Kd.S_alloc | apply Kd.S_drewN | apply Kd.S_drew));exact HO_158005.out⟩,⟨BK155.out⟩,⟨BK156.out⟩,⟨BK157.out⟩,⟨HB.out⟩⟩
def ca_sum.l0 : Nat→Int→List Int→Int→Int→Option (Int)
 | 0,_,_,_,_=>none
 | k + 1,x3,x6,x7,x8=>if x8 < x7 then (if 0≤x8 then (if x8 < (x6.length : Int) then (ca_sum.l0 k (wrap64 (x3 + (rd x6 x8))) x6 x7 (wrap64 (x8 + 1))) else (none)) else (none)) else (some x3)
def ca_sum.f (k : Nat) (l0 : List Int) : Option (Int):=ca_sum.l0 k 0 l0 (l0.length : Int) 0
theorem ca_sum.calls (k : Nat) (A0 : Option Addr) (c0 : Nat) (l0 : List Int) (r : Int) (w : World) (hr0 : Kd.C (Kd.int .i64) w A0 l0.length l0) (hc0 : l0.length≤c0) (h : ca_sum.f k l0 = some r) :
 Calls Tryz.prog 110 #[.slice A0 l0.length c0] w fun e w'=>e = .returned (.int .i64 r)∧Drawn0 w w':=by
 have HR0:=am hr0
 have HC0:=am hc0
 clear hr0 hc0
 have H : (ca_sum.l0 k 0 l0 (l0.length : Int) 0) = some r:=h
 clear h
 replace H':=am H
 go_enter Tryz.func110,Tryz.ntmps110
 go_wp2
 go_loopg [3,8] k (fun kq v3 v8 w'=>∃ (x3_1 : Int) (x8_1 : Int),v3 = .int .i64 x3_1∧v8 = .int .i64 x8_1∧Aside0 (ca_sum.l0 kq x3_1 l0 (l0.length : Int) x8_1 = some r)∧Aside0 (kq≤k)∧Drawn0 w w')
 case atStart=>exact ⟨(0),(0),(by first | rfl | (simp;done) | (simp [*];done)),(by first | rfl | (simp;done) | (simp [*];done)),H',⟨Nat.le_refl _⟩,by repeat (first | exact Drawn0.refl _ | apply Drawn0.step)⟩
 case round =>
  clear H'
  obtain ⟨x3_1,x8_1,rfl,rfl,HA,HK1,⟨m1,rfl⟩⟩:=hrel
  cases gk with
  | zero=>exact absurd HA.out (by simp [ca_sum.l0])
  | succ k1 =>
   have H:=HA.out
   clear HA
   simp only [ca_sum.l0] at H
   by_cases c2 : x8_1 < (l0.length : Int)
   case neg =>
    rw [if_neg c2] at H
    have c2b0 : decide (x8_1 < (l0.length : Int)) = false:=decide_eq_false c2
    clear c2
    obtain rfl:=Option.some.inj H
    go_wp2
    go_ret
    exact ⟨by first | rfl | (simp;done) | (simp [*];done),by repeat (first | exact Drawn0.refl _ | apply Drawn0.step)⟩
   rw [if_pos c2] at H
   have c2b0 : decide (x8_1 < (l0.length : Int)) = true:=decide_eq_true c2
   clear c2
   by_cases c3 : 0≤x8_1
   case neg =>
    rw [if_neg c3] at H
    exact absurd H (by simp)
   rw [if_pos c3] at H
   have c3b0 : decide (0≤x8_1) = true:=decide_eq_true c3
   clear c3
   by_cases c4 : x8_1 < (l0.length : Int)
   case neg =>
    rw [if_neg c4] at H
    exact absurd H (by simp)
   rw [if_pos c4] at H
   have c4b0 : decide (x8_1 < (l0.length : Int)) = true:=decide_eq_true c4
   clear c4
   replace H':=am H
   have p177 : 0≤(x8_1 : Int):=of_decide_eq_true (by assumption)
   have q177 : x8_1 < (l0.length : Int):=of_decide_eq_true (by assumption)
   obtain ⟨ad177,e177,hx177_0⟩:=Kd.at_int HR0.out x8_1 p177 q177
   cases e177
   replace p177:=eq_true p177
   replace q177:=eq_true q177
   go_wp2
   go_roundg k1
   case measure=>have:=HK1.out;omega
   case rel=>exact ⟨(wrap64 (x3_1 + (rd l0 x8_1))),(wrap64 (x8_1 + 1)),(by first | rfl | (simp;done) | (simp [*];done)),(by first | rfl | (simp;done) | (simp [*];done)),H',⟨by have:=HK1.out;omega⟩,by repeat (first | exact Drawn0.refl _ | apply Drawn0.step)⟩
def gf_nozzles.f (k : Nat) (l0_0 : List (S126)) (a0_1 : Int) (l0_2 : List (S48)) (a0_3 : Int) (a0_4 : Int) (l0_5 : List (List Int)) (a1 : Int) : Option (Int):=if 0≤a1 then (if a1 < (l0_5.length : Int) then ((ca_sum.f k (rd_L3 l0_5 a1)).bind fun t1084=>(some t1084)) else (none)) else (none)
theorem gf_nozzles.calls (k : Nat) (A0_0 : Option Addr) (c0_0 : Nat) (l0_0 : List (S126)) (a0_1 : Int) (A0_2 : Option Addr) (c0_2 : Nat) (l0_2 : List (S48)) (a0_3 : Int) (a0_4 : Int) (A0_5 : Option Addr) (c0_5 : Nat) (l0_5 : List (List Int)) (a1 : Int) (r : Int) (w : World) (hr0_0 : Kd.C k126 w A0_0 l0_0.length l0_0) (hc0_0 : l0_0.length≤c0_0) (hr0_2 : Kd.C k48 w A0_2 l0_2.length l0_2) (hc0_2 : l0_2.length≤c0_2) (hr0_5 : Kd.C (Kd.slice 3 (Kd.int .i64)) w A0_5 l0_5.length l0_5) (hc0_5 : l0_5.length≤c0_5) (h : gf_nozzles.f k l0_0 a0_1 l0_2 a0_3 a0_4 l0_5 a1 = some r) :
 Calls Tryz.prog 131 #[.agg #[.slice A0_0 l0_0.length c0_0,.int .i64 a0_1,.slice A0_2 l0_2.length c0_2,.int .i64 a0_3,.int .i64 a0_4,.slice A0_5 l0_5.length c0_5],.int .i64 a1] w fun e w'=>e = .returned (.int .i64 r)∧Below w.heap.size w w':=by
 have hu110:=Tryz.underlying110
 have HR0_0:=am hr0_0
 have HC0_0:=am hc0_0
 clear hr0_0 hc0_0
 have HR0_2:=am hr0_2
 have HC0_2:=am hc0_2
 clear hr0_2 hc0_2
 have HR0_5:=am hr0_5
 have HC0_5:=am hc0_5
 clear hr0_5 hc0_5
 have HB:=am (Below.refl w.heap.size w)
 have H : (if 0≤a1 then (if a1 < (l0_5.length : Int) then ((ca_sum.f k (rd_L3 l0_5 a1)).bind fun t1084=>(some t1084)) else (none)) else (none)) = some r:=h
 clear h
 by_cases c3 : 0≤a1
 case neg =>
  rw [if_neg c3] at H
  exact absurd H (by simp)
 rw [if_pos c3] at H
 have c3b0 : decide (0≤a1) = true:=decide_eq_true c3
 clear c3
 by_cases c4 : a1 < (l0_5.length : Int)
 case neg =>
  rw [if_neg c4] at H
  exact absurd H (by simp)
 rw [if_pos c4] at H
 have c4b0 : decide (a1 < (l0_5.length : Int)) = true:=decide_eq_true c4
 clear c4
 replace H:=obm H
 obtain ⟨t1084,A50,H⟩:=H
 replace H : (some t1084) = some r:=H
 have A5:=am A50
 clear A50
 obtain rfl:=Option.some.inj H
 go_enter Tryz.func131,Tryz.ntmps131
 go_wp2_with (first | ((refine gate_dst (N:=2) rfl ?_);refine box_event rfl (N:=2) rfl (cs:=#[.slice A0_0 l0_0.length c0_0,.int .i64 a0_1,.slice A0_2 l0_2.length c0_2,.int .i64 a0_3,.int .i64 a0_4,.slice A0_5 l0_5.length c0_5]) (t:=110) ?hr ?_;(case hr=>go_simp;try rfl);intro gb1082 hg w6 hbox hb;have BK1082:=am (hbox);have GW1082:=am (ge_new (HB.out) hg);have GE1082:=am (ge_new (HB.out) hg);replace HB:=am (below_step (HB.out) hb);clear hb hbox hg;obtain ⟨hcz7_0,hcz7_1,hcz7_2,hcz7_3,hcz7_4,hcz7_5⟩:=cO6 BK1082.out;have p1083 : 0≤(a1 : Int):=of_decide_eq_true (by assumption);have q1083 : a1 < (l0_5.length : Int):=of_decide_eq_true (by assumption);obtain ⟨ad1083,A1083_0,c1083_0,e1083,hx1083_0,hl1083_0,hi1083_0⟩:=at_L3 HR0_5.out a1 p1083 q1083;cases e1083;replace hx1083_0:=(HB.out.cell (wbl hx1083_0)).trans hx1083_0;have HR1083_0:=am hi1083_0;have HC1083_0:=am hl1083_0;clear hi1083_0 hl1083_0;replace p1083:=eq_true p1083;replace q1083:=eq_true q1083) | ((with_reducible refine gate_callee (f:=110) rfl ?_);refine goesL_ (some 10) rfl rfl Tryz.func110 (by kernel_rfl) rfl #[.slice A1083_0 (rd_L3 l0_5 a1).length c1083_0] rfl (by (try simp only [List.map_toArray,List.map_cons,List.map_nil]);first | done | rfl | (simp only [List.length_drop,List.length_take];rfl)) ?_;(refine (ca_sum.calls k _ _ (rd_L3 l0_5 a1) t1084 _ ?side1 ?side2 A5.out).mono ?_);(case side1=>exact kC HR1083_0.out HB.out);(case side2=>exact HC1083_0.out);rintro e w' ⟨rfl,⟨nd,rfl⟩⟩;refine ⟨_,rfl,?_⟩))
 go_ret
 exact ⟨by first | rfl | (simp [*]<;>rfl),pw_below_drewN HB.out _⟩
def gf_weir.f (l0_0 : List (S126)) (a0_1 : Int) (l0_2 : List (S48)) (a0_3 : Int) (a0_4 : Int) (l0_5 : List (List Int)) (a1 : Int) : Option (Int):=some (wrap64 (a0_4 * (mx 0 (wrap64 (a1 - a0_3)))))
theorem gf_weir.calls (A0_0 : Option Addr) (c0_0 : Nat) (l0_0 : List (S126)) (a0_1 : Int) (A0_2 : Option Addr) (c0_2 : Nat) (l0_2 : List (S48)) (a0_3 : Int) (a0_4 : Int) (A0_5 : Option Addr) (c0_5 : Nat) (l0_5 : List (List Int)) (a1 : Int) (r : Int) (w : World) (hr0_0 : Kd.C k126 w A0_0 l0_0.length l0_0) (hc0_0 : l0_0.length≤c0_0) (hr0_2 : Kd.C k48 w A0_2 l0_2.length l0_2) (hc0_2 : l0_2.length≤c0_2) (hr0_5 : Kd.C (Kd.slice 3 (Kd.int .i64)) w A0_5 l0_5.length l0_5) (hc0_5 : l0_5.length≤c0_5) (h : gf_weir.f l0_0 a0_1 l0_2 a0_3 a0_4 l0_5 a1 = some r) :
 Calls Tryz.prog 87 #[.agg #[.slice A0_0 l0_0.length c0_0,.int .i64 a0_1,.slice A0_2 l0_2.length c0_2,.int .i64 a0_3,.int .i64 a0_4,.slice A0_5 l0_5.length c0_5],.int .i64 a1] w fun e w'=>e = .returned (.int .i64 r)∧Below w.heap.size w w':=by
 have hu110:=Tryz.underlying110
 have HR0_0:=am hr0_0
 have HC0_0:=am hc0_0
 clear hr0_0 hc0_0
 have HR0_2:=am hr0_2
 have HC0_2:=am hc0_2
 clear hr0_2 hc0_2
 have HR0_5:=am hr0_5
 have HC0_5:=am hc0_5
 clear hr0_5 hc0_5
 have HB:=am (Below.refl w.heap.size w)
 have H : (some (wrap64 (a0_4 * (mx 0 (wrap64 (a1 - a0_3)))))) = some r:=h
 clear h
 obtain ⟨ji3,hji3⟩ : ∃ j_ : Int,(mx 0 (wrap64 (a1 - a0_3))) = j_:=⟨_,rfl⟩
 replace H : (some (wrap64 (a0_4 * (ji3)))) = some r:=by first | (rw [hji3] at H;exact H) | (simp only [hji3] at H ⊢;exact H)
 (try (have hji3l : 0≤ji3:=by (rw [← hji3];unfold mx;(repeat' split)<;>omega)))
 (try (have hji3m : 0≤ji3:=by omega))
 have hji3_ : (if 0 < (wrap64 (a1 - a0_3)) then (wrap64 (a1 - a0_3)) else 0) = ji3:=hji3
 obtain rfl:=Option.some.inj H
 go_enter Tryz.func87,Tryz.ntmps87
 go_wp2_with (first | ((refine gate_dst (N:=2) rfl ?_);refine box_event rfl (N:=2) rfl (cs:=#[.slice A0_0 l0_0.length c0_0,.int .i64 a0_1,.slice A0_2 l0_2.length c0_2,.int .i64 a0_3,.int .i64 a0_4,.slice A0_5 l0_5.length c0_5]) (t:=110) ?hr ?_;(case hr=>go_simp;try rfl);intro gb335 hg w4 hbox hb;have BK335:=am (hbox);have GW335:=am (ge_new (HB.out) hg);have GE335:=am (ge_new (HB.out) hg);replace HB:=am (below_step (HB.out) hb);clear hb hbox hg;obtain ⟨hcz5_0,hcz5_1,hcz5_2,hcz5_3,hcz5_4,hcz5_5⟩:=cO6 BK335.out))
 go_ret
 exact ⟨by first | rfl | (simp [errW_none,errW_some]<;>rfl) | (simp only [← hji3];first | rfl | (simp [errW_none,errW_some]<;>rfl)) | (simp [*,errW_none,errW_some]<;>rfl),HB.out⟩
end
def gf_out.f (l0_0 : List S126) (a0_1 : Int) (l0_2 : List S48) (a0_3 a0_4 : Int) (l0_5 : List (List Int)) (a1 : Int) : Option Int:=
 (gf_nozzles.f ((rd_L3 l0_5 a1).length + 1) l0_0 a0_1 l0_2 a0_3 a0_4 l0_5 a1).bind fun x=>(gf_weir.f l0_0 a0_1 l0_2 a0_3 a0_4 l0_5 a1).bind fun y=>some (wrap64 (wrap64 x + y))
theorem gf_out.calls (A0_0 : Option Addr) (c0_0 : Nat) (l0_0 : List S126) (a0_1 : Int) (A0_2 : Option Addr) (c0_2 : Nat) (l0_2 : List S48) (a0_3 a0_4 : Int) (A0_5 : Option Addr) (c0_5 : Nat) (l0_5 : List (List Int)) (a1 : Int) (r : Int) (w : World) (hr0_0 : Kd.C k126 w A0_0 l0_0.length l0_0) (hc0_0 : l0_0.length≤c0_0) (hr0_2 : Kd.C k48 w A0_2 l0_2.length l0_2) (hc0_2 : l0_2.length≤c0_2) (hr0_5 : Kd.C (Kd.slice 3 (Kd.int .i64)) w A0_5 l0_5.length l0_5) (hc0_5 : l0_5.length≤c0_5) (h : gf_out.f l0_0 a0_1 l0_2 a0_3 a0_4 l0_5 a1 = some r) :
 Calls Tryz.prog 109 #[.agg #[.slice A0_0 l0_0.length c0_0,.int .i64 a0_1,.slice A0_2 l0_2.length c0_2,.int .i64 a0_3,.int .i64 a0_4,.slice A0_5 l0_5.length c0_5],.int .i64 a1] w fun e w'=>e = .returned (.int .i64 r)∧Below w.heap.size w w':=by
 have hu:=Tryz.underlying110
 have HB:=am (Below.refl w.heap.size w)
 have HR0:=am hr0_0
 have HC0:=am hc0_0
 have HR2:=am hr0_2
 have HC2:=am hc0_2
 have HR5:=am hr0_5
 have HC5:=am hc0_5
 clear hr0_0 hc0_0 hr0_2 hc0_2 hr0_5 hc0_5
 unfold gf_out.f at h
 obtain ⟨x,hx,h⟩:=obm h
 obtain ⟨y,hy,h⟩:=obm h
 have H1:=am hx
 have H2:=am hy
 have H3:=am (Option.some.inj h)
 clear hx hy h
 go_enter Tryz.func109,Tryz.ntmps109
 go_wp2_with ((refine gate_dst (N:=2) rfl ?_);(try (refine gate_guard (by rfl) ?_;dsimp only));refine box_event rfl (N:=2) rfl (cs:=#[.slice A0_0 l0_0.length c0_0,.int .i64 a0_1,.slice A0_2 l0_2.length c0_2,.int .i64 a0_3,.int .i64 a0_4,.slice A0_5 l0_5.length c0_5]) (t:=110) ?hr ?_;(case hr=>go_simp;try rfl);intro g hg w2 hbox hb;replace HB:=(bmv HB hb);clear hg;have BKg:=am hbox;clear hbox;(try clear hczg_0 hczg_1 hczg_2 hczg_3 hczg_4 hczg_5);obtain ⟨hczg_0,hczg_1,hczg_2,hczg_3,hczg_4,hczg_5⟩:=cO6 BKg.out;clear hb)
 have hi0 : ∀ W,(Instr.index 178 (.agg #[.func (.func 131) #[.agg #[.slice A0_0 l0_0.length c0_0,.int .i64 a0_1,.slice A0_2 l0_2.length c0_2,.int .i64 a0_3,.int .i64 a0_4,.slice A0_5 l0_5.length c0_5]] #[],.func (.func 87) #[.agg #[.slice A0_0 l0_0.length c0_0,.int .i64 a0_1,.slice A0_2 l0_2.length c0_2,.int .i64 a0_3,.int .i64 a0_4,.slice A0_5 l0_5.length c0_5]] #[]]) (.int .i64 0)).run Tryz.prog W = .ok (.func (.func 131) #[.agg #[.slice A0_0 l0_0.length c0_0,.int .i64 a0_1,.slice A0_2 l0_2.length c0_2,.int .i64 a0_3,.int .i64 a0_4,.slice A0_5 l0_5.length c0_5]] #[]) W:=fun W=>by rfl
 have hi1 : ∀ W,(Instr.index 178 (.agg #[.func (.func 131) #[.agg #[.slice A0_0 l0_0.length c0_0,.int .i64 a0_1,.slice A0_2 l0_2.length c0_2,.int .i64 a0_3,.int .i64 a0_4,.slice A0_5 l0_5.length c0_5]] #[],.func (.func 87) #[.agg #[.slice A0_0 l0_0.length c0_0,.int .i64 a0_1,.slice A0_2 l0_2.length c0_2,.int .i64 a0_3,.int .i64 a0_4,.slice A0_5 l0_5.length c0_5]] #[]]) (.int .i64 1)).run Tryz.prog W = .ok (.func (.func 87) #[.agg #[.slice A0_0 l0_0.length c0_0,.int .i64 a0_1,.slice A0_2 l0_2.length c0_2,.int .i64 a0_3,.int .i64 a0_4,.slice A0_5 l0_5.length c0_5]] #[]) W:=fun W=>by rfl
 go_loopw [6,8,15] (fun v6 v8 v15 w'=>((v6 = .int .i64 0∧v15 = .int .i64 0)∨(v6 = .int .i64 (wrap64 x)∧v15 = .int .i64 1)∨(v6 = .int .i64 (wrap64 (wrap64 x + y))∧v15 = .int .i64 2))∧Aside0 (Below w.heap.size w w')) (fun _ _ v15 _=>2 - (intOf v15).toNat)
 case atStart=>exact ⟨.inl ⟨rfl,rfl⟩,⟨below_alloc HB.out _⟩⟩
 case round =>
  obtain ⟨hc,HBr⟩:=hrel
  rcases hc with ⟨rfl,rfl⟩ | ⟨rfl,rfl⟩ | ⟨rfl,rfl⟩
  ·go_wp2_with (go_at_call 131;refine (gf_nozzles.calls _ A0_0 c0_0 l0_0 a0_1 A0_2 c0_2 l0_2 a0_3 a0_4 A0_5 c0_5 l0_5 a1 x _ (kC HR0.out HBr.out) HC0.out (kC HR2.out HBr.out) HC2.out (kC HR5.out HBr.out) HC5.out H1.out).mono ?_;rintro e w3 ⟨rfl,hb⟩)
   go_roundw
   case rel=>exact ⟨.inr (.inl ⟨by simp,by simp⟩),⟨below_then HBr.out HBr.out.size hb⟩⟩
   case measure=>simp [intOf]
  ·go_wp2_with (go_at_call 87;refine (gf_weir.calls A0_0 c0_0 l0_0 a0_1 A0_2 c0_2 l0_2 a0_3 a0_4 A0_5 c0_5 l0_5 a1 y _ (kC HR0.out HBr.out) HC0.out (kC HR2.out HBr.out) HC2.out (kC HR5.out HBr.out) HC5.out H2.out).mono ?_;rintro e w3 ⟨rfl,hb⟩)
   go_roundw
   case rel=>exact ⟨.inr (.inr ⟨by simp,by simp⟩),⟨below_then HBr.out HBr.out.size hb⟩⟩
   case measure=>simp [intOf]
  ·go_wp2
   go_ret
   exact ⟨ret_int_eq H3.out,HBr.out⟩
def levelGo (l0_0 : List S126) (a0_1 : Int) (l0_2 : List S48) (a0_3 a0_4 : Int) (l0_5 : List (List Int)) (a1 : Int) : Nat→Int→Int→Option Int
 | 0,_,out=>some out
 | n + 1,h,out=>(gf_out.f l0_0 a0_1 l0_2 a0_3 a0_4 l0_5 h).bind fun t=>if t > a1 then some out else levelGo l0_0 a0_1 l0_2 a0_3 a0_4 l0_5 a1 n (h + 1) h
def gf_level.f (l0_0 : List S126) (a0_1 : Int) (l0_2 : List S48) (a0_3 a0_4 : Int) (l0_5 : List (List Int)) (a1 : Int) : Option Int:=levelGo l0_0 a0_1 l0_2 a0_3 a0_4 l0_5 a1 l0_5.length 0 0
theorem gf_level.calls (A0_0 : Option Addr) (c0_0 : Nat) (l0_0 : List S126) (a0_1 : Int) (A0_2 : Option Addr) (c0_2 : Nat) (l0_2 : List S48) (a0_3 a0_4 : Int) (A0_5 : Option Addr) (c0_5 : Nat) (l0_5 : List (List Int)) (a1 : Int) (r : Int) (w : World) (hr0_0 : Kd.C k126 w A0_0 l0_0.length l0_0) (hc0_0 : l0_0.length≤c0_0) (hr0_2 : Kd.C k48 w A0_2 l0_2.length l0_2) (hc0_2 : l0_2.length≤c0_2) (hr0_5 : Kd.C (Kd.slice 3 (Kd.int .i64)) w A0_5 l0_5.length l0_5) (hc0_5 : l0_5.length≤c0_5) (h : gf_level.f l0_0 a0_1 l0_2 a0_3 a0_4 l0_5 a1 = some r) :
 Calls Tryz.prog 85 #[.agg #[.slice A0_0 l0_0.length c0_0,.int .i64 a0_1,.slice A0_2 l0_2.length c0_2,.int .i64 a0_3,.int .i64 a0_4,.slice A0_5 l0_5.length c0_5],.int .i64 a1] w fun e w'=>e = .returned (.int .i64 r)∧Below w.heap.size w w':=by
 have hu:=Tryz.underlying110
 have HB:=am (Below.refl w.heap.size w)
 have hm : l0_5.length≤9223372036854775807:=Kd.C_max hr0_5
 have HR0:=am hr0_0
 have HC0:=am hc0_0
 have HR2:=am hr0_2
 have HC2:=am hc0_2
 have HR5:=am hr0_5
 have HC5:=am hc0_5
 clear hr0_0 hc0_0 hr0_2 hc0_2 hr0_5 hc0_5
 have HQ:=am (show levelGo l0_0 a0_1 l0_2 a0_3 a0_4 l0_5 a1 ((l0_5.length : Int) - 0).toNat 0 0 = some r from h)
 clear h
 go_enter Tryz.func85,Tryz.ntmps85
 go_wp2_with ((refine gate_dst (N:=2) rfl ?_);(try (refine gate_guard (by rfl) ?_;dsimp only));refine box_event rfl (N:=2) rfl (cs:=#[.slice A0_0 l0_0.length c0_0,.int .i64 a0_1,.slice A0_2 l0_2.length c0_2,.int .i64 a0_3,.int .i64 a0_4,.slice A0_5 l0_5.length c0_5]) (t:=110) ?hr ?_;(case hr=>go_simp;try rfl);intro g hg w2 hbox hb;replace HB:=(bmv HB hb);clear hg;have BKg:=am hbox;clear hbox;(try clear hczg_0 hczg_1 hczg_2 hczg_3 hczg_4 hczg_5);obtain ⟨hczg_0,hczg_1,hczg_2,hczg_3,hczg_4,hczg_5⟩:=cO6 BKg.out;clear hb)
 go_step3
 go_wp2
 go_step3
 go_wp2
 go_loopw [5,6,10] (fun v5 v6 v10 w'=>∃ i out : Int,0≤i∧i≤l0_5.length∧v5 = .int .i64 out∧v10 = .int .i64 i∧Aside0 (levelGo l0_0 a0_1 l0_2 a0_3 a0_4 l0_5 a1 ((l0_5.length : Int) - i).toNat i out = some r)∧Aside0 (Below w.heap.size w w')∧Aside0 (w'.heap[g]? = some (.cells #[.slice A0_0 l0_0.length c0_0,.int .i64 a0_1,.slice A0_2 l0_2.length c0_2,.int .i64 a0_3,.int .i64 a0_4,.slice A0_5 l0_5.length c0_5] 110 (0,0)))) (fun _ _ v10 _=>l0_5.length - (intOf v10).toNat)
 case atStart=>exact ⟨0,0,by omega,by omega,rfl,rfl,HQ,HB,BKg⟩
 case round =>
  clear HQ HB BKg
  obtain ⟨i,out,p1,hi,rfl,rfl,HQ,HB,BKg⟩:=hrel
  by_cases hlt : i < (l0_5.length : Int)
  case neg =>
   go_wp2
   (try rw [Exit.noGoto_ret])
   go_ret
   have hq:=HQ.out
   rw [show ((l0_5.length : Int) - i).toNat = 0 by omega] at hq
   exact ⟨ret_int_eq (Option.some.inj hq),HB.out⟩
  have hq:=HQ.out
  rw [show ((l0_5.length : Int) - i).toNat = ((l0_5.length : Int) - (i + 1)).toNat + 1 by omega] at hq
  simp only [levelGo] at hq
  obtain ⟨t,ht,hq⟩:=obm hq
  have H1:=am ht
  clear ht HQ
  (try clear hczg_0 hfzg_0);have hczg_0 : wr.cell? ⟨g,0,none⟩ = some (.slice A0_0 l0_0.length c0_0):=(blk_cell BKg.out 0).trans rfl;have hfzg_0:=blk_frozen BKg.out 0
  (try clear hczg_1 hfzg_1);have hczg_1 : wr.cell? ⟨g,1,none⟩ = some (.int .i64 a0_1):=(blk_cell BKg.out 1).trans rfl;have hfzg_1:=blk_frozen BKg.out 1
  (try clear hczg_2 hfzg_2);have hczg_2 : wr.cell? ⟨g,2,none⟩ = some (.slice A0_2 l0_2.length c0_2):=(blk_cell BKg.out 2).trans rfl;have hfzg_2:=blk_frozen BKg.out 2
  (try clear hczg_3 hfzg_3);have hczg_3 : wr.cell? ⟨g,3,none⟩ = some (.int .i64 a0_3):=(blk_cell BKg.out 3).trans rfl;have hfzg_3:=blk_frozen BKg.out 3
  (try clear hczg_4 hfzg_4);have hczg_4 : wr.cell? ⟨g,4,none⟩ = some (.int .i64 a0_4):=(blk_cell BKg.out 4).trans rfl;have hfzg_4:=blk_frozen BKg.out 4
  (try clear hczg_5 hfzg_5);have hczg_5 : wr.cell? ⟨g,5,none⟩ = some (.slice A0_5 l0_5.length c0_5):=(blk_cell BKg.out 5).trans rfl;have hfzg_5:=blk_frozen BKg.out 5
  by_cases hgt : t > a1
  ·rw [if_pos hgt] at hq
   have H2:=am (Option.some.inj hq)
   have b1 : decide (a1 < t) = true:=decide_eq_true hgt
   clear hq hgt
   go_wp2_with (go_at_call 109;refine (gf_out.calls A0_0 c0_0 l0_0 a0_1 A0_2 c0_2 l0_2 a0_3 a0_4 A0_5 c0_5 l0_5 i t _ (kC HR0.out HB.out) HC0.out (kC HR2.out HB.out) HC2.out (kC HR5.out HB.out) HC5.out H1.out).mono ?_;rintro e w3 ⟨rfl,hb⟩;have n_:=(kmv hb BKg);have m_:=(bmv HB hb);clear BKg HB hb hczg_0 hczg_1 hczg_2 hczg_3 hczg_4 hczg_5 hfzg_0 hfzg_1 hfzg_2 hfzg_3 hfzg_4 hfzg_5;have BKg:=n_;have HB:=m_;clear n_ m_)
   (try rw [Exit.noGoto_ret])
   go_ret
   exact ⟨ret_int_eq H2.out,HB.out⟩
  ·rw [if_neg hgt] at hq
   have H2:=am hq
   have b1 : decide (a1 < t) = false:=decide_eq_false hgt
   clear hq hgt
   go_wp2_with (go_at_call 109;refine (gf_out.calls A0_0 c0_0 l0_0 a0_1 A0_2 c0_2 l0_2 a0_3 a0_4 A0_5 c0_5 l0_5 i t _ (kC HR0.out HB.out) HC0.out (kC HR2.out HB.out) HC2.out (kC HR5.out HB.out) HC5.out H1.out).mono ?_;rintro e w3 ⟨rfl,hb⟩;have n_:=(kmv hb BKg);have m_:=(bmv HB hb);clear BKg HB hb hczg_0 hczg_1 hczg_2 hczg_3 hczg_4 hczg_5 hfzg_0 hfzg_1 hfzg_2 hfzg_3 hfzg_4 hfzg_5;have BKg:=n_;have HB:=m_;clear n_ m_)
   go_roundw
   case rel=>exact ⟨i + 1,i,by omega,by omega,rfl,by go_num,H2,HB,BKg⟩
   case measure=>simp [intOf];omega
section
attribute [local go_sem] max2_int min2_int max_two min_two
def gf_shares.l0 : Nat→Int→List Int→Int→List Int→Int→Int→Option (List Int × Int)
 | 0,_,_,_,_,_,_=>none
 | k + 1,x1,x7,x8,x33,x34,x35=>if x35 < x34 then (if 0≤x35 then (if x35 < (x33.length : Int) then (if x35 < (x7.length : Int) then (gf_shares.l0 k x1 (x7.set (x35 : Int).toNat (wrap64 ((rd x7 x35) + (mn x8 (wrap64 ((rd x33 x35) - (rd x7 x35))))))) (wrap64 (x8 - (mn x8 (wrap64 ((rd x33 x35) - (rd x7 x35)))))) x33 x34 (wrap64 (x35 + 1))) else (none)) else (none)) else (none)) else ((ca_sum.f k x7).bind fun t190=>(some (x7,wrap64 (x1 - t190))))
def gf_shares.f (k : Nat) (l0_0 : List (S126)) (a0_1 : Int) (l0_2 : List (S48)) (a0_3 : Int) (a0_4 : Int) (l0_5 : List (List Int)) (a1 : Int) : Option (List Int × Int):=(gf_level.f l0_0 a0_1 l0_2 a0_3 a0_4 l0_5 a1).bind fun t179=>(if 0≤t179 then (if t179 < (l0_5.length : Int) then ((sl_Clone_int.f (rd_L3 l0_5 t179)).bind fun t181=>(if t179 < 40 then ((gf_out.f l0_0 a0_1 l0_2 a0_3 a0_4 l0_5 t179).bind fun t184=>(if 0≤(wrap64 (t179 + 1)) then (if (wrap64 (t179 + 1)) < (l0_5.length : Int) then (gf_shares.l0 k a1 t181 (wrap64 (a1 - t184)) (rd_L3 l0_5 (wrap64 (t179 + 1))) ((rd_L3 l0_5 (wrap64 (t179 + 1))).length : Int) 0) else (none)) else (none))) else ((ca_sum.f k t181).bind fun t191=>(some (t181,wrap64 (a1 - t191)))))) else (none)) else (none))
theorem gf_shares.calls (k : Nat) (A0_0 : Option Addr) (c0_0 : Nat) (l0_0 : List (S126)) (a0_1 : Int) (A0_2 : Option Addr) (c0_2 : Nat) (l0_2 : List (S48)) (a0_3 : Int) (a0_4 : Int) (A0_5 : Option Addr) (c0_5 : Nat) (l0_5 : List (List Int)) (a1 : Int) (r1 : List Int) (r2 : Int) (w : World) (hr0_0 : Kd.C k126 w A0_0 l0_0.length l0_0) (hc0_0 : l0_0.length≤c0_0) (hr0_2 : Kd.C k48 w A0_2 l0_2.length l0_2) (hc0_2 : l0_2.length≤c0_2) (hr0_5 : Kd.C (Kd.slice 3 (Kd.int .i64)) w A0_5 l0_5.length l0_5) (hc0_5 : l0_5.length≤c0_5) (h : gf_shares.f k l0_0 a0_1 l0_2 a0_3 a0_4 l0_5 a1 = some (r1,r2)) :
 Calls Tryz.prog 71 #[.agg #[.slice A0_0 l0_0.length c0_0,.int .i64 a0_1,.slice A0_2 l0_2.length c0_2,.int .i64 a0_3,.int .i64 a0_4,.slice A0_5 l0_5.length c0_5],.int .i64 a1] w fun e w'=>∃ v0_ : Value,e = .returned (.tuple #[v0_,.int .i64 r2])∧Kd.R (Kd.int .i64) 3 w' w.heap.size (fun _=>True) v0_ r1∧Below w.heap.size w w':=by
 have hu110:=Tryz.underlying110
 have HR0_0:=am hr0_0
 have HC0_0:=am hc0_0
 clear hr0_0 hc0_0
 have HR0_2:=am hr0_2
 have HC0_2:=am hc0_2
 clear hr0_2 hc0_2
 have HR0_5:=am hr0_5
 have HC0_5:=am hc0_5
 clear hr0_5 hc0_5
 have HB:=am (Below.refl w.heap.size w)
 have H : ((gf_level.f l0_0 a0_1 l0_2 a0_3 a0_4 l0_5 a1).bind fun t179=>(if 0≤t179 then (if t179 < (l0_5.length : Int) then ((sl_Clone_int.f (rd_L3 l0_5 t179)).bind fun t181=>(if t179 < 40 then ((gf_out.f l0_0 a0_1 l0_2 a0_3 a0_4 l0_5 t179).bind fun t184=>(if 0≤(wrap64 (t179 + 1)) then (if (wrap64 (t179 + 1)) < (l0_5.length : Int) then (gf_shares.l0 k a1 t181 (wrap64 (a1 - t184)) (rd_L3 l0_5 (wrap64 (t179 + 1))) ((rd_L3 l0_5 (wrap64 (t179 + 1))).length : Int) 0) else (none)) else (none))) else ((ca_sum.f k t181).bind fun t191=>(some (t181,wrap64 (a1 - t191)))))) else (none)) else (none))) = some (r1,r2):=h
 clear h
 replace H:=obm H
 obtain ⟨t179,A30,H⟩:=H
 replace H : (if 0≤t179 then (if t179 < (l0_5.length : Int) then ((sl_Clone_int.f (rd_L3 l0_5 t179)).bind fun t181=>(if t179 < 40 then ((gf_out.f l0_0 a0_1 l0_2 a0_3 a0_4 l0_5 t179).bind fun t184=>(if 0≤(wrap64 (t179 + 1)) then (if (wrap64 (t179 + 1)) < (l0_5.length : Int) then (gf_shares.l0 k a1 t181 (wrap64 (a1 - t184)) (rd_L3 l0_5 (wrap64 (t179 + 1))) ((rd_L3 l0_5 (wrap64 (t179 + 1))).length : Int) 0) else (none)) else (none))) else ((ca_sum.f k t181).bind fun t191=>(some (t181,wrap64 (a1 - t191)))))) else (none)) else (none)) = some (r1,r2):=H
 have A3:=am A30
 clear A30
 by_cases c4 : 0≤t179
 case neg =>
  rw [if_neg c4] at H
  exact absurd H (by simp)
 rw [if_pos c4] at H
 have c4b0 : decide (0≤t179) = true:=decide_eq_true c4
 clear c4
 by_cases c5 : t179 < (l0_5.length : Int)
 case neg =>
  rw [if_neg c5] at H
  exact absurd H (by simp)
 rw [if_pos c5] at H
 have c5b0 : decide (t179 < (l0_5.length : Int)) = true:=decide_eq_true c5
 clear c5
 replace H:=obm H
 obtain ⟨t181,A60,H⟩:=H
 replace H : (if t179 < 40 then ((gf_out.f l0_0 a0_1 l0_2 a0_3 a0_4 l0_5 t179).bind fun t184=>(if 0≤(wrap64 (t179 + 1)) then (if (wrap64 (t179 + 1)) < (l0_5.length : Int) then (gf_shares.l0 k a1 t181 (wrap64 (a1 - t184)) (rd_L3 l0_5 (wrap64 (t179 + 1))) ((rd_L3 l0_5 (wrap64 (t179 + 1))).length : Int) 0) else (none)) else (none))) else ((ca_sum.f k t181).bind fun t191=>(some (t181,wrap64 (a1 - t191))))) = some (r1,r2):=H
 have A6:=am A60
 clear A60
 by_cases c7 : t179 < 40
 case neg =>
  rw [if_neg c7] at H
  have c7b0 : decide (t179 < 40) = false:=decide_eq_false c7
  clear c7
  replace H:=obm H
  obtain ⟨t191,A310,H⟩:=H
  replace H : (some (t181,wrap64 (a1 - t191))) = some (r1,r2):=H
  have A31:=am A310
  clear A310
  simp only [Option.some.injEq,Prod.mk.injEq] at H
  obtain ⟨rfl,rfl⟩:=H
  go_enter Tryz.func71,Tryz.ntmps71
  go_wp2_with (first | ((refine gate_dst (N:=2) rfl ?_);refine box_event rfl (N:=2) rfl (cs:=#[.slice A0_0 l0_0.length c0_0,.int .i64 a0_1,.slice A0_2 l0_2.length c0_2,.int .i64 a0_3,.int .i64 a0_4,.slice A0_5 l0_5.length c0_5]) (t:=110) ?hr ?_;(case hr=>go_simp;try rfl);intro gb178 hg w32 hbox hb;have BK178:=am (hbox);have GW178:=am (ge_new (HB.out) hg);have GE178:=am (ge_new (HB.out) hg);replace HB:=am (below_step (HB.out) hb);clear hb hbox hg;obtain ⟨hcz33_0,hcz33_1,hcz33_2,hcz33_3,hcz33_4,hcz33_5⟩:=cO6 BK178.out) | ((with_reducible refine gate_callee (f:=85) rfl ?_);refine goesL_ (some 14) rfl rfl Tryz.func85 (by kernel_rfl) rfl #[.agg #[.slice A0_0 l0_0.length c0_0,.int .i64 a0_1,.slice A0_2 l0_2.length c0_2,.int .i64 a0_3,.int .i64 a0_4,.slice A0_5 l0_5.length c0_5],.int .i64 a1] rfl (by (try simp only [List.map_toArray,List.map_cons,List.map_nil]);first | done | rfl | (simp only [List.length_drop,List.length_take];rfl)) ?_;(refine (gf_level.calls _ _ l0_0 a0_1 _ _ l0_2 a0_3 a0_4 _ _ l0_5 a1 t179 _ ?side1 ?side2 ?side3 ?side4 ?side5 ?side6 A3.out).mono ?_);(case side1=>exact kC HR0_0.out HB.out);(case side2=>exact HC0_0.out);(case side3=>exact kC HR0_2.out HB.out);(case side4=>exact HC0_2.out);(case side5=>exact kC HR0_5.out HB.out);(case side6=>exact HC0_5.out);rintro e w34 ⟨rfl,hb⟩;refine ⟨_,rfl,?_⟩;replace BK178:=(kmv hb BK178);replace HB:=am (below_step (HB.out) hb);(try clear hb);(try clear hb2);(try clear hk);(try clear hi);obtain ⟨hcz35_0,hcz35_1,hcz35_2,hcz35_3,hcz35_4,hcz35_5⟩:=cO6 BK178.out;have p180 : 0≤(t179 : Int):=of_decide_eq_true (by assumption);have q180 : t179 < (l0_5.length : Int):=of_decide_eq_true (by assumption);obtain ⟨ad180,A180_0,c180_0,e180,hx180_0,hl180_0,hi180_0⟩:=at_L3 HR0_5.out t179 p180 q180;cases e180;replace hx180_0:=(HB.out.cell (wbl hx180_0)).trans hx180_0;have HR180_0:=am hi180_0;have HC180_0:=am hl180_0;clear hi180_0 hl180_0;replace p180:=eq_true p180;replace q180:=eq_true q180) | ((with_reducible refine gate_callee (f:=108) rfl ?_);refine goesL_ (some 20) rfl rfl Tryz.func108 (by kernel_rfl) rfl #[.slice A180_0 (rd_L3 l0_5 t179).length c180_0] rfl (by (try simp only [List.map_toArray,List.map_cons,List.map_nil]);first | done | rfl | (simp only [List.length_drop,List.length_take];rfl)) ?_;(refine (sl_Clone_int.calls _ _ (rd_L3 l0_5 t179) t181 _ ?side1 ?side2 A6.out).mono ?_);(case side1=>exact kC HR180_0.out HB.out);(case side2=>exact HC180_0.out);rintro e w36 ⟨v182,rfl,ho0,hb⟩;refine ⟨_,rfl,?_⟩;have HO183:=am (Kd.R_lower ho0 (below_size (HB.out)));replace BK178:=(kmv hb BK178);replace HB:=am (below_step (HB.out) hb);(try clear hb);(try clear hb2);(try clear hk);(try clear hi);(try clear ho0);obtain ⟨Ao37,co37,eo37⟩:=Kd.R_slice HO183.out;subst eo37) | ((with_reducible refine gate_callee (f:=110) rfl ?_);refine goesL_ (some 62) rfl rfl Tryz.func110 (by kernel_rfl) rfl #[.slice Ao37 t181.length co37] rfl (by (try simp only [List.map_toArray,List.map_cons,List.map_nil]);first | done | rfl | (simp only [List.length_drop,List.length_take];rfl)) ?_;(refine (ca_sum.calls k _ _ t181 t191 _ ?side1 ?side2 A31.out).mono ?_);(case side1=>repeat (first | exact (Kd.R_reads' HO183.out).2.2 | (with_reducible refine Kd.C_alloc ?_ _) | (with_reducible refine Kd.C_drewN ?_ _) | (with_reducible refine Kd.C_drew ?_)));(case side2=>exact (Kd.R_reads' HO183.out).2.1);rintro e w' ⟨rfl,⟨nd,rfl⟩⟩;refine ⟨_,rfl,?_⟩))
  go_ret2
  exact ⟨_,by first | rfl | (simp [*]<;>rfl),by (with_reducible repeat (first | apply Kd.R_alloc | apply Kd.R_drewN | apply Kd.R_drew));exact HO183.out,pw_below_drewN HB.out _⟩
 rw [if_pos c7] at H
 have c7b0 : decide (t179 < 40) = true:=decide_eq_true c7
 clear c7
 replace H:=obm H
 obtain ⟨t184,A80,H⟩:=H
 replace H : (if 0≤(wrap64 (t179 + 1)) then (if (wrap64 (t179 + 1)) < (l0_5.length : Int) then (gf_shares.l0 k a1 t181 (wrap64 (a1 - t184)) (rd_L3 l0_5 (wrap64 (t179 + 1))) ((rd_L3 l0_5 (wrap64 (t179 + 1))).length : Int) 0) else (none)) else (none)) = some (r1,r2):=H
 have A8:=am A80
 clear A80
 obtain ⟨ji9,hji9⟩ : ∃ j_ : Int,(wrap64 (t179 + 1)) = j_:=⟨_,rfl⟩
 replace H : (if 0≤(ji9) then (if (ji9) < (l0_5.length : Int) then (gf_shares.l0 k a1 t181 (wrap64 (a1 - t184)) (rd_L3 l0_5 (ji9)) ((rd_L3 l0_5 (ji9)).length : Int) 0) else (none)) else (none)) = some (r1,r2):=by first | (rw [hji9] at H;exact H) | (simp only [hji9] at H ⊢;exact H)
 (try rw [hji9] at A3)
 (try rw [hji9] at A6)
 (try rw [hji9] at A8)
 have hji9w : (IntKind.i64.wrap (t179 + 1)) = ji9:=(i64_w _).trans hji9
 by_cases c10 : 0≤(ji9)
 case neg =>
  rw [if_neg c10] at H
  exact absurd H (by simp)
 rw [if_pos c10] at H
 have c10b0 : decide (0≤(ji9)) = true:=decide_eq_true c10
 clear c10
 by_cases c11 : (ji9) < (l0_5.length : Int)
 case neg =>
  rw [if_neg c11] at H
  exact absurd H (by simp)
 rw [if_pos c11] at H
 have c11b0 : decide ((ji9) < (l0_5.length : Int)) = true:=decide_eq_true c11
 clear c11
 replace H':=am H
 go_enter Tryz.func71,Tryz.ntmps71
 go_wp2_with (first | ((refine gate_dst (N:=2) rfl ?_);refine box_event rfl (N:=2) rfl (cs:=#[.slice A0_0 l0_0.length c0_0,.int .i64 a0_1,.slice A0_2 l0_2.length c0_2,.int .i64 a0_3,.int .i64 a0_4,.slice A0_5 l0_5.length c0_5]) (t:=110) ?hr ?_;(case hr=>go_simp;try rfl);intro gb178 hg w12 hbox hb;have BK178:=am (hbox);have GW178:=am (ge_new (HB.out) hg);have GE178:=am (ge_new (HB.out) hg);replace HB:=am (below_step (HB.out) hb);clear hb hbox hg;obtain ⟨hcz13_0,hcz13_1,hcz13_2,hcz13_3,hcz13_4,hcz13_5⟩:=cO6 BK178.out) | ((with_reducible refine gate_callee (f:=85) rfl ?_);refine goesL_ (some 14) rfl rfl Tryz.func85 (by kernel_rfl) rfl #[.agg #[.slice A0_0 l0_0.length c0_0,.int .i64 a0_1,.slice A0_2 l0_2.length c0_2,.int .i64 a0_3,.int .i64 a0_4,.slice A0_5 l0_5.length c0_5],.int .i64 a1] rfl (by (try simp only [List.map_toArray,List.map_cons,List.map_nil]);first | done | rfl | (simp only [List.length_drop,List.length_take];rfl)) ?_;(refine (gf_level.calls _ _ l0_0 a0_1 _ _ l0_2 a0_3 a0_4 _ _ l0_5 a1 t179 _ ?side1 ?side2 ?side3 ?side4 ?side5 ?side6 A3.out).mono ?_);(case side1=>exact kC HR0_0.out HB.out);(case side2=>exact HC0_0.out);(case side3=>exact kC HR0_2.out HB.out);(case side4=>exact HC0_2.out);(case side5=>exact kC HR0_5.out HB.out);(case side6=>exact HC0_5.out);rintro e w14 ⟨rfl,hb⟩;refine ⟨_,rfl,?_⟩;replace BK178:=(kmv hb BK178);replace HB:=am (below_step (HB.out) hb);(try clear hb);(try clear hb2);(try clear hk);(try clear hi);obtain ⟨hcz15_0,hcz15_1,hcz15_2,hcz15_3,hcz15_4,hcz15_5⟩:=cO6 BK178.out;have p180 : 0≤(t179 : Int):=of_decide_eq_true (by assumption);have q180 : t179 < (l0_5.length : Int):=of_decide_eq_true (by assumption);obtain ⟨ad180,A180_0,c180_0,e180,hx180_0,hl180_0,hi180_0⟩:=at_L3 HR0_5.out t179 p180 q180;cases e180;replace hx180_0:=(HB.out.cell (wbl hx180_0)).trans hx180_0;have HR180_0:=am hi180_0;have HC180_0:=am hl180_0;clear hi180_0 hl180_0;replace p180:=eq_true p180;replace q180:=eq_true q180) | ((with_reducible refine gate_callee (f:=108) rfl ?_);refine goesL_ (some 20) rfl rfl Tryz.func108 (by kernel_rfl) rfl #[.slice A180_0 (rd_L3 l0_5 t179).length c180_0] rfl (by (try simp only [List.map_toArray,List.map_cons,List.map_nil]);first | done | rfl | (simp only [List.length_drop,List.length_take];rfl)) ?_;(refine (sl_Clone_int.calls _ _ (rd_L3 l0_5 t179) t181 _ ?side1 ?side2 A6.out).mono ?_);(case side1=>exact kC HR180_0.out HB.out);(case side2=>exact HC180_0.out);rintro e w16 ⟨v182,rfl,ho0,hb⟩;refine ⟨_,rfl,?_⟩;have HO183:=am (Kd.R_lower ho0 (below_size (HB.out)));replace BK178:=(kmv hb BK178);replace HB:=am (below_step (HB.out) hb);(try clear hb);(try clear hb2);(try clear hk);(try clear hi);(try clear ho0);obtain ⟨hcz17_0,hcz17_1,hcz17_2,hcz17_3,hcz17_4,hcz17_5⟩:=cO6 BK178.out) | ((with_reducible refine gate_callee (f:=109) rfl ?_);refine goesL_ (some 26) rfl rfl Tryz.func109 (by kernel_rfl) rfl #[.agg #[.slice A0_0 l0_0.length c0_0,.int .i64 a0_1,.slice A0_2 l0_2.length c0_2,.int .i64 a0_3,.int .i64 a0_4,.slice (some ad180) l0_5.length c0_5],.int .i64 t179] rfl (by (try simp only [List.map_toArray,List.map_cons,List.map_nil]);first | done | rfl | (simp only [List.length_drop,List.length_take];rfl)) ?_;(refine (gf_out.calls _ _ l0_0 a0_1 _ _ l0_2 a0_3 a0_4 _ _ l0_5 t179 t184 _ ?side1 ?side2 ?side3 ?side4 ?side5 ?side6 A8.out).mono ?_);(case side1=>exact kC HR0_0.out HB.out);(case side2=>exact HC0_0.out);(case side3=>exact kC HR0_2.out HB.out);(case side4=>exact HC0_2.out);(case side5=>exact kC HR0_5.out HB.out);(case side6=>exact HC0_5.out);rintro e w18 ⟨rfl,hb⟩;refine ⟨_,rfl,?_⟩;replace HO183:=am (Kd.R_below HO183.out hb);replace BK178:=(kmv hb BK178);replace HB:=am (below_step (HB.out) hb);(try clear hb);(try clear hb2);(try clear hk);(try clear hi);obtain ⟨hcz19_0,hcz19_1,hcz19_2,hcz19_3,hcz19_4,hcz19_5⟩:=cO6 BK178.out;have p185 : 0≤((ji9) : Int):=of_decide_eq_true (by assumption);have q185 : (ji9) < (l0_5.length : Int):=of_decide_eq_true (by assumption);obtain ⟨ad185,A185_0,c185_0,e185,hx185_0,hl185_0,hi185_0⟩:=at_L3 HR0_5.out (ji9) p185 q185;obtain rfl : ad180 = ad185:=(by injection e185);replace hx185_0:=(HB.out.cell (wbl hx185_0)).trans hx185_0;have HR185_0:=am hi185_0;have HC185_0:=am hl185_0;clear hi185_0 hl185_0;replace p185:=eq_true p185;replace q185:=eq_true q185))
 go_loopg [8,35] k (fun kq v8 v35 w'=>∃ (x7_1 : List Int) (x8_1 : Int) (x35_1 : Int),v8 = .int .i64 x8_1∧v35 = .int .i64 x35_1∧Aside0 (gf_shares.l0 kq a1 x7_1 x8_1 (rd_L3 l0_5 (ji9)) ((rd_L3 l0_5 (ji9)).length : Int) x35_1 = some (r1,r2))∧Aside0 (kq≤k)∧Aside0 (Kd.R (Kd.int .i64) 3 w' w.heap.size (fun _=>True) v182 x7_1)∧Aside0 (w'.heap[gb178]? = some (.cells #[(.slice A0_0 l0_0.length c0_0),.int .i64 a0_1,(.slice A0_2 l0_2.length c0_2),.int .i64 a0_3,.int .i64 a0_4,(.slice (some ad180) l0_5.length c0_5)] 110 (0,0)))∧Aside0 (Below w.heap.size w w'))
 case atStart=>exact ⟨(t181),(wrap64 (a1 - t184)),(0),(by first | rfl | (simp;done) | (simp [*];done)),(by first | rfl | (simp;done) | (simp [*];done)),H',⟨Nat.le_refl _⟩,⟨by (with_reducible repeat (first | apply Kd.R_alloc | apply Kd.R_drewN | apply Kd.R_drew));exact HO183.out⟩,⟨BK178.out⟩,⟨HB.out⟩⟩
 case round =>
  clear H'
  obtain ⟨x7_1,x8_1,x35_1,rfl,rfl,HA,HK1,HO_7,BK178,HB⟩:=hrel
  cases gk with
  | zero=>exact absurd HA.out (by simp [gf_shares.l0])
  | succ k1 =>
   have H:=HA.out
   clear HA
   simp only [gf_shares.l0] at H
   by_cases c20 : x35_1 < ((rd_L3 l0_5 (ji9)).length : Int)
   case neg =>
    rw [if_neg c20] at H
    have c20b0 : decide (x35_1 < ((rd_L3 l0_5 (ji9)).length : Int)) = false:=decide_eq_false c20
    clear c20
    replace H:=obm H
    obtain ⟨t190,A290,H⟩:=H
    replace H : (some (x7_1,wrap64 (a1 - t190))) = some (r1,r2):=H
    have A29:=am A290
    clear A290
    simp only [Option.some.injEq,Prod.mk.injEq] at H
    obtain ⟨rfl,rfl⟩:=H
    obtain ⟨Ao30,co30,eo30⟩:=Kd.R_slice HO_7.out
    subst eo30
    go_wp2_with (first | ((with_reducible refine gate_callee (f:=110) rfl ?_);refine goesL_ (some 62) rfl rfl Tryz.func110 (by kernel_rfl) rfl #[.slice Ao30 x7_1.length co30] rfl (by (try simp only [List.map_toArray,List.map_cons,List.map_nil]);first | done | rfl | (simp only [List.length_drop,List.length_take];rfl)) ?_;(refine (ca_sum.calls k1 _ _ x7_1 t190 _ ?side1 ?side2 A29.out).mono ?_);(case side1=>repeat (first | exact (Kd.R_reads' HO_7.out).2.2 | (with_reducible refine Kd.C_alloc ?_ _) | (with_reducible refine Kd.C_drewN ?_ _) | (with_reducible refine Kd.C_drew ?_)));(case side2=>exact (Kd.R_reads' HO_7.out).2.1);rintro e w' ⟨rfl,⟨nd,rfl⟩⟩;refine ⟨_,rfl,?_⟩))
    go_ret2
    exact ⟨_,by first | rfl | (simp [errW_none,errW_some]<;>rfl) | (simp only [← hji9];first | rfl | (simp [errW_none,errW_some]<;>rfl)) | (simp [*,errW_none,errW_some]<;>rfl),by (with_reducible repeat (first | apply Kd.R_alloc | apply Kd.R_drewN | apply Kd.R_drew));exact HO_7.out,pw_below_drewN HB.out _⟩
   rw [if_pos c20] at H
   have c20b0 : decide (x35_1 < ((rd_L3 l0_5 (ji9)).length : Int)) = true:=decide_eq_true c20
   clear c20
   by_cases c21 : 0≤x35_1
   case neg =>
    rw [if_neg c21] at H
    exact absurd H (by simp)
   rw [if_pos c21] at H
   have c21b0 : decide (0≤x35_1) = true:=decide_eq_true c21
   clear c21
   by_cases c22 : x35_1 < ((rd_L3 l0_5 (ji9)).length : Int)
   case neg =>
    rw [if_neg c22] at H
    exact absurd H (by simp)
   rw [if_pos c22] at H
   have c22b0 : decide (x35_1 < ((rd_L3 l0_5 (ji9)).length : Int)) = true:=decide_eq_true c22
   clear c22
   by_cases c23 : x35_1 < (x7_1.length : Int)
   case neg =>
    rw [if_neg c23] at H
    exact absurd H (by simp)
   rw [if_pos c23] at H
   have c23b0 : decide (x35_1 < (x7_1.length : Int)) = true:=decide_eq_true c23
   clear c23
   obtain ⟨ji24,hji24⟩ : ∃ j_ : Int,(mn x8_1 (wrap64 ((rd (rd_L3 l0_5 (ji9)) x35_1) - (rd x7_1 x35_1)))) = j_:=⟨_,rfl⟩
   replace H : (gf_shares.l0 k1 a1 (x7_1.set (x35_1 : Int).toNat (wrap64 ((rd x7_1 x35_1) + (ji24)))) (wrap64 (x8_1 - (ji24))) (rd_L3 l0_5 (ji9)) ((rd_L3 l0_5 (ji9)).length : Int) (wrap64 (x35_1 + 1))) = some (r1,r2):=by first | (rw [hji24] at H;exact H) | (simp only [hji24] at H ⊢;exact H)
   have hji24_ : (if (wrap64 ((rd (rd_L3 l0_5 (ji9)) x35_1) - (rd x7_1 x35_1))) < x8_1 then (wrap64 ((rd (rd_L3 l0_5 (ji9)) x35_1) - (rd x7_1 x35_1))) else x8_1) = ji24:=hji24
   obtain ⟨y189,hy189⟩ : ∃ y_ : List Int,y_ = (x7_1.set (x35_1 : Int).toNat (wrap64 ((rd x7_1 x35_1) + (ji24)))):=⟨_,rfl⟩
   replace H : (gf_shares.l0 k1 a1 y189 (wrap64 (x8_1 - (ji24))) (rd_L3 l0_5 (ji9)) ((rd_L3 l0_5 (ji9)).length : Int) (wrap64 (x35_1 + 1))) = some (r1,r2):=by first | (rw [hy189];with_reducible exact H) | (have H2_:=(Option.bind_some _ _).symm.trans H;rw [hy189];with_reducible exact H2_) | (have H2_:=(Option.bind_some _ _).symm.trans H;with_reducible exact H2_) | with_reducible exact H | (rw [hy189];exact H) | exact H
   have Ny189:=am hy189
   clear hy189
   replace H':=am H
   have p186 : 0≤(x35_1 : Int):=of_decide_eq_true (by assumption)
   have q186 : x35_1 < ((rd_L3 l0_5 (ji9)).length : Int):=of_decide_eq_true (by assumption)
   obtain ⟨ad186,e186,hx186_0⟩:=Kd.at_int HR185_0.out x35_1 p186 q186
   cases e186
   replace hx186_0:=(HB.out.cell (wbl hx186_0)).trans hx186_0
   replace p186:=eq_true p186
   replace q186:=eq_true q186
   obtain ⟨Ao26,co26,eo26⟩:=Kd.R_slice HO_7.out
   subst eo26
   have p187 : 0≤(x35_1 : Int):=of_decide_eq_true (by assumption)
   have q187 : x35_1 < (x7_1.length : Int):=of_decide_eq_true (by assumption)
   obtain ⟨ad187,e187,hx187_0⟩:=Kd.at_int (Kd.R_reads' HO_7.out).2.2 x35_1 p187 q187
   cases e187
   replace p187:=eq_true p187
   replace q187:=eq_true q187
   have p188 : 0≤(x35_1 : Int):=of_decide_eq_true (by assumption)
   have q188 : x35_1 < (x7_1.length : Int):=of_decide_eq_true (by assumption)
   obtain ⟨ad188,e188,hx188_0⟩:=Kd.at_int (Kd.R_reads' HO_7.out).2.2 x35_1 p188 q188
   obtain rfl : ad187 = ad188:=(by injection e188)
   replace p188:=eq_true p188
   replace q188:=eq_true q188
   have p25 : 0≤(x35_1 : Int):=of_decide_eq_true (by assumption)
   have q25 : (x35_1 : Int) < ((x7_1.length : Int) : Int):=of_decide_eq_true (by assumption)
   obtain ⟨go25,co25,eo25,gb25,gl25,cl25,HG25⟩:=Kd.R_form HO_7.out (by omega)
   (first | cases eo25 | (injection eo25 with ea_ en_ ec_;(first | subst ea_ | (injection ea_ with ea_;subst ea_));subst ec_;clear en_))
   have GB25:=am gb25
   have GG25:=am HG25
   clear gb25 gl25 HG25
   (first | simp only [add_plain] at hx187_0 | skip)
   (first | simp only [add_plain] at hx188_0 | skip)
   obtain ⟨hx25_0,hf25_0⟩:=Kd.R_celln 0 HO_7.out (x35_1 : Int) p25 q25
   replace p25:=eq_true p25
   replace q25:=eq_true q25
   have HP27:=Kd.R_putg HO_7.out (x35_1 : Int) (wrap64 ((rd x7_1 x35_1) + (ji24)))
   go_wp2_with (first | ((with_reducible refine gate_store (t:=3) (p:=54) rfl ?_);refine store_event (t:=3) (p:=54) (v:=?vo_w28) (w1:=(wr.setCell ⟨go25,(x35_1 : Int).toNat,none⟩ (.int .i64 (wrap64 ((rd x7_1 x35_1) + (ji24)))))) ?hg ?ho ?hn ?hr ?_;(case ho=>rfl);(case hg=>rfl);(case hn=>rfl);(case hr=>go_simp;try rfl);intro w28 hw;have hg : wr.grownBy w28 (some go25):=(by rw [hw];exact HP27.2);have hp_ : Kd.R (Kd.int .i64) 3 w28 w.heap.size (fun _=>True) (.slice (some ⟨go25,0,none⟩) x7_1.length co26) y189:=(by rw [hw,Ny189.out];exact HP27.1);clear HP27;have n0_:=am (hp_);have n1_:=am (blk_grown (g:=gb178) (o:=.cells #[.slice A0_0 l0_0.length c0_0,.int .i64 a0_1,.slice A0_2 l0_2.length c0_2,.int .i64 a0_3,.int .i64 a0_4,.slice (some ad180) l0_5.length c0_5] 110 (0,0)) BK178.out hg (Kd.R_ne HO_7.out BK178.out (by decide)));have n2_:=am ((by rw [hw];exact below_set (HB.out) GB25.out : Below w.heap.size w w28));clear HO_7;clear BK178;clear HB;have HO_7:=n0_;have BK178:=n1_;have HB:=n2_;clear n0_ n1_ n2_;clear hg hw hp_))
   go_roundg k1
   case measure=>have:=HK1.out;omega
   case rel=>exact ⟨(y189),(wrap64 (x8_1 - (ji24))),(wrap64 (x35_1 + 1)),(by first | rfl | (simp;done) | (simp only [← hji24]<;>(first | rfl | simp)) | (simp [*];done)),(by first | rfl | (simp;done) | (simp [*];done)),H',⟨by have:=HK1.out;omega⟩,⟨by (with_reducible repeat (first | apply Kd.R_alloc | apply Kd.R_drewN | apply Kd.R_drew));exact HO_7.out⟩,⟨BK178.out⟩,⟨HB.out⟩⟩
end
end Go.Proofs.YtnnmnhpeblhiiaaGreatDoor.C

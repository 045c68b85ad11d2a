/- A part of the proof: the walks of the functions that it reaches. TIGHT. -/
import Derived.Test.YtnnmnhpeblhiiaaGreatDoorMQ9
import Derived.Test.YtnnmnhpeblhiiaaGreatDoorMQ5
set_option linter.unusedVariables false
set_option linter.unusedSimpArgs false
namespace Go.Proofs.YtnnmnhpeblhiiaaGreatDoor.C
open Go.RowKit Go.Proofs.YtnnmnhpeblhiiaaGreatDoorW.PrintWords Go.Proofs.YtnnmnhpeblhiiaaGreatDoorW.PrintLast Go.Proofs.YtnnmnhpeblhiiaaGreatDoorW.PrintMore
set_option linter.unusedVariables false
set_option linter.unusedSimpArgs false
set_option maxHeartbeats 16000000
set_option maxRecDepth 100000
section
attribute [local go_sem] max2_int min2_int max_two min_two
def q1_Split.l0 : Nat→ByteArray→Int→List ByteArray→Int→Int→Option (List ByteArray)
 | 0,_,_,_,_,_=>none
 | k + 1,x0,x1,x5,x6,x7=>if x7 < (x0.size : Int) then (if 0≤x7 then (if (bt x0 x7) = x1 then (if 0≤x6 then (if x6≤x7 then (if x7≤(x0.size : Int) then (if x5.length < 8796093022208 then (q1_Split.l0 k x0 x1 (x5 ++ [x0.extract (x6 : Int).toNat (x7 : Int).toNat]) (wrap64 (x7 + 1)) (wrap64 (x7 + 1))) else (none)) else (none)) else (none)) else (none)) else (q1_Split.l0 k x0 x1 x5 x6 (wrap64 (x7 + 1)))) else (none)) else (if 0≤x6 then (if x6≤(x0.size : Int) then (if x5.length < 8796093022208 then (some (x5 ++ [x0.extract (x6 : Int).toNat x0.size])) else (none)) else (none)) else (none))
def q1_Split.f (k : Nat) (a0 : ByteArray) (a1 : Int) : Option (List ByteArray):=q1_Split.l0 k a0 a1 ([] : List ByteArray) 0 0
theorem q1_Split.calls (k : Nat) (a0 : ByteArray) (a1 : Int) (r : List ByteArray) (w : World) (h : q1_Split.f k a0 a1 = some r) :
 Calls Tryz.prog 96 #[.string a0,.int .u8 a1] w fun e w'=>∃ v0_ : Value,e = .returned (v0_)∧Kd.R Kd.string 9 w' w.heap.size (fun _=>True) v0_ r∧Below w.heap.size w w':=by
 have HB:=am (Below.refl w.heap.size w)
 have H : (q1_Split.l0 k a0 a1 ([] : List ByteArray) 0 0) = some r:=h
 clear h
 replace H':=am H
 go_enter Tryz.func96,Tryz.ntmps96
 go_wp2
 go_loopg [5,6,7] k (fun kq v5 v6 v7 w'=>∃ (x5_1 : List ByteArray) (x6_1 : Int) (x7_1 : Int),v6 = .int .i64 x6_1∧v7 = .int .i64 x7_1∧Aside0 (q1_Split.l0 kq a0 a1 x5_1 x6_1 x7_1 = some r)∧Aside0 (kq≤k)∧Aside0 (Kd.R Kd.string 9 w' w.heap.size (fun _=>True) v5 x5_1)∧Aside0 (Below w.heap.size w w'))
 case atStart=>exact ⟨(([] : List ByteArray)),(0),(0),(by first | rfl | (simp;done) | (simp [*];done)),(by first | rfl | (simp;done) | (simp [*];done)),H',⟨Nat.le_refl _⟩,⟨by first | exact Kd.R_nil _ _ _ _ _ | exact Kd.N_nil _ _ _ _ _ | exact Kd.V_nil _ _ _ _ _ | exact Kd.Q_nil _ _ _ _ _ | exact Kd.S_nil _ _ _ _ _⟩,⟨HB.out⟩⟩
 case round =>
  clear H'
  obtain ⟨x5_1,x6_1,x7_1,rfl,rfl,HA,HK1,HO_5,HB⟩:=hrel
  cases gk with
  | zero=>exact absurd HA.out (by simp [q1_Split.l0])
  | succ k1 =>
   have H:=HA.out
   clear HA
   simp only [q1_Split.l0] at H
   by_cases c3 : x7_1 < (a0.size : Int)
   case neg =>
    rw [if_neg c3] at H
    have c3b0 : decide (x7_1 < (a0.size : Int)) = false:=decide_eq_false c3
    clear c3
    by_cases c12 : 0≤x6_1
    case neg =>
     rw [if_neg c12] at H
     exact absurd H (by simp)
    rw [if_pos c12] at H
    have c12b0:=eq_true c12
    have c12b1 : decide (0≤x6_1) = true:=decide_eq_true c12
    clear c12
    by_cases c13 : x6_1≤(a0.size : Int)
    case neg =>
     rw [if_neg c13] at H
     exact absurd H (by simp)
    rw [if_pos c13] at H
    have c13b0:=eq_true c13
    have c13b1 : decide (x6_1≤(a0.size : Int)) = true:=decide_eq_true c13
    clear c13
    by_cases c14 : x5_1.length < 8796093022208
    case neg =>
     rw [if_neg c14] at H
     exact absurd H (by simp)
    rw [if_pos c14] at H
    have LMc14:=am c14
    clear c14
    obtain ⟨y994,hy994⟩ : ∃ y_ : List ByteArray,y_ = (x5_1 ++ [a0.extract (x6_1 : Int).toNat a0.size]):=⟨_,rfl⟩
    replace H : (some y994) = some r:=by first | (rw [hy994];with_reducible exact H) | (have H2_:=(Option.bind_some _ _).symm.trans H;rw [hy994];with_reducible exact H2_) | (have H2_:=(Option.bind_some _ _).symm.trans H;with_reducible exact H2_) | with_reducible exact H | (rw [hy994];exact H) | exact H
    have Ny994:=am hy994
    clear hy994
    obtain rfl:=Option.some.inj H
    go_wp2_with (first | ((with_reducible refine gate_builtin (b:=.append) (xs:=#[.tmp 28,.tmp 32]) rfl ?_);at_builtin;refine Kd.R_append Kd.string (w0:=w) w.heap.size rfl (.tmp 28) (.tmp 32) 130 9 (.string ⟨#[]⟩) 16 rfl Tryz.underlying130 info9 rfl (by decide) (by omega) u5 x5_1 (a0.extract (x6_1 : Int).toNat a0.size) [.string (a0.extract (x6_1 : Int).toNat a0.size)] (fun _=>True) (fun _=>False) rfl rfl ?aP (fun _ hk=>hk.elim) ?aF ?aO ?aB ?aS ?aL ?_;(case aP=>exact rfl);(case aB=>exact (HB.out));(case aF=>exact (fun _ _=>trivial));(case aO=>exact HO_5.out);(case aS=>exact (below_size (HB.out)));(case aL=>have:=LMc14.out;omega);intro v995 w15 ho hb hg hat;rw [← Ny994.out] at ho;have n0_:=am (hb);have n1_:=am (ho);clear HB;clear HO_5;have HB:=n0_;have HO996:=n1_;clear n0_ n1_;clear ho hb hg hat))
    go_ret
    exact ⟨_,by first | rfl | (simp [*]<;>rfl),by (with_reducible repeat (first | apply Kd.R_alloc | apply Kd.R_drewN | apply Kd.R_drew));exact HO996.out,HB.out⟩
   rw [if_pos c3] at H
   have c3b0 : decide (x7_1 < (a0.size : Int)) = true:=decide_eq_true c3
   clear c3
   by_cases c4 : 0≤x7_1
   case neg =>
    rw [if_neg c4] at H
    exact absurd H (by simp)
   rw [if_pos c4] at H
   have c4b0 : decide (0≤x7_1) = true:=decide_eq_true c4
   clear c4
   by_cases c6 : (bt a0 x7_1) = a1
   case neg =>
    rw [if_neg c6] at H
    have c6b0 : ((bt a0 x7_1) == a1) = false:=beq_eq_false_iff_ne.mpr c6
    have c6b1 : ((bt a0 x7_1) != a1) = true:=bne_iff_ne.mpr c6
    replace H':=am H
    have p5 : 0≤(x7_1 : Int):=of_decide_eq_true (by assumption)
    have q5 : x7_1 < (a0.size : Int):=of_decide_eq_true (by assumption)
    have hx5:=bt_at a0 x7_1
    replace p5:=eq_true p5
    replace q5:=eq_true q5
    go_wp2
    go_roundg k1
    case measure=>have:=HK1.out;omega
    case rel=>exact ⟨(x5_1),(x6_1),(wrap64 (x7_1 + 1)),(by first | rfl | (simp;done) | (simp [*];done)),(by first | rfl | (simp;done) | (simp [*];done)),H',⟨by have:=HK1.out;omega⟩,⟨by (with_reducible repeat (first | apply Kd.R_alloc | apply Kd.R_drewN | apply Kd.R_drew));exact HO_5.out⟩,⟨HB.out⟩⟩
   rw [if_pos c6] at H
   have c6b0 : ((bt a0 x7_1) == a1) = true:=beq_iff_eq.mpr c6
   have c6b1 : ((bt a0 x7_1) != a1) = false:=bne_eq_false_iff_eq.mpr c6
   clear c6
   by_cases c7 : 0≤x6_1
   case neg =>
    rw [if_neg c7] at H
    exact absurd H (by simp)
   rw [if_pos c7] at H
   have c7b0:=eq_true c7
   have c7b1 : decide (0≤x6_1) = true:=decide_eq_true c7
   clear c7
   by_cases c8 : x6_1≤x7_1
   case neg =>
    rw [if_neg c8] at H
    exact absurd H (by simp)
   rw [if_pos c8] at H
   have c8b0:=eq_true c8
   have c8b1 : decide (x6_1≤x7_1) = true:=decide_eq_true c8
   clear c8
   by_cases c9 : x7_1≤(a0.size : Int)
   case neg =>
    rw [if_neg c9] at H
    exact absurd H (by simp)
   rw [if_pos c9] at H
   have c9b0:=eq_true c9
   have c9b1 : decide (x7_1≤(a0.size : Int)) = true:=decide_eq_true c9
   clear c9
   by_cases c10 : x5_1.length < 8796093022208
   case neg =>
    rw [if_neg c10] at H
    exact absurd H (by simp)
   rw [if_pos c10] at H
   have LMc10:=am c10
   clear c10
   obtain ⟨y991,hy991⟩ : ∃ y_ : List ByteArray,y_ = (x5_1 ++ [a0.extract (x6_1 : Int).toNat (x7_1 : Int).toNat]):=⟨_,rfl⟩
   replace H : (q1_Split.l0 k1 a0 a1 y991 (wrap64 (x7_1 + 1)) (wrap64 (x7_1 + 1))) = some r:=by first | (rw [hy991];with_reducible exact H) | (have H2_:=(Option.bind_some _ _).symm.trans H;rw [hy991];with_reducible exact H2_) | (have H2_:=(Option.bind_some _ _).symm.trans H;with_reducible exact H2_) | with_reducible exact H | (rw [hy991];exact H) | exact H
   have Ny991:=am hy991
   clear hy991
   replace H':=am H
   have p5 : 0≤(x7_1 : Int):=of_decide_eq_true (by assumption)
   have q5 : x7_1 < (a0.size : Int):=of_decide_eq_true (by assumption)
   have hx5:=bt_at a0 x7_1
   replace p5:=eq_true p5
   replace q5:=eq_true q5
   go_wp2_with (first | ((with_reducible refine gate_builtin (b:=.append) (xs:=#[.tmp 19,.tmp 24]) rfl ?_);at_builtin;refine Kd.R_append Kd.string (w0:=w) w.heap.size rfl (.tmp 19) (.tmp 24) 130 9 (.string ⟨#[]⟩) 16 rfl Tryz.underlying130 info9 rfl (by decide) (by omega) u5 x5_1 (a0.extract (x6_1 : Int).toNat (x7_1 : Int).toNat) [.string (a0.extract (x6_1 : Int).toNat (x7_1 : Int).toNat)] (fun _=>True) (fun _=>False) rfl rfl ?aP (fun _ hk=>hk.elim) ?aF ?aO ?aB ?aS ?aL ?_;(case aP=>exact rfl);(case aB=>exact (HB.out));(case aF=>exact (fun _ _=>trivial));(case aO=>exact HO_5.out);(case aS=>exact (below_size (HB.out)));(case aL=>have:=LMc10.out;omega);intro v992 w11 ho hb hg hat;rw [← Ny991.out] at ho;have n0_:=am (hb);have n1_:=am (ho);clear HB;clear HO_5;have HB:=n0_;have HO993:=n1_;clear n0_ n1_;clear ho hb hg hat))
   go_roundg k1
   case measure=>have:=HK1.out;omega
   case rel=>exact ⟨(y991),(wrap64 (x7_1 + 1)),(wrap64 (x7_1 + 1)),(by first | rfl | (simp;done) | (simp [*];done)),(by first | rfl | (simp;done) | (simp [*];done)),H',⟨by have:=HK1.out;omega⟩,⟨by (with_reducible repeat (first | apply Kd.R_alloc | apply Kd.R_drewN | apply Kd.R_drew));exact HO993.out⟩,⟨HB.out⟩⟩
mutual
def q1_Number.j0 : Nat→ByteArray→Int→ByteArray→Bool→Option (Int × Bool)
 | 0,_,_,_,_=>none
 | k + 1,x0,x1,x6,x17=>if x17 = true then (if 1≤(x0.size : Int) then (q1_Number.j1 k x0 x1 (x0.extract 1 x0.size)) else (none)) else (q1_Number.j1 k x0 x1 x6)
def q1_Number.j1 : Nat→ByteArray→Int→ByteArray→Option (Int × Bool)
 | 0,_,_,_=>none
 | k + 1,x0,x1,x6=>if (x6.size : Int) = 0 then (q1_Number.j2 k x0 x6 true) else (q1_Number.j2 k x0 x6 (decide ((x6.size : Int) > x1)))
def q1_Number.j2 : Nat→ByteArray→ByteArray→Bool→Option (Int × Bool)
 | 0,_,_,_=>none
 | k + 1,x0,x6,x28=>if x28 = true then (some (0,false)) else (q1_Number.l0 k x0 x6 0 0)
def q1_Number.l0 : Nat→ByteArray→ByteArray→Int→Int→Option (Int × Bool)
 | 0,_,_,_,_=>none
 | k + 1,x0,x6,x7,x8=>if x8 < (x6.size : Int) then (if 0≤x8 then (if (bt x6 x8) < 48 then (some (0,false)) else (if (bt x6 x8) > 57 then (some (0,false)) else (q1_Number.l0 k x0 x6 (wrap64 ((wrap64 (10 * x7)) + (((bt x6 x8) - 48) % 256))) (wrap64 (x8 + 1))))) else (none)) else (if (x6.size : Int) < (x0.size : Int) then ((q1_Decimal.f k (wrap64 (-x7))).bind fun t997=>(some (wrap64 (-x7),(t997.toList == x0.toList)))) else ((q1_Decimal.f k x7).bind fun t998=>(some (x7,(t998.toList == x0.toList)))))
end
def q1_Number.f (k : Nat) (a0 : ByteArray) (a1 : Int) : Option (Int × Bool):=if (a0.size : Int) > 0 then (if 0 < (a0.size : Int) then (q1_Number.j0 k a0 a1 a0 ((bt a0 0) == 45)) else (none)) else (q1_Number.j0 k a0 a1 a0 false)
theorem q1_Number.calls (k : Nat) (a0 : ByteArray) (a1 : Int) (r1 : Int) (r2 : Bool) (w : World) (h : q1_Number.f k a0 a1 = some (r1,r2)) :
 Calls Tryz.prog 126 #[.string a0,.int .i64 a1] w fun e w'=>e = .returned (.tuple #[.int .i64 r1,.bool r2])∧Below w.heap.size w w':=by
 have HB:=am (Below.refl w.heap.size w)
 have H : (if (a0.size : Int) > 0 then (if 0 < (a0.size : Int) then (q1_Number.j0 k a0 a1 a0 ((bt a0 0) == 45)) else (none)) else (q1_Number.j0 k a0 a1 a0 false)) = some (r1,r2):=h
 clear h
 have HC3:=am H
 clear H
 go_enter Tryz.func126,Tryz.ntmps126
 go_upto_region 2 with (fail)
 go_cut [17] (fun v17 wc=>∃ (kq : Nat) (x17_2 : Bool),v17 = .bool x17_2∧Aside0 (q1_Number.j0 kq a0 a1 a0 x17_2 = some (r1,r2))∧Aside0 (kq≤k)∧Aside0 (Below w.heap.size w wc))
 case first =>
  have H:=HC3.out
  clear HC3
  by_cases c4 : (a0.size : Int) > 0
  case neg =>
   rw [if_neg c4] at H
   have c4b0 : decide (0 < (a0.size : Int)) = false:=decide_eq_false c4
   have c4b1 : decide (0 < a0.size) = false:=decide_eq_false (by omega)
   clear c4
   (first | rw [c4b0] | (simp only [i64_w,i32_w];rw [c4b0]) | skip)
   replace H':=am H
   go_wp2
   go_meet
   case rel=>exact ⟨_,(false),(by first | rfl | (simp;done) | (simp [*];done)),H',⟨by first | omega | exact Nat.le_refl _⟩,⟨HB.out⟩⟩
  rw [if_pos c4] at H
  have c4b0 : decide (0 < (a0.size : Int)) = true:=decide_eq_true c4
  have c4b1 : decide (0 < a0.size) = true:=decide_eq_true (by omega)
  clear c4
  (first | rw [c4b0] | (simp only [i64_w,i32_w];rw [c4b0]) | skip)
  by_cases c5 : 0 < (a0.size : Int)
  case neg =>
   rw [if_neg c5] at H
   exact absurd H (by simp)
  rw [if_pos c5] at H
  have c5b0 : decide (0 < (a0.size : Int)) = true:=decide_eq_true c5
  have c5b1 : decide (0 < a0.size) = true:=decide_eq_true (by omega)
  clear c5
  replace H':=am H
  have p6 : 0≤(0 : Int):=(by omega)
  have q6 : 0 < a0.size:=(by have : (0 : Int) < (a0.size : Int):=of_decide_eq_true (by assumption);omega)
  have hx6 : ∀ h : 0 < a0.size,((a0[0]'h).toNat : Int) = bt a0 0:=bt_at a0 0
  clear p6
  have qi6 : (0 < (a0.size : Int)) = True:=eq_true (of_decide_eq_true (by assumption))
  replace q6:=eq_true q6
  go_wp2
  go_meet
  case rel=>exact ⟨_,(((bt a0 0) == 45)),(by first | rfl | (simp;done) | (simp [*];done)),H',⟨by first | omega | exact Nat.le_refl _⟩,⟨HB.out⟩⟩
 case rest =>
  clear HC3
  try clear qi6
  obtain ⟨kq,x17_2,rfl,HA,HJ2,HB⟩:=hcut
  cases kq with
  | zero=>exact absurd HA.out (by simp [q1_Number.j0])
  | succ kj2 =>
   have H:=HA.out
   clear HA
   simp only [q1_Number.j0] at H
   have HC7:=am H
   clear H
   go_upto_if 17 with (fail)
   go_cut [6] (fun v6 wc=>∃ (kq : Nat) (x6_6 : ByteArray),v6 = .string x6_6∧Aside0 (q1_Number.j1 kq a0 a1 x6_6 = some (r1,r2))∧Aside0 (kq≤kj2)∧Aside0 (Below w.heap.size w wc))
   case first =>
    have H:=HC7.out
    clear HC7
    by_cases c8 : x17_2 = true
    case neg =>
     replace c8:=Bool.eq_false_iff.mpr c8
     subst c8
     replace H : (q1_Number.j1 kj2 a0 a1 a0) = some (r1,r2):=by rw [if_neg (show ¬ (false = true) by decide)] at H;exact H
     replace H':=am H
     go_wp2
     go_meet
     case rel=>exact ⟨_,(a0),(by first | rfl | (simp;done) | (simp [*];done)),H',⟨by have:=HJ2.out;first | omega | exact Nat.le_refl _⟩,⟨HB.out⟩⟩
    subst c8
    replace H : (if 1≤(a0.size : Int) then (q1_Number.j1 kj2 a0 a1 (a0.extract 1 a0.size)) else (none)) = some (r1,r2):=by rw [if_pos rfl] at H;exact H
    by_cases c9 : 1≤(a0.size : Int)
    case neg =>
     rw [if_neg c9] at H
     exact absurd H (by simp)
    rw [if_pos c9] at H
    have c9b0:=eq_true c9
    have c9b1 : decide (1≤(a0.size : Int)) = true:=decide_eq_true c9
    clear c9
    replace H':=am H
    go_wp2
    go_meet
    case rel=>exact ⟨_,(a0.extract 1 a0.size),(by first | rfl | (simp;done) | (simp [*];done)),H',⟨by have:=HJ2.out;first | omega | exact Nat.le_refl _⟩,⟨HB.out⟩⟩
   case rest =>
    clear HC7
    try clear qi6
    obtain ⟨kq,x6_6,rfl,HA,HJ6,HB⟩:=hcut
    cases kq with
    | zero=>exact absurd HA.out (by simp [q1_Number.j1])
    | succ kj6 =>
     have H:=HA.out
     clear HA
     simp only [q1_Number.j1] at H
     have HC10:=am H
     clear H
     go_upto_region 4 with (fail)
     go_cut [28] (fun v28 wc=>∃ (kq : Nat) (x28_9 : Bool),v28 = .bool x28_9∧Aside0 (q1_Number.j2 kq a0 x6_6 x28_9 = some (r1,r2))∧Aside0 (kq≤kj6)∧Aside0 (Below w.heap.size w wc))
     case first =>
      have H:=HC10.out
      clear HC10
      by_cases c11 : (x6_6.size : Int) = 0
      case neg =>
       rw [if_neg c11] at H
       have c11b0 : ((x6_6.size : Int) == 0) = false:=beq_eq_false_iff_ne.mpr c11
       have c11b1 : ((x6_6.size : Int) != 0) = true:=bne_iff_ne.mpr c11
       (first | rw [c11b0] | (simp only [i64_w,i32_w];rw [c11b0]) | skip)
       replace H':=am H
       go_wp2
       go_meet
       case rel=>exact ⟨_,(decide ((x6_6.size : Int) > a1)),(by first | rfl | (simp;done) | (simp [*];done)),H',⟨by have:=HJ2.out;have:=HJ6.out;first | omega | exact Nat.le_refl _⟩,⟨HB.out⟩⟩
      rw [if_pos c11] at H
      have c11b0 : ((x6_6.size : Int) == 0) = true:=beq_iff_eq.mpr c11
      have c11b1 : ((x6_6.size : Int) != 0) = false:=bne_eq_false_iff_eq.mpr c11
      clear c11
      (first | rw [c11b0] | (simp only [i64_w,i32_w];rw [c11b0]) | skip)
      replace H':=am H
      go_wp2
      go_meet
      case rel=>exact ⟨_,(true),(by first | rfl | (simp;done) | (simp [*];done)),H',⟨by have:=HJ2.out;have:=HJ6.out;first | omega | exact Nat.le_refl _⟩,⟨HB.out⟩⟩
     case rest =>
      clear HC10
      try clear qi6
      obtain ⟨kq,x28_9,rfl,HA,HJ9,HB⟩:=hcut
      cases kq with
      | zero=>exact absurd HA.out (by simp [q1_Number.j2])
      | succ kj9 =>
       have H:=HA.out
       clear HA
       simp only [q1_Number.j2] at H
       by_cases c12 : x28_9 = true
       ·subst c12
        replace H : (some (0,false)) = some (r1,r2):=by rw [if_pos rfl] at H;exact H
        simp only [Option.some.injEq,Prod.mk.injEq] at H
        obtain ⟨rfl,rfl⟩:=H
        go_wp2
        go_ret2
        exact ⟨by first | rfl | (simp [*]<;>rfl),HB.out⟩
       ·replace c12:=Bool.eq_false_iff.mpr c12
        subst c12
        replace H : (q1_Number.l0 kj9 a0 x6_6 0 0) = some (r1,r2):=by rw [if_neg (show ¬ (false = true) by decide)] at H;exact H
        replace H':=am H
        go_wp2
        go_loopg [7,8] kj9 (fun kq v7 v8 w'=>∃ (x7_4 : Int) (x8_4 : Int),v7 = .int .i64 x7_4∧v8 = .int .i64 x8_4∧Aside0 (q1_Number.l0 kq a0 x6_6 x7_4 x8_4 = some (r1,r2))∧Aside0 (kq≤kj9)∧Aside0 (Below w.heap.size w w'))
        case atStart=>exact ⟨(0),(0),(by first | rfl | (simp;done) | (simp [*];done)),(by first | rfl | (simp;done) | (simp [*];done)),H',⟨Nat.le_refl _⟩,⟨HB.out⟩⟩
        case round =>
         clear H'
         try clear qi6
         obtain ⟨x7_4,x8_4,rfl,rfl,HA,HK4,HB⟩:=hrel
         cases gk with
         | zero=>exact absurd HA.out (by simp [q1_Number.l0])
         | succ k4 =>
          have H:=HA.out
          clear HA
          simp only [q1_Number.l0] at H
          by_cases c13 : x8_4 < (x6_6.size : Int)
          case neg =>
           rw [if_neg c13] at H
           have c13b0 : decide (x8_4 < (x6_6.size : Int)) = false:=decide_eq_false c13
           clear c13
           by_cases c20 : (x6_6.size : Int) < (a0.size : Int)
           ·rw [if_pos c20] at H
            have c20b0 : decide ((x6_6.size : Int) < (a0.size : Int)) = true:=decide_eq_true c20
            have c20b1 : decide (x6_6.size < a0.size) = true:=decide_eq_true (Int.ofNat_lt.mp c20)
            clear c20
            replace H:=obm H
            obtain ⟨t997,A210,H⟩:=H
            replace H : (some (wrap64 (-x7_4),(t997.toList == a0.toList))) = some (r1,r2):=H
            have A21:=am A210
            clear A210
            simp only [Option.some.injEq,Prod.mk.injEq] at H
            obtain ⟨rfl,rfl⟩:=H
            go_wp2_with (first | ((with_reducible refine gate_callee (f:=125) rfl ?_);refine goesL_ (some 62) rfl rfl Tryz.func125 (by kernel_rfl) rfl #[.int .i64 (wrap64 (-x7_4))] rfl (by (try simp only [List.map_toArray,List.map_cons,List.map_nil]);first | done | rfl | (simp only [List.length_drop,List.length_take];rfl)) ?_;(with_reducible refine (q1_Decimal.calls k4 (wrap64 (-x7_4)) t997 _ A21.out).mono ?_);rintro e w22 ⟨rfl,hb⟩;refine ⟨_,rfl,?_⟩;replace HB:=am (below_step (HB.out) hb);(try clear hb);(try clear hb2);(try clear hk);(try clear hi)))
            go_ret2
            exact ⟨by first | rfl | (simp [*]<;>rfl),HB.out⟩
           ·rw [if_neg c20] at H
            have c20b0 : decide ((x6_6.size : Int) < (a0.size : Int)) = false:=decide_eq_false c20
            have c20b1 : decide (x6_6.size < a0.size) = false:=decide_eq_false (fun h=>c20 (Int.ofNat_lt.mpr h))
            clear c20
            replace H:=obm H
            obtain ⟨t998,A230,H⟩:=H
            replace H : (some (x7_4,(t998.toList == a0.toList))) = some (r1,r2):=H
            have A23:=am A230
            clear A230
            simp only [Option.some.injEq,Prod.mk.injEq] at H
            obtain ⟨rfl,rfl⟩:=H
            go_wp2_with (first | ((with_reducible refine gate_callee (f:=125) rfl ?_);refine goesL_ (some 62) rfl rfl Tryz.func125 (by kernel_rfl) rfl #[.int .i64 x7_4] rfl (by (try simp only [List.map_toArray,List.map_cons,List.map_nil]);first | done | rfl | (simp only [List.length_drop,List.length_take];rfl)) ?_;(with_reducible refine (q1_Decimal.calls k4 x7_4 t998 _ A23.out).mono ?_);rintro e w24 ⟨rfl,hb⟩;refine ⟨_,rfl,?_⟩;replace HB:=am (below_step (HB.out) hb);(try clear hb);(try clear hb2);(try clear hk);(try clear hi)))
            go_ret2
            exact ⟨by first | rfl | (simp [*]<;>rfl),HB.out⟩
          rw [if_pos c13] at H
          have c13b0 : decide (x8_4 < (x6_6.size : Int)) = true:=decide_eq_true c13
          clear c13
          by_cases c14 : 0≤x8_4
          case neg =>
           rw [if_neg c14] at H
           exact absurd H (by simp)
          rw [if_pos c14] at H
          have c14b0 : decide (0≤x8_4) = true:=decide_eq_true c14
          clear c14
          by_cases c16 : (bt x6_6 x8_4) < 48
          ·rw [if_pos c16] at H
           have c16b0 : decide ((bt x6_6 x8_4) < 48) = true:=decide_eq_true c16
           clear c16
           simp only [Option.some.injEq,Prod.mk.injEq] at H
           obtain ⟨rfl,rfl⟩:=H
           have p15 : 0≤(x8_4 : Int):=of_decide_eq_true (by assumption)
           have q15 : x8_4 < (x6_6.size : Int):=of_decide_eq_true (by assumption)
           have hx15:=bt_at x6_6 x8_4
           replace p15:=eq_true p15
           replace q15:=eq_true q15
           go_wp2
           go_ret2
           exact ⟨by first | rfl | (simp [*]<;>rfl),HB.out⟩
          ·rw [if_neg c16] at H
           have c16b0 : decide ((bt x6_6 x8_4) < 48) = false:=decide_eq_false c16
           clear c16
           by_cases c18 : (bt x6_6 x8_4) > 57
           ·rw [if_pos c18] at H
            have c18b0 : decide (57 < (bt x6_6 x8_4)) = true:=decide_eq_true c18
            clear c18
            simp only [Option.some.injEq,Prod.mk.injEq] at H
            obtain ⟨rfl,rfl⟩:=H
            have p15 : 0≤(x8_4 : Int):=of_decide_eq_true (by assumption)
            have q15 : x8_4 < (x6_6.size : Int):=of_decide_eq_true (by assumption)
            have hx15:=bt_at x6_6 x8_4
            replace p15:=eq_true p15
            replace q15:=eq_true q15
            have p17 : 0≤(x8_4 : Int):=of_decide_eq_true (by assumption)
            have q17 : x8_4 < (x6_6.size : Int):=of_decide_eq_true (by assumption)
            have hx17:=bt_at x6_6 x8_4
            replace p17:=eq_true p17
            replace q17:=eq_true q17
            go_wp2
            go_ret2
            exact ⟨by first | rfl | (simp [*]<;>rfl),HB.out⟩
           ·rw [if_neg c18] at H
            have c18b0 : decide (57 < (bt x6_6 x8_4)) = false:=decide_eq_false c18
            clear c18
            replace H':=am H
            have p15 : 0≤(x8_4 : Int):=of_decide_eq_true (by assumption)
            have q15 : x8_4 < (x6_6.size : Int):=of_decide_eq_true (by assumption)
            have hx15:=bt_at x6_6 x8_4
            replace p15:=eq_true p15
            replace q15:=eq_true q15
            have p17 : 0≤(x8_4 : Int):=of_decide_eq_true (by assumption)
            have q17 : x8_4 < (x6_6.size : Int):=of_decide_eq_true (by assumption)
            have hx17:=bt_at x6_6 x8_4
            replace p17:=eq_true p17
            replace q17:=eq_true q17
            have p19 : 0≤(x8_4 : Int):=of_decide_eq_true (by assumption)
            have q19 : x8_4 < (x6_6.size : Int):=of_decide_eq_true (by assumption)
            have hx19:=bt_at x6_6 x8_4
            replace p19:=eq_true p19
            replace q19:=eq_true q19
            go_wp2
            go_roundg k4
            case measure=>have:=HJ2.out;have:=HJ6.out;have:=HJ9.out;have:=HK4.out;omega
            case rel=>exact ⟨(wrap64 ((wrap64 (10 * x7_4)) + (((bt x6_6 x8_4) - 48) % 256))),(wrap64 (x8_4 + 1)),(by first | rfl | (simp;done) | (simp [*];done)),(by first | rfl | (simp;done) | (simp [*];done)),H',⟨by have:=HJ2.out;have:=HJ6.out;have:=HJ9.out;have:=HK4.out;omega⟩,⟨HB.out⟩⟩
def q1_Numbers.l0 : Nat→List ByteArray→Int→List Int→Int→Option (List Int × Bool)
 | 0,_,_,_,_=>none
 | k + 1,x0,x1,x6,x7=>if x7 < (x0.length : Int) then (if 0≤x7 then ((q1_Number.f k (rdOf ByteArray.empty x0 x7) x1).bind fun bt1000=>(if bt1000.2 = true then (if x6.length < 17592186044416 then (q1_Numbers.l0 k x0 x1 (x6 ++ [bt1000.1]) (wrap64 (x7 + 1))) else (none)) else (some (([] : List Int),false)))) else (none)) else (some (x6,true))
def q1_Numbers.f (k : Nat) (l0 : List ByteArray) (a1 : Int) : Option (List Int × Bool):=q1_Numbers.l0 k l0 a1 ([] : List Int) 0
theorem q1_Numbers.calls (k : Nat) (A0 : Option Addr) (c0 : Nat) (l0 : List ByteArray) (a1 : Int) (r1 : List Int) (r2 : Bool) (w : World) (hr0 : Kd.C Kd.string w A0 l0.length l0) (hc0 : l0.length≤c0) (h : q1_Numbers.f k l0 a1 = some (r1,r2)) :
 Calls Tryz.prog 97 #[.slice A0 l0.length c0,.int .i64 a1] w fun e w'=>∃ v0_ : Value,e = .returned (.tuple #[v0_,.bool r2])∧Kd.R (Kd.int .i64) 3 w' w.heap.size (fun _=>True) v0_ r1∧Below w.heap.size w w':=by
 have HR0:=am hr0
 have HC0:=am hc0
 clear hr0 hc0
 have HB:=am (Below.refl w.heap.size w)
 have H : (q1_Numbers.l0 k l0 a1 ([] : List Int) 0) = some (r1,r2):=h
 clear h
 replace H':=am H
 go_enter Tryz.func97,Tryz.ntmps97
 go_wp2
 go_loopg [6,7] k (fun kq v6 v7 w'=>∃ (x6_1 : List Int) (x7_1 : Int),v7 = .int .i64 x7_1∧Aside0 (q1_Numbers.l0 kq l0 a1 x6_1 x7_1 = some (r1,r2))∧Aside0 (kq≤k)∧Aside0 (Kd.R (Kd.int .i64) 3 w' w.heap.size (fun _=>True) v6 x6_1)∧Aside0 (Below w.heap.size w w'))
 case atStart=>exact ⟨(([] : List Int)),(0),(by first | rfl | (simp;done) | (simp [*];done)),H',⟨Nat.le_refl _⟩,⟨by first | exact Kd.R_nil _ _ _ _ _ | exact Kd.N_nil _ _ _ _ _ | exact Kd.V_nil _ _ _ _ _ | exact Kd.Q_nil _ _ _ _ _ | exact Kd.S_nil _ _ _ _ _⟩,⟨HB.out⟩⟩
 case round =>
  clear H'
  obtain ⟨x6_1,x7_1,rfl,HA,HK1,HO_6,HB⟩:=hrel
  cases gk with
  | zero=>exact absurd HA.out (by simp [q1_Numbers.l0])
  | succ k1 =>
   have H:=HA.out
   clear HA
   simp only [q1_Numbers.l0] at H
   by_cases c3 : x7_1 < (l0.length : Int)
   case neg =>
    rw [if_neg c3] at H
    have c3b0 : decide (x7_1 < (l0.length : Int)) = false:=decide_eq_false c3
    clear c3
    simp only [Option.some.injEq,Prod.mk.injEq] at H
    obtain ⟨rfl,rfl⟩:=H
    go_wp2
    go_ret2
    exact ⟨_,by first | rfl | (simp [*]<;>rfl),by (with_reducible repeat (first | apply Kd.R_alloc | apply Kd.R_drewN | apply Kd.R_drew));exact HO_6.out,HB.out⟩
   rw [if_pos c3] at H
   have c3b0 : decide (x7_1 < (l0.length : Int)) = true:=decide_eq_true c3
   clear c3
   by_cases c4 : 0≤x7_1
   case neg =>
    rw [if_neg c4] at H
    exact absurd H (by simp)
   rw [if_pos c4] at H
   have c4b0 : decide (0≤x7_1) = true:=decide_eq_true c4
   clear c4
   replace H:=obm H
   obtain ⟨⟨t1000,t1001⟩,A50,H⟩:=H
   replace H : (if t1001 = true then (if x6_1.length < 17592186044416 then (q1_Numbers.l0 k1 l0 a1 (x6_1 ++ [t1000]) (wrap64 (x7_1 + 1))) else (none)) else (some (([] : List Int),false))) = some (r1,r2):=H
   have A5:=am A50
   clear A50
   by_cases c6 : t1001 = true
   case neg =>
    replace c6:=Bool.eq_false_iff.mpr c6
    subst c6
    replace H : (some (([] : List Int),false)) = some (r1,r2):=by rw [if_neg (show ¬ (false = true) by decide)] at H;exact H
    simp only [Option.some.injEq,Prod.mk.injEq] at H
    obtain ⟨rfl,rfl⟩:=H
    have p999 : 0≤(x7_1 : Int):=of_decide_eq_true (by assumption)
    have q999 : x7_1 < (l0.length : Int):=of_decide_eq_true (by assumption)
    obtain ⟨ad999,e999,hx999_0⟩:=Kd.at_string HR0.out x7_1 p999 q999
    cases e999
    replace hx999_0:=(HB.out.cell (wbl hx999_0)).trans hx999_0
    replace p999:=eq_true p999
    replace q999:=eq_true q999
    go_wp2_with (first | ((with_reducible refine gate_callee (f:=126) rfl ?_);refine goesL_ (some 22) rfl rfl Tryz.func126 (by kernel_rfl) rfl #[.string (rdOf ByteArray.empty l0 x7_1),.int .i64 a1] rfl (by (try simp only [List.map_toArray,List.map_cons,List.map_nil]);first | done | rfl | (simp only [List.length_drop,List.length_take];rfl)) ?_;(with_reducible refine (q1_Number.calls k1 (rdOf ByteArray.empty l0 x7_1) a1 t1000 false _ A5.out).mono ?_);rintro e w10 ⟨rfl,hb⟩;refine ⟨_,rfl,?_⟩;replace HO_6:=am (Kd.R_below HO_6.out hb);replace HB:=am (below_step (HB.out) hb);(try clear hb);(try clear hb2);(try clear hk);(try clear hi)))
    go_ret2
    exact ⟨_,by first | rfl | (simp [*]<;>rfl),by first | exact Kd.R_nil _ _ _ _ _ | exact Kd.N_nil _ _ _ _ _ | exact Kd.V_nil _ _ _ _ _ | exact Kd.Q_nil _ _ _ _ _ | exact Kd.S_nil _ _ _ _ _,HB.out⟩
   subst c6
   replace H : (if x6_1.length < 17592186044416 then (q1_Numbers.l0 k1 l0 a1 (x6_1 ++ [t1000]) (wrap64 (x7_1 + 1))) else (none)) = some (r1,r2):=by rw [if_pos rfl] at H;exact H
   by_cases c7 : x6_1.length < 17592186044416
   case neg =>
    rw [if_neg c7] at H
    exact absurd H (by simp)
   rw [if_pos c7] at H
   have LMc7:=am c7
   clear c7
   obtain ⟨y1002,hy1002⟩ : ∃ y_ : List Int,y_ = (x6_1 ++ [t1000]):=⟨_,rfl⟩
   replace H : (q1_Numbers.l0 k1 l0 a1 y1002 (wrap64 (x7_1 + 1))) = some (r1,r2):=by first | (rw [hy1002];with_reducible exact H) | (have H2_:=(Option.bind_some _ _).symm.trans H;rw [hy1002];with_reducible exact H2_) | (have H2_:=(Option.bind_some _ _).symm.trans H;with_reducible exact H2_) | with_reducible exact H | (rw [hy1002];exact H) | exact H
   have Ny1002:=am hy1002
   clear hy1002
   replace H':=am H
   have p999 : 0≤(x7_1 : Int):=of_decide_eq_true (by assumption)
   have q999 : x7_1 < (l0.length : Int):=of_decide_eq_true (by assumption)
   obtain ⟨ad999,e999,hx999_0⟩:=Kd.at_string HR0.out x7_1 p999 q999
   cases e999
   replace hx999_0:=(HB.out.cell (wbl hx999_0)).trans hx999_0
   replace p999:=eq_true p999
   replace q999:=eq_true q999
   go_wp2_with (first | ((with_reducible refine gate_callee (f:=126) rfl ?_);refine goesL_ (some 22) rfl rfl Tryz.func126 (by kernel_rfl) rfl #[.string (rdOf ByteArray.empty l0 x7_1),.int .i64 a1] rfl (by (try simp only [List.map_toArray,List.map_cons,List.map_nil]);first | done | rfl | (simp only [List.length_drop,List.length_take];rfl)) ?_;(with_reducible refine (q1_Number.calls k1 (rdOf ByteArray.empty l0 x7_1) a1 t1000 true _ A5.out).mono ?_);rintro e w8 ⟨rfl,hb⟩;refine ⟨_,rfl,?_⟩;replace HO_6:=am (Kd.R_below HO_6.out hb);replace HB:=am (below_step (HB.out) hb);(try clear hb);(try clear hb2);(try clear hk);(try clear hi)) | ((with_reducible refine gate_builtin (b:=.append) (xs:=#[.tmp 27,.tmp 29]) rfl ?_);at_builtin;refine Kd.R_append (Kd.int .i64) (w0:=w) w.heap.size rfl (.tmp 27) (.tmp 29) 28 3 (.int .i64 0) 8 rfl Tryz.underlying28 info3 rfl (by decide) (by omega) u6 x6_1 t1000 [.int .i64 t1000] (fun _=>True) (fun _=>False) rfl rfl ?aP (fun _ hk=>hk.elim) ?aF ?aO ?aB ?aS ?aL ?_;(case aP=>exact rfl);(case aB=>exact (HB.out));(case aF=>exact (fun _ _=>trivial));(case aO=>exact HO_6.out);(case aS=>exact (below_size (HB.out)));(case aL=>have:=LMc7.out;omega);intro v1003 w9 ho hb hg hat;rw [← Ny1002.out] at ho;have n0_:=am (hb);have n1_:=am (ho);clear HB;clear HO_6;have HB:=n0_;have HO1004:=n1_;clear n0_ n1_;clear ho hb hg hat))
   go_roundg k1
   case measure=>have:=HK1.out;omega
   case rel=>exact ⟨(y1002),(wrap64 (x7_1 + 1)),(by first | rfl | (simp;done) | (simp [*];done)),H',⟨by have:=HK1.out;omega⟩,⟨by (with_reducible repeat (first | apply Kd.R_alloc | apply Kd.R_drewN | apply Kd.R_drew));exact HO1004.out⟩,⟨HB.out⟩⟩
mutual
def q4_Read.l0 : Nat→ByteArray→List ByteArray→Int→List (S126)→Int→List (S48)→Int→Int→Option ((List (S126)) × Int × (List (S48)) × Int × Int × Bool)
 | 0,_,_,_,_,_,_,_,_=>none
 | k + 1,x1,x6,x8,x1011000,x1011001,x1011002,x1011003,x1011004=>if x8 < (wrap64 ((x6.length : Int) - 2)) then (if 0≤x8 then (if x8 < (x6.length : Int) then ((q1_Split.f k (rdOf ByteArray.empty x6 x8) 32).bind fun t1013=>(if 1≤(t1013.length : Int) then ((q1_Numbers.f k (t1013.drop 1) 3).bind fun bt1020=>(if bt1020.2 = true then (if (bt1020.1.length : Int) = 2 then (if 0 < (bt1020.1.length : Int) then (if (rd bt1020.1 0) < 0 then (q4_Read.j1 k x1 x6 x8 bt1020.1 true x1011000 x1011001 x1011002 x1011003 x1011004) else (if 1 < (bt1020.1.length : Int) then (q4_Read.j1 k x1 x6 x8 bt1020.1 (decide ((rd bt1020.1 1) < 0)) x1011000 x1011001 x1011002 x1011003 x1011004) else (none))) else (none)) else (q4_Read.j1 k x1 x6 x8 bt1020.1 true x1011000 x1011001 x1011002 x1011003 x1011004)) else (q4_Read.j1 k x1 x6 x8 bt1020.1 true x1011000 x1011001 x1011002 x1011003 x1011004))) else (none))) else (none)) else (none)) else ((q4_Print.f k x1011000 x1011001 x1011002 x1011003 x1011004).bind fun t1011=>(if t1011.toList = x1.toList then (some (x1011000,x1011001,x1011002,x1011003,x1011004,true)) else (some (([] : List (S126)),0,([] : List (S48)),0,0,false))))
def q4_Read.j1 : Nat→ByteArray→List ByteArray→Int→List Int→Bool→List (S126)→Int→List (S48)→Int→Int→Option ((List (S126)) × Int × (List (S48)) × Int × Int × Bool)
 | 0,_,_,_,_,_,_,_,_,_,_=>none
 | k + 1,x1,x6,x8,x10,x52,x1011000,x1011001,x1011002,x1011003,x1011004=>if x52 = true then (some (([] : List (S126)),0,([] : List (S48)),0,0,false)) else (if x8 = 0 then (if 0 < (x10.length : Int) then (if 1 < (x10.length : Int) then (q4_Read.l0 k x1 x6 (wrap64 (x8 + 1)) x1011000 x1011001 x1011002 (rd x10 0) (rd x10 1)) else (none)) else (none)) else (if 0 < (x10.length : Int) then (if 1 < (x10.length : Int) then (if x1011002.length < 8796093022208 then (q4_Read.l0 k x1 x6 (wrap64 (x8 + 1)) x1011000 x1011001 (x1011002 ++ [(⟨rd x10 0,rd x10 1⟩ : S48)]) x1011003 x1011004) else (none)) else (none)) else (none)))
end
def q4_Read.f (k : Nat) (l0_0 : List (S126)) (a0_1 : Int) (a1 : ByteArray) : Option ((List (S126)) × Int × (List (S48)) × Int × Int × Bool):=(q1_Split.f k a1 10).bind fun t1007=>(q4_Read.l0 k a1 t1007 0 l0_0 a0_1 ([] : List (S48)) 0 0)
def q4_Read.T11 : Bool × List (List Nat × List Nat):=(true,[([],[]),([0],[0]),([1],[1]),([],[]),([3],[3]),([4],[4]),([0,1,2],[]),([6,2,0,1,2],[2,6]),([0,1,2,3,4,5,6,7],[]),([8,5,7,0,1,2,3,4,5,6,7],[5,8])])
def q4_Read.B11 : List Nat:=[0,1,3,0,8,24,7,71,255,511]
theorem q4_Read.tab11 : rtab .any (opsOf Tryz.f53 11) = q4_Read.T11:=by kernel_rfl
theorem q4_Read.bits11 : waitsOk q4_Read.T11.2 q4_Read.B11 = true:=by kernel_rfl
def q4_Read.T12 : Bool × List (List Nat × List Nat):=(true,[([],[]),([0],[0]),([],[]),([2],[2]),([3],[3]),([],[]),([5],[5]),([6],[6]),([4,7],[4,7]),([8],[8]),([1,9],[1,9]),([0,1,2,3,4,5,6,7,8,9,10],[]),([11,10,10,0,1,2,3,4,5,6,7,8,9,10],[10,11])])
def q4_Read.B12 : List Nat:=[0,1,0,4,12,0,32,96,252,508,1023,2047,4095]
theorem q4_Read.tab12 : rtab .any (opsOf Tryz.f53 12) = q4_Read.T12:=by kernel_rfl
theorem q4_Read.bits12 : waitsOk q4_Read.T12.2 q4_Read.B12 = true:=by kernel_rfl
theorem q4_Read.calls (k : Nat) (P0_0_ : Nat→Prop) (A0_0 : Option Addr) (c0_0 : Nat) (l0_0 : List (S126)) (a0_1 : Int) (a1 : ByteArray) (r1 : List (S126)) (r2 : Int) (r3 : List (S48)) (r4 : Int) (r5 : Int) (r6 : Bool) (w : World) (hs0_0 : Kd.V k126 126 w w.heap.size (fun k_=>P0_0_ k_) (.slice A0_0 l0_0.length c0_0) l0_0) (h : q4_Read.f k l0_0 a0_1 a1 = some (r1,r2,r3,r4,r5,r6)) :
 Calls Tryz.prog 53 #[.agg #[.slice A0_0 l0_0.length c0_0,.int .i64 a0_1],.string a1] w fun e w'=>∃ v0_ v2_ : Value,e = .returned (.tuple #[.agg #[v0_,.int .i64 r2,v2_,.int .i64 r4,.int .i64 r5],.bool r6])∧Kd.V k126 126 w' w.heap.size (fun k_=>(P0_0_ k_∨w.heap.size≤k_)∧some k_ ≠ (v2_ : Value).ownBlock) v0_ r1∧Kd.R k48 48 w' w.heap.size (fun k_=>(w.heap.size≤k_)) v2_ r3∧Below w.heap.size w w':=by
 have hu24:=Tryz.underlying24
 have hu27:=Tryz.underlying27
 have hu48:=Tryz.underlying48
 have HO0_0:=am (show Kd.V k126 126 w w.heap.size (fun k_=>(P0_0_ k_∨w.heap.size≤k_)) (.slice A0_0 l0_0.length c0_0) l0_0 from Kd.V_mono hs0_0 (fun k_ hk=>.inl hk))
 have HB:=am (Below.refl w.heap.size w)
 have H : ((q1_Split.f k a1 10).bind fun t1007=>(q4_Read.l0 k a1 t1007 0 l0_0 a0_1 ([] : List (S48)) 0 0)) = some (r1,r2,r3,r4,r5,r6):=h
 clear h
 replace H:=obm H
 obtain ⟨t1007,A30,H⟩:=H
 replace H : (q4_Read.l0 k a1 t1007 0 l0_0 a0_1 ([] : List (S48)) 0 0) = some (r1,r2,r3,r4,r5,r6):=H
 have A3:=am A30
 clear A30
 replace H':=am H
 go_enter Tryz.func53,Tryz.ntmps53
 go_wp2_with (first | ((refine gate_dst (N:=2) rfl ?_);(try (refine gate_guard (by rfl) ?_;dsimp only));refine box_event rfl (N:=2) rfl (cs:=#[.slice A0_0 l0_0.length c0_0,.int .i64 a0_1]) (t:=24) ?hr ?_;(case hr=>go_simp;try rfl);intro gb1005 hg w4 hbox hb;have BK1005:=am (hbox);have GW1005:=am (ge_new (HB.out) hg);have GE1005:=am (ge_new (HB.out) hg);replace HO0_0:=am (Kd.V_below (Kd.V_elderB HO0_0.out gb1005 (Nat.le_of_eq hg.symm)) hb);replace HB:=am (below_step (HB.out) hb);clear hb hbox hg) | ((refine gate_dst (N:=4) rfl ?_);(try (refine gate_guard (by rfl) ?_;dsimp only));refine box_event rfl (N:=4) rfl (cs:=#[.slice none 0 0,.int .i64 0,.slice none 0 0,.int .i64 0,.int .i64 0]) (t:=27) ?hr ?_;(case hr=>go_simp;try rfl);intro gb1006 hg w5 hbox hb;have BK1006:=am (hbox);have GW1006:=am (ge_new (HB.out) hg);have GE1006:=am (ge_new (HB.out) hg);have NB1005_1006:=am (ne_new BK1005.out hg);have NB1006_1005:=am (ne_new2 BK1005.out hg);replace HO0_0:=am (Kd.V_below (Kd.V_elderB HO0_0.out gb1006 (Nat.le_of_eq hg.symm)) hb);replace BK1005:=(kmv hb BK1005);replace HB:=am (below_step (HB.out) hb);clear hb hbox hg) | ((with_reducible refine gate_callee (f:=96) rfl ?_);refine goesL_ (some 13) rfl rfl Tryz.func96 (by kernel_rfl) rfl #[.string a1,.int .u8 10] rfl (by (try simp only [List.map_toArray,List.map_cons,List.map_nil]);first | done | rfl | (simp only [List.length_drop,List.length_take];rfl)) ?_;(refine (q1_Split.calls k a1 10 t1007 _ A3.out).mono ?_);rintro e w6 ⟨v1008,rfl,ho0,hb⟩;refine ⟨_,rfl,?_⟩;have HO1009:=am (Kd.R_lower (Kd.R_newM (M:=fun k_=>(w.heap.size≤k_)) ho0 (below_size (HB.out)) (fun k_ h_=>h_)) (below_size (HB.out)));replace HO0_0:=am (Kd.V_elder' HO0_0.out (Kd.R_base ho0) hb);replace BK1005:=(kmv hb BK1005);replace BK1006:=(kmv hb BK1006);replace HB:=am (below_step (HB.out) hb);(try clear hb);(try clear hb2);(try clear hk);(try clear hi);(try clear ho0);have hnb7:=NB1005_1006.out;have hnc7:=NB1006_1005.out;obtain ⟨hcz8_0,hcz8_1⟩:=cO2 BK1005.out) | ((refine gate_dst (N:=7) rfl ?_);(try (refine gate_guard (by rfl) ?_;dsimp only));refine box_event rfl (N:=7) rfl (cs:=#[.slice none 0 0,.int .i64 0,.slice none 0 0,.int .i64 0,.int .i64 0]) (t:=27) ?hr ?_;(case hr=>go_simp;try rfl);intro gb1010 hg w9 hbox hb;have BK1010:=am (hbox);have GW1010:=am (ge_new (HB.out) hg);have GE1010:=am (ge_new (HB.out) hg);have NB1005_1010:=am (ne_new BK1005.out hg);have NB1010_1005:=am (ne_new2 BK1005.out hg);have NB1006_1010:=am (ne_new BK1006.out hg);have NB1010_1006:=am (ne_new2 BK1006.out hg);replace HO0_0:=am (Kd.V_below (Kd.V_elderB HO0_0.out gb1010 (Nat.le_of_eq hg.symm)) hb);replace HO1009:=am (Kd.R_below HO1009.out hb);replace BK1005:=(kmv hb BK1005);replace BK1006:=(kmv hb BK1006);replace HB:=am (below_step (HB.out) hb);clear hb hbox hg;have hnb10:=NB1010_1005.out;have hnc10:=NB1005_1010.out;have hnb11:=NB1010_1006.out;have hnc11:=NB1006_1010.out;obtain ⟨hcz12_0,hcz12_1,hcz12_2,hcz12_3,hcz12_4⟩:=cO5 BK1010.out;have hfz12_0:=blk_frozen BK1010.out 0;have hfz12_1:=blk_frozen BK1010.out 1;have hfz12_2:=blk_frozen BK1010.out 2;have hfz12_3:=blk_frozen BK1010.out 3;have hfz12_4:=blk_frozen BK1010.out 4))
 go_loopg [8] k (fun kq v8 w'=>∃ (x8_1 : Int) (x1007001_1 : Int) (x1007003_1 : Int) (x1007004_1 : Int) (x1011002_1 : List (S48)) (x1011003_1 : Int) (x1011004_1 : Int) (u1011002 : Value),v8 = .int .i64 x8_1∧Aside0 (q4_Read.l0 kq a1 t1007 x8_1 l0_0 a0_1 x1011002_1 x1011003_1 x1011004_1 = some (r1,r2,r3,r4,r5,r6))∧Aside0 (kq≤k)∧Aside0 (Kd.R Kd.string 9 w' w.heap.size (fun k_=>(w.heap.size≤k_)) v1008 t1007)∧Aside0 (Kd.V k126 126 w' w.heap.size (fun k_=>(P0_0_ k_∨w.heap.size≤k_)∧some k_ ≠ (v1008 : Value).ownBlock∧some k_ ≠ (u1011002 : Value).ownBlock∧k_ ≠ gb1005∧k_ ≠ gb1006∧k_ ≠ gb1010) (.slice A0_0 l0_0.length c0_0) l0_0)∧Aside0 (Kd.V k126 126 w' w.heap.size (fun k_=>(P0_0_ k_∨w.heap.size≤k_)∧some k_ ≠ (v1008 : Value).ownBlock∧some k_ ≠ (u1011002 : Value).ownBlock∧k_ ≠ gb1005∧k_ ≠ gb1006∧k_ ≠ gb1010) (.slice A0_0 l0_0.length c0_0) l0_0)∧Aside0 (Kd.R k48 48 w' w.heap.size (fun k_=>(w.heap.size≤k_)) u1011002 x1011002_1)∧Aside0 (w'.heap[gb1005]? = some (.cells #[(.slice A0_0 l0_0.length c0_0),.int .i64 a0_1] 24 (0,0)))∧Aside0 (w'.heap[gb1006]? = some (.cells #[(.slice none 0 0),.int .i64 x1007001_1,(.slice none 0 0),.int .i64 x1007003_1,.int .i64 x1007004_1] 27 (0,0)))∧Aside0 (w'.heap[gb1010]? = some (.cells #[(.slice A0_0 l0_0.length c0_0),.int .i64 a0_1,u1011002,.int .i64 x1011003_1,.int .i64 x1011004_1] 27 (0,0)))∧Aside0 (Below w.heap.size w w'))
 case atStart=>exact ⟨(0),(0),(0),(0),(([] : List (S48))),(0),(0),(.slice none 0 0),(by first | rfl | (simp;done) | (simp [*];done)),H',⟨Nat.le_refl _⟩,⟨by (with_reducible repeat (first | apply Kd.R_alloc | apply Kd.R_drewN | apply Kd.R_drew));exact Kd.R_mono (Kd.R_far (p:=⟨gb1010,4,none⟩) (Kd.R_far (p:=⟨gb1010,3,none⟩) (Kd.R_far (p:=⟨gb1010,2,none⟩) (Kd.R_far (p:=⟨gb1010,1,none⟩) (Kd.R_far (p:=⟨gb1010,0,none⟩) (Kd.R_types HO1009.out BK1010.out (by decide)) (fun _ hk=>hk.2) (.slice A0_0 l0_0.length c0_0)) (fun _ hk=>hk.2) (.int .i64 a0_1)) (fun _ hk=>hk.2) (.slice none 0 0)) (fun _ hk=>hk.2) (.int .i64 0)) (fun _ hk=>hk.2) (.int .i64 0)) (fun _ hk=>hk.1.1)⟩,⟨by (with_reducible repeat (first | apply Kd.V_alloc | apply Kd.V_drewN | apply Kd.V_drew));exact Kd.V_mono (Kd.V_far (p:=⟨gb1010,4,none⟩) (Kd.V_far (p:=⟨gb1010,3,none⟩) (Kd.V_far (p:=⟨gb1010,2,none⟩) (Kd.V_far (p:=⟨gb1010,1,none⟩) (Kd.V_far (p:=⟨gb1010,0,none⟩) (Kd.V_mono HO0_0.out (fun k_ hk=>(⟨hk,hk.2⟩ : _∧k_ ≠ gb1010))) (fun _ hk=>hk.2) (.slice A0_0 l0_0.length c0_0)) (fun _ hk=>hk.2) (.int .i64 a0_1)) (fun _ hk=>hk.2) (.slice none 0 0)) (fun _ hk=>hk.2) (.int .i64 0)) (fun _ hk=>hk.2) (.int .i64 0)) (fun _ hk=>⟨hk.1.1.1.1.1,⟨hk.1.1.2,⟨(by simp [Value.ownBlock]),⟨hk.1.1.1.1.2,⟨hk.1.1.1.2,hk.1.2⟩⟩⟩⟩⟩)⟩,⟨by (with_reducible repeat (first | apply Kd.V_alloc | apply Kd.V_drewN | apply Kd.V_drew));exact Kd.V_mono (Kd.V_far (p:=⟨gb1010,4,none⟩) (Kd.V_far (p:=⟨gb1010,3,none⟩) (Kd.V_far (p:=⟨gb1010,2,none⟩) (Kd.V_far (p:=⟨gb1010,1,none⟩) (Kd.V_far (p:=⟨gb1010,0,none⟩) (Kd.V_mono HO0_0.out (fun k_ hk=>(⟨hk,hk.2⟩ : _∧k_ ≠ gb1010))) (fun _ hk=>hk.2) (.slice A0_0 l0_0.length c0_0)) (fun _ hk=>hk.2) (.int .i64 a0_1)) (fun _ hk=>hk.2) (.slice none 0 0)) (fun _ hk=>hk.2) (.int .i64 0)) (fun _ hk=>hk.2) (.int .i64 0)) (fun _ hk=>⟨hk.1.1.1.1.1,⟨hk.1.1.2,⟨(by simp [Value.ownBlock]),⟨hk.1.1.1.1.2,⟨hk.1.1.1.2,hk.1.2⟩⟩⟩⟩⟩)⟩,⟨by first | exact Kd.R_nil _ _ _ _ _ | exact Kd.N_nil _ _ _ _ _ | exact Kd.V_nil _ _ _ _ _ | exact Kd.Q_nil _ _ _ _ _ | exact Kd.S_nil _ _ _ _ _⟩,⟨(blk_far (blk_far (blk_far (blk_far (blk_far BK1005.out NB1005_1010.out _) NB1005_1010.out _) NB1005_1010.out _) NB1005_1010.out _) NB1005_1010.out _)⟩,⟨(blk_far (blk_far (blk_far (blk_far (blk_far BK1006.out NB1006_1010.out _) NB1006_1010.out _) NB1006_1010.out _) NB1006_1010.out _) NB1006_1010.out _)⟩,⟨(blk_put (cs:=#[.slice A0_0 l0_0.length c0_0,.int .i64 a0_1,.slice none 0 0,.int .i64 0,.int .i64 0]) (blk_put (cs:=#[.slice A0_0 l0_0.length c0_0,.int .i64 a0_1,.slice none 0 0,.int .i64 0,.int .i64 0]) (blk_put (cs:=#[.slice A0_0 l0_0.length c0_0,.int .i64 a0_1,.slice none 0 0,.int .i64 0,.int .i64 0]) (blk_put (cs:=#[.slice A0_0 l0_0.length c0_0,.int .i64 0,.slice none 0 0,.int .i64 0,.int .i64 0]) (blk_put (cs:=#[.slice none 0 0,.int .i64 0,.slice none 0 0,.int .i64 0,.int .i64 0]) BK1010.out 0 _ rfl) 1 _ rfl) 2 _ rfl) 3 _ rfl) 4 _ rfl)⟩,⟨by repeat (first | (with_reducible first | exact HB.out | refine below_set ?_ (Aside0.out (by assumption)) | apply below_alloc | apply pw_below_drewN) | exact HB.out)⟩⟩
 case round =>
  clear H'
  obtain ⟨x8_1,x1007001_1,x1007003_1,x1007004_1,x1011002_1,x1011003_1,x1011004_1,u1011002,rfl,HA,HK1,HO_6,HO_1006000,HO_1011000,HO_1011002,BK1005,BK1006,BK1010,HB⟩:=hrel
  cases gk with
  | zero=>exact absurd HA.out (by simp [q4_Read.l0])
  | succ k1 =>
   have H:=HA.out
   clear HA
   simp only [q4_Read.l0] at H
   by_cases c13 : x8_1 < (wrap64 ((t1007.length : Int) - 2))
   case neg =>
    rw [if_neg c13] at H
    have c13b0 : decide (x8_1 < (wrap64 ((t1007.length : Int) - 2))) = false:=decide_eq_false c13
    clear c13
    replace H:=obm H
    obtain ⟨t1011,A520,H⟩:=H
    replace H : (if t1011.toList = a1.toList then (some (l0_0,a0_1,x1011002_1,x1011003_1,x1011004_1,true)) else (some (([] : List (S126)),0,([] : List (S48)),0,0,false))) = some (r1,r2,r3,r4,r5,r6):=H
    have A52:=am A520
    clear A520
    by_cases c53 : t1011.toList = a1.toList
    ·rw [if_pos c53] at H
     have c53b0 : (t1011.toList == a1.toList) = true:=beq_iff_eq.mpr c53
     have c53b1 : (t1011.toList != a1.toList) = false:=bne_eq_false_iff_eq.mpr c53
     clear c53
     simp only [Option.some.injEq,Prod.mk.injEq] at H
     obtain ⟨rfl,rfl,rfl,rfl,rfl,rfl⟩:=H
     obtain ⟨Ao54,co54,eo54⟩:=Kd.R_slice HO_6.out
     subst eo54
     have hnb55:=NB1010_1005.out
     have hnc55:=NB1005_1010.out
     have hnb56:=NB1010_1006.out
     have hnc56:=NB1006_1010.out
     obtain ⟨hcz57_0,hcz57_1,hcz57_2,hcz57_3,hcz57_4⟩:=cO5 BK1010.out
     have hfz57_0:=blk_frozen BK1010.out 0
     have hfz57_1:=blk_frozen BK1010.out 1
     have hfz57_2:=blk_frozen BK1010.out 2
     have hfz57_3:=blk_frozen BK1010.out 3
     have hfz57_4:=blk_frozen BK1010.out 4
     obtain ⟨Ao58,co58,eo58⟩:=Kd.R_slice HO_1011002.out
     subst eo58
     go_wp2_with (first | ((with_reducible refine gate_callee (f:=51) rfl ?_);refine goesL_ (some 77) rfl rfl Tryz.func51 (by kernel_rfl) rfl #[.agg #[.slice A0_0 l0_0.length c0_0,.int .i64 a0_1,.slice Ao58 x1011002_1.length co58,.int .i64 x1011003_1,.int .i64 x1011004_1]] rfl (by (try simp only [List.map_toArray,List.map_cons,List.map_nil]);first | done | rfl | (simp only [List.length_drop,List.length_take];rfl)) ?_;(refine (q4_Print.calls k1 _ _ l0_0 a0_1 _ _ x1011002_1 x1011003_1 x1011004_1 t1011 _ ?side1 ?side2 ?side3 ?side4 A52.out).mono ?_);(case side1=>repeat (first | exact (Kd.V_reads' HO_1011000.out).2.2 | (with_reducible refine Kd.C_alloc ?_ _) | (with_reducible refine Kd.C_drewN ?_ _) | (with_reducible refine Kd.C_drew ?_)));(case side2=>exact (Kd.V_reads' HO_1011000.out).2.1);(case side3=>repeat (first | exact (Kd.R_reads' HO_1011002.out).2.2 | (with_reducible refine Kd.C_alloc ?_ _) | (with_reducible refine Kd.C_drewN ?_ _) | (with_reducible refine Kd.C_drew ?_)));(case side4=>exact (Kd.R_reads' HO_1011002.out).2.1);rintro e w59 ⟨rfl,hb⟩;refine ⟨_,rfl,?_⟩;replace HO_6:=am (Kd.R_below HO_6.out hb);replace HO_1006000:=am (Kd.V_below HO_1006000.out hb);replace HO_1011000:=am (Kd.V_below HO_1011000.out hb);replace HO_1011002:=am (Kd.R_below HO_1011002.out hb);replace BK1005:=(kmv hb BK1005);replace BK1006:=(kmv hb BK1006);replace BK1010:=(kmv hb BK1010);replace HB:=am (below_step (HB.out) hb);(try clear hb);(try clear hb2);(try clear hk);(try clear hi);obtain ⟨hcz60_0,hcz60_1,hcz60_2,hcz60_3,hcz60_4⟩:=cO5 BK1010.out;have hfz60_0:=blk_frozen BK1010.out 0;have hfz60_1:=blk_frozen BK1010.out 1;have hfz60_2:=blk_frozen BK1010.out 2;have hfz60_3:=blk_frozen BK1010.out 3;have hfz60_4:=blk_frozen BK1010.out 4;have hnb61:=NB1006_1005.out;have hnc61:=NB1005_1006.out;obtain ⟨hcz62_0,hcz62_1,hcz62_2,hcz62_3,hcz62_4⟩:=cO5 BK1006.out;have hfz62_0:=blk_frozen BK1006.out 0;have hfz62_1:=blk_frozen BK1006.out 1;have hfz62_2:=blk_frozen BK1006.out 2;have hfz62_3:=blk_frozen BK1006.out 3;have hfz62_4:=blk_frozen BK1006.out 4))
     refine bodyPost_ret (results_ct rfl _ _ gb1006 27 #[.slice A0_0 l0_0.length c0_0,.int .i64 a0_1,.slice Ao58 x1011002_1.length co58,.int .i64 x1011003_1,.int .i64 x1011004_1] (0,0) _ rfl (blk_put (cs:=#[.slice A0_0 l0_0.length c0_0,.int .i64 a0_1,.slice Ao58 x1011002_1.length co58,.int .i64 x1011003_1,.int .i64 x1007004_1]) (blk_put (cs:=#[.slice A0_0 l0_0.length c0_0,.int .i64 a0_1,.slice Ao58 x1011002_1.length co58,.int .i64 x1007003_1,.int .i64 x1007004_1]) (blk_put (cs:=#[.slice A0_0 l0_0.length c0_0,.int .i64 a0_1,.slice none 0 0,.int .i64 x1007003_1,.int .i64 x1007004_1]) (blk_put (cs:=#[.slice A0_0 l0_0.length c0_0,.int .i64 x1007001_1,.slice none 0 0,.int .i64 x1007003_1,.int .i64 x1007004_1]) (blk_put (cs:=#[.slice none 0 0,.int .i64 x1007001_1,.slice none 0 0,.int .i64 x1007003_1,.int .i64 x1007004_1]) BK1006.out 0 _ rfl) 1 _ rfl) 2 _ rfl) 3 _ rfl) 4 _ rfl) Tryz.underlying27 rfl (by kernel_rfl)) rfl ?_
     exact ⟨_,_,by first | rfl | (simp [*]<;>rfl),by (with_reducible repeat (first | apply Kd.V_alloc | apply Kd.V_drewN | apply Kd.V_drew));exact Kd.V_mono (Kd.V_far (p:=⟨gb1006,4,none⟩) (Kd.V_far (p:=⟨gb1006,3,none⟩) (Kd.V_far (p:=⟨gb1006,2,none⟩) (Kd.V_far (p:=⟨gb1006,1,none⟩) (Kd.V_far (p:=⟨gb1006,0,none⟩) (Kd.V_mono HO_1011000.out (fun k_ hk=>(⟨hk,hk.2.2.2.2.1⟩ : _∧k_ ≠ gb1006))) (fun _ hk=>hk.2) (.slice A0_0 l0_0.length c0_0)) (fun _ hk=>hk.2) (.int .i64 a0_1)) (fun _ hk=>hk.2) (.slice Ao58 x1011002_1.length co58)) (fun _ hk=>hk.2) (.int .i64 x1011003_1)) (fun _ hk=>hk.2) (.int .i64 x1011004_1)) (fun _ hk=>⟨hk.1.1,hk.1.2.2.1⟩),by (with_reducible repeat (first | apply Kd.R_alloc | apply Kd.R_drewN | apply Kd.R_drew));exact Kd.R_mono (Kd.R_far (p:=⟨gb1006,4,none⟩) (Kd.R_far (p:=⟨gb1006,3,none⟩) (Kd.R_far (p:=⟨gb1006,2,none⟩) (Kd.R_far (p:=⟨gb1006,1,none⟩) (Kd.R_far (p:=⟨gb1006,0,none⟩) (Kd.R_types HO_1011002.out BK1006.out (by decide)) (fun _ hk=>hk.2) (.slice A0_0 l0_0.length c0_0)) (fun _ hk=>hk.2) (.int .i64 a0_1)) (fun _ hk=>hk.2) (.slice Ao58 x1011002_1.length co58)) (fun _ hk=>hk.2) (.int .i64 x1011003_1)) (fun _ hk=>hk.2) (.int .i64 x1011004_1)) (fun _ hk=>hk.1),by repeat (first | (with_reducible first | exact HB.out | refine below_set ?_ (Aside0.out (by assumption)) | apply below_alloc | apply pw_below_drewN) | exact HB.out)⟩
    ·rw [if_neg c53] at H
     have c53b0 : (t1011.toList == a1.toList) = false:=beq_eq_false_iff_ne.mpr c53
     have c53b1 : (t1011.toList != a1.toList) = true:=bne_iff_ne.mpr c53
     simp only [Option.some.injEq,Prod.mk.injEq] at H
     obtain ⟨rfl,rfl,rfl,rfl,rfl,rfl⟩:=H
     obtain ⟨Ao63,co63,eo63⟩:=Kd.R_slice HO_6.out
     subst eo63
     have hnb64:=NB1010_1005.out
     have hnc64:=NB1005_1010.out
     have hnb65:=NB1010_1006.out
     have hnc65:=NB1006_1010.out
     obtain ⟨hcz66_0,hcz66_1,hcz66_2,hcz66_3,hcz66_4⟩:=cO5 BK1010.out
     have hfz66_0:=blk_frozen BK1010.out 0
     have hfz66_1:=blk_frozen BK1010.out 1
     have hfz66_2:=blk_frozen BK1010.out 2
     have hfz66_3:=blk_frozen BK1010.out 3
     have hfz66_4:=blk_frozen BK1010.out 4
     obtain ⟨Ao67,co67,eo67⟩:=Kd.R_slice HO_1011002.out
     subst eo67
     go_wp2_with (first | ((with_reducible refine gate_callee (f:=51) rfl ?_);refine goesL_ (some 77) rfl rfl Tryz.func51 (by kernel_rfl) rfl #[.agg #[.slice A0_0 l0_0.length c0_0,.int .i64 a0_1,.slice Ao67 x1011002_1.length co67,.int .i64 x1011003_1,.int .i64 x1011004_1]] rfl (by (try simp only [List.map_toArray,List.map_cons,List.map_nil]);first | done | rfl | (simp only [List.length_drop,List.length_take];rfl)) ?_;(refine (q4_Print.calls k1 _ _ l0_0 a0_1 _ _ x1011002_1 x1011003_1 x1011004_1 t1011 _ ?side1 ?side2 ?side3 ?side4 A52.out).mono ?_);(case side1=>repeat (first | exact (Kd.V_reads' HO_1011000.out).2.2 | (with_reducible refine Kd.C_alloc ?_ _) | (with_reducible refine Kd.C_drewN ?_ _) | (with_reducible refine Kd.C_drew ?_)));(case side2=>exact (Kd.V_reads' HO_1011000.out).2.1);(case side3=>repeat (first | exact (Kd.R_reads' HO_1011002.out).2.2 | (with_reducible refine Kd.C_alloc ?_ _) | (with_reducible refine Kd.C_drewN ?_ _) | (with_reducible refine Kd.C_drew ?_)));(case side4=>exact (Kd.R_reads' HO_1011002.out).2.1);rintro e w68 ⟨rfl,hb⟩;refine ⟨_,rfl,?_⟩;replace HO_6:=am (Kd.R_below HO_6.out hb);replace HO_1006000:=am (Kd.V_below HO_1006000.out hb);replace HO_1011000:=am (Kd.V_below HO_1011000.out hb);replace HO_1011002:=am (Kd.R_below HO_1011002.out hb);replace BK1005:=(kmv hb BK1005);replace BK1006:=(kmv hb BK1006);replace BK1010:=(kmv hb BK1010);replace HB:=am (below_step (HB.out) hb);(try clear hb);(try clear hb2);(try clear hk);(try clear hi);have hnb69:=NB1006_1005.out;have hnc69:=NB1005_1006.out;obtain ⟨hcz70_0,hcz70_1,hcz70_2,hcz70_3,hcz70_4⟩:=cO5 BK1006.out;have hfz70_0:=blk_frozen BK1006.out 0;have hfz70_1:=blk_frozen BK1006.out 1;have hfz70_2:=blk_frozen BK1006.out 2;have hfz70_3:=blk_frozen BK1006.out 3;have hfz70_4:=blk_frozen BK1006.out 4))
     refine bodyPost_ret (results_ct rfl _ _ gb1006 27 #[.slice none 0 0,.int .i64 0,.slice none 0 0,.int .i64 0,.int .i64 0] (0,0) _ rfl (blk_put (cs:=#[.slice none 0 0,.int .i64 0,.slice none 0 0,.int .i64 0,.int .i64 x1007004_1]) (blk_put (cs:=#[.slice none 0 0,.int .i64 0,.slice none 0 0,.int .i64 x1007003_1,.int .i64 x1007004_1]) (blk_put (cs:=#[.slice none 0 0,.int .i64 0,.slice none 0 0,.int .i64 x1007003_1,.int .i64 x1007004_1]) (blk_put (cs:=#[.slice none 0 0,.int .i64 x1007001_1,.slice none 0 0,.int .i64 x1007003_1,.int .i64 x1007004_1]) (blk_put (cs:=#[.slice none 0 0,.int .i64 x1007001_1,.slice none 0 0,.int .i64 x1007003_1,.int .i64 x1007004_1]) BK1006.out 0 _ rfl) 1 _ rfl) 2 _ rfl) 3 _ rfl) 4 _ rfl) Tryz.underlying27 rfl (by kernel_rfl)) rfl ?_
     exact ⟨_,_,by first | rfl | (simp [*]<;>rfl),Kd.V_nil _ _ _ _ _,by first | exact Kd.R_nil _ _ _ _ _ | exact Kd.N_nil _ _ _ _ _ | exact Kd.V_nil _ _ _ _ _ | exact Kd.Q_nil _ _ _ _ _ | exact Kd.S_nil _ _ _ _ _,by repeat (first | (with_reducible first | exact HB.out | refine below_set ?_ (Aside0.out (by assumption)) | apply below_alloc | apply pw_below_drewN) | exact HB.out)⟩
   rw [if_pos c13] at H
   have c13b0 : decide (x8_1 < (wrap64 ((t1007.length : Int) - 2))) = true:=decide_eq_true c13
   clear c13
   by_cases c14 : 0≤x8_1
   case neg =>
    rw [if_neg c14] at H
    exact absurd H (by simp)
   rw [if_pos c14] at H
   have c14b0 : decide (0≤x8_1) = true:=decide_eq_true c14
   clear c14
   by_cases c15 : x8_1 < (t1007.length : Int)
   case neg =>
    rw [if_neg c15] at H
    exact absurd H (by simp)
   rw [if_pos c15] at H
   have c15b0 : decide (x8_1 < (t1007.length : Int)) = true:=decide_eq_true c15
   clear c15
   replace H:=obm H
   obtain ⟨t1013,A160,H⟩:=H
   replace H : (if 1≤(t1013.length : Int) then ((q1_Numbers.f k1 (t1013.drop 1) 3).bind fun bt1020=>(if bt1020.2 = true then (if (bt1020.1.length : Int) = 2 then (if 0 < (bt1020.1.length : Int) then (if (rd bt1020.1 0) < 0 then (q4_Read.j1 k1 a1 t1007 x8_1 bt1020.1 true l0_0 a0_1 x1011002_1 x1011003_1 x1011004_1) else (if 1 < (bt1020.1.length : Int) then (q4_Read.j1 k1 a1 t1007 x8_1 bt1020.1 (decide ((rd bt1020.1 1) < 0)) l0_0 a0_1 x1011002_1 x1011003_1 x1011004_1) else (none))) else (none)) else (q4_Read.j1 k1 a1 t1007 x8_1 bt1020.1 true l0_0 a0_1 x1011002_1 x1011003_1 x1011004_1)) else (q4_Read.j1 k1 a1 t1007 x8_1 bt1020.1 true l0_0 a0_1 x1011002_1 x1011003_1 x1011004_1))) else (none)) = some (r1,r2,r3,r4,r5,r6):=H
   have A16:=am A160
   clear A160
   by_cases c17 : 1≤(t1013.length : Int)
   case neg =>
    rw [if_neg c17] at H
    exact absurd H (by simp)
   rw [if_pos c17] at H
   have c17b0:=eq_true c17
   have c17b1 : decide (1≤(t1013.length : Int)) = true:=decide_eq_true c17
   clear c17
   obtain ⟨y1016,hy1016⟩ : ∃ y_ : List ByteArray,y_ = (t1013.drop 1):=⟨_,rfl⟩
   replace H : ((q1_Numbers.f k1 y1016 3).bind fun bt1020=>(if bt1020.2 = true then (if (bt1020.1.length : Int) = 2 then (if 0 < (bt1020.1.length : Int) then (if (rd bt1020.1 0) < 0 then (q4_Read.j1 k1 a1 t1007 x8_1 bt1020.1 true l0_0 a0_1 x1011002_1 x1011003_1 x1011004_1) else (if 1 < (bt1020.1.length : Int) then (q4_Read.j1 k1 a1 t1007 x8_1 bt1020.1 (decide ((rd bt1020.1 1) < 0)) l0_0 a0_1 x1011002_1 x1011003_1 x1011004_1) else (none))) else (none)) else (q4_Read.j1 k1 a1 t1007 x8_1 bt1020.1 true l0_0 a0_1 x1011002_1 x1011003_1 x1011004_1)) else (q4_Read.j1 k1 a1 t1007 x8_1 bt1020.1 true l0_0 a0_1 x1011002_1 x1011003_1 x1011004_1))) = some (r1,r2,r3,r4,r5,r6):=by first | (rw [hy1016];with_reducible exact H) | (have H2_:=(Option.bind_some _ _).symm.trans H;rw [hy1016];with_reducible exact H2_) | (have H2_:=(Option.bind_some _ _).symm.trans H;with_reducible exact H2_) | with_reducible exact H | (rw [hy1016];exact H) | exact H
   have Ny1016:=am hy1016
   clear hy1016
   replace H:=obm H
   obtain ⟨⟨t1020,t1021⟩,A180,H⟩:=H
   replace H : (if t1021 = true then (if (t1020.length : Int) = 2 then (if 0 < (t1020.length : Int) then (if (rd t1020 0) < 0 then (q4_Read.j1 k1 a1 t1007 x8_1 t1020 true l0_0 a0_1 x1011002_1 x1011003_1 x1011004_1) else (if 1 < (t1020.length : Int) then (q4_Read.j1 k1 a1 t1007 x8_1 t1020 (decide ((rd t1020 1) < 0)) l0_0 a0_1 x1011002_1 x1011003_1 x1011004_1) else (none))) else (none)) else (q4_Read.j1 k1 a1 t1007 x8_1 t1020 true l0_0 a0_1 x1011002_1 x1011003_1 x1011004_1)) else (q4_Read.j1 k1 a1 t1007 x8_1 t1020 true l0_0 a0_1 x1011002_1 x1011003_1 x1011004_1)) = some (r1,r2,r3,r4,r5,r6):=H
   have A18:=am A180
   clear A180
   have HC19:=am H
   clear H
   obtain ⟨Ao20,co20,eo20⟩:=Kd.R_slice HO_6.out
   subst eo20
   have p1012 : 0≤(x8_1 : Int):=of_decide_eq_true (by assumption)
   have q1012 : x8_1 < (t1007.length : Int):=of_decide_eq_true (by assumption)
   obtain ⟨ad1012,e1012,hx1012_0⟩:=Kd.at_string (Kd.R_reads' HO_6.out).2.2 x8_1 p1012 q1012
   cases e1012
   replace p1012:=eq_true p1012
   replace q1012:=eq_true q1012
   go_upto_region 8 with (first | ((with_reducible refine gate_callee (f:=96) rfl ?_);refine goesL_ (some 27) rfl rfl Tryz.func96 (by kernel_rfl) rfl #[.string (rdOf ByteArray.empty t1007 x8_1),.int .u8 32] rfl (by (try simp only [List.map_toArray,List.map_cons,List.map_nil]);first | done | rfl | (simp only [List.length_drop,List.length_take];rfl)) ?_;(refine (q1_Split.calls k1 (rdOf ByteArray.empty t1007 x8_1) 32 t1013 _ A16.out).mono ?_);rintro e w21 ⟨v1014,rfl,ho0,hb⟩;refine ⟨_,rfl,?_⟩;have HO1015:=am (Kd.R_lower (Kd.R_new' (Kd.R_newM (M:=fun k_=>(w.heap.size≤k_)) ho0 (below_size (HB.out)) (fun k_ h_=>h_)) (Kd.R_lt HO_6.out)) (below_size (HB.out)));replace HO_6:=am (Kd.R_elder' HO_6.out (Kd.R_base ho0) hb);replace HO_1006000:=am (Kd.V_elder' HO_1006000.out (Kd.R_base ho0) hb);replace HO_1011000:=am (Kd.V_elder' HO_1011000.out (Kd.R_base ho0) hb);replace HO_1011002:=am (Kd.R_below HO_1011002.out hb);replace BK1005:=(kmv hb BK1005);replace BK1006:=(kmv hb BK1006);replace BK1010:=(kmv hb BK1010);replace HB:=am (below_step (HB.out) hb);(try clear hb);(try clear hb2);(try clear hk);(try clear hi);(try clear ho0);obtain ⟨Ao23,co23,eo23⟩:=Kd.R_slice HO1015.out;subst eo23;have q22 : (1 : Int)≤((t1013.length : Int) : Int):=of_decide_eq_true (by assumption);obtain ⟨i022,hi022,_,hsz22,_⟩:=info_parts info9;have hroom22 : t1013.length≤co23:=(Kd.R_reads' HO1015.out).2.1;have hC22 : Kd.C Kd.string _ Ao23 t1013.length t1013:=(Kd.R_reads' HO1015.out).2.2;have hcut22:=cut_from (P:=Tryz.prog) 130 9 .i64 Tryz.underlying130 hi022 1 hsz22 Ao23 t1013.length co23 1 (by omega) q22;have hr22:=Kd.C_drop (m:=(1 : Int).toNat) (c:=co23) hC22 (by omega) hroom22;obtain ⟨A22,hA22⟩ : ∃ A1,A1 = (if co23 = (1 : Int).toNat then Ao23 else (Ao23 : Option Addr).map (·.add ((1 : Int).toNat * 1))):=⟨_,rfl⟩;obtain ⟨c22,hc22⟩ : ∃ c1,c1 = co23 - (1 : Int).toNat:=⟨_,rfl⟩;have hy22 : y1016.length = t1013.length - (1 : Int).toNat:=(by rw [Ny1016.out,List.length_drop]<;>omega);rw [show (t1013).drop (1 : Int).toNat = y1016 from Ny1016.out.symm] at hr22;replace hr22 : Kd.C Kd.string _ A22 y1016.length y1016:=(by rw [hA22];exact hr22);rw [← hy22,← hA22,← hc22] at hcut22;have HR1019:=am hr22;have HC1019:=am (show y1016.length≤c22 from by rw [hy22,hc22];exact Nat.sub_le_sub_right hroom22 _);clear hr22 hC22 hroom22 hi022 hsz22 hc22;have KY22:=am hy22;have KA22:=am hA22;clear hy22 hA22;have KL22:=am (show 1≤t1013.length from by omega);replace q22:=eq_true q22) | ((with_reducible refine gate_callee (f:=97) rfl ?_);refine goesL_ (some 31) rfl rfl Tryz.func97 (by kernel_rfl) rfl #[.slice A22 y1016.length c22,.int .i64 3] rfl (by (try simp only [List.map_toArray,List.map_cons,List.map_nil]);first | done | rfl | (simp only [List.length_drop,List.length_take];rfl)) ?_;(refine (q1_Numbers.calls k1 _ _ y1016 3 t1020 t1021 _ ?side1 ?side2 A18.out).mono ?_);(case side1=>repeat (first | exact (by repeat (first | (with_reducible exact HR1019.out) | (with_reducible refine Kd.C_alloc ?_ _) | (with_reducible refine Kd.C_drewN ?_ _) | (with_reducible refine Kd.C_drew ?_) | exact HR1019.out)) | (with_reducible refine Kd.C_alloc ?_ _) | (with_reducible refine Kd.C_drewN ?_ _) | (with_reducible refine Kd.C_drew ?_)));(case side2=>exact HC1019.out);rintro e w24 ⟨v1022,rfl,ho0,hb⟩;refine ⟨_,rfl,?_⟩;have HO1023:=am (Kd.R_lower (Kd.R_newM (M:=fun k_=>(w.heap.size≤k_)) ho0 (below_size (HB.out)) (fun k_ h_=>h_)) (below_size (HB.out)));replace HO_6:=am (Kd.R_below HO_6.out hb);replace HO_1006000:=am (Kd.V_elder' HO_1006000.out (Kd.R_base ho0) hb);replace HO_1011000:=am (Kd.V_elder' HO_1011000.out (Kd.R_base ho0) hb);replace HO_1011002:=am (Kd.R_below HO_1011002.out hb);replace HO1015:=am (Kd.R_below HO1015.out hb);replace BK1005:=(kmv hb BK1005);replace BK1006:=(kmv hb BK1006);replace BK1010:=(kmv hb BK1010);replace HR1019:=am (kC (by repeat (first | (with_reducible exact HR1019.out) | (with_reducible refine Kd.C_alloc ?_ _) | (with_reducible refine Kd.C_drewN ?_ _) | (with_reducible refine Kd.C_drew ?_) | exact HR1019.out)) hb);replace HB:=am (below_step (HB.out) hb);(try clear hb);(try clear hb2);(try clear hk);(try clear hi);(try clear ho0)))
   (try simp only [Act.put,List.setIfInBounds_toArray,List.set_cons_zero,List.set_cons_succ])
   go_cut [52] (fun v52 wc=>∃ (kq : Nat) (x52_18 : Bool),v52 = .bool x52_18∧Aside0 (q4_Read.j1 kq a1 t1007 x8_1 t1020 x52_18 l0_0 a0_1 x1011002_1 x1011003_1 x1011004_1 = some (r1,r2,r3,r4,r5,r6))∧Aside0 (kq≤k1)∧Aside0 (Kd.R Kd.string 9 wc w.heap.size (fun k_=>(w.heap.size≤k_)) (.slice (some ad1012) t1007.length co20) t1007)∧Aside0 (Kd.R (Kd.int .i64) 3 wc w.heap.size (fun k_=>(w.heap.size≤k_)) v1022 t1020)∧Aside0 (Kd.V k126 126 wc w.heap.size (fun k_=>(P0_0_ k_∨w.heap.size≤k_)∧some k_ ≠ ((.slice (some ad1012) t1007.length co20) : Value).ownBlock∧some k_ ≠ (v1022 : Value).ownBlock∧some k_ ≠ (u1011002 : Value).ownBlock∧k_ ≠ gb1005∧k_ ≠ gb1006∧k_ ≠ gb1010) (.slice A0_0 l0_0.length c0_0) l0_0)∧Aside0 (Kd.V k126 126 wc w.heap.size (fun k_=>(P0_0_ k_∨w.heap.size≤k_)∧some k_ ≠ ((.slice (some ad1012) t1007.length co20) : Value).ownBlock∧some k_ ≠ (v1022 : Value).ownBlock∧some k_ ≠ (u1011002 : Value).ownBlock∧k_ ≠ gb1005∧k_ ≠ gb1006∧k_ ≠ gb1010) (.slice A0_0 l0_0.length c0_0) l0_0)∧Aside0 (Kd.R k48 48 wc w.heap.size (fun k_=>(w.heap.size≤k_)) u1011002 x1011002_1)∧Aside0 (wc.heap[gb1005]? = some (.cells #[(.slice A0_0 l0_0.length c0_0),.int .i64 a0_1] 24 (0,0)))∧Aside0 (wc.heap[gb1006]? = some (.cells #[(.slice none 0 0),.int .i64 x1007001_1,(.slice none 0 0),.int .i64 x1007003_1,.int .i64 x1007004_1] 27 (0,0)))∧Aside0 (wc.heap[gb1010]? = some (.cells #[(.slice A0_0 l0_0.length c0_0),.int .i64 a0_1,u1011002,.int .i64 x1011003_1,.int .i64 x1011004_1] 27 (0,0)))∧Aside0 (Below w.heap.size w wc))
   case first =>
    have H:=HC19.out
    clear HC19
    by_cases c25 : t1021 = true
    case neg =>
     replace c25:=Bool.eq_false_iff.mpr c25
     subst c25
     replace H : (q4_Read.j1 k1 a1 t1007 x8_1 t1020 true l0_0 a0_1 x1011002_1 x1011003_1 x1011004_1) = some (r1,r2,r3,r4,r5,r6):=by rw [if_neg (show ¬ (false = true) by decide)] at H;exact H
     replace H':=am H
     go_wp2
     go_meet
     case rel=>exact ⟨_,(true),(by first | rfl | (simp;done) | (simp [*];done)),H',⟨by have:=HK1.out;first | omega | exact Nat.le_refl _⟩,⟨by (with_reducible repeat (first | apply Kd.R_alloc | apply Kd.R_drewN | apply Kd.R_drew));exact Kd.R_mono HO_6.out (fun _ hk=>hk.1)⟩,⟨by (with_reducible repeat (first | apply Kd.R_alloc | apply Kd.R_drewN | apply Kd.R_drew));exact Kd.R_mono HO1023.out (fun _ hk=>hk.1)⟩,⟨by (with_reducible repeat (first | apply Kd.V_alloc | apply Kd.V_drewN | apply Kd.V_drew));exact Kd.V_mono HO_1006000.out (fun _ hk=>⟨hk.1.1.1,⟨hk.1.1.2.1,⟨hk.2,⟨hk.1.1.2.2.1,⟨hk.1.1.2.2.2.1,⟨hk.1.1.2.2.2.2.1,hk.1.1.2.2.2.2.2⟩⟩⟩⟩⟩⟩)⟩,⟨by (with_reducible repeat (first | apply Kd.V_alloc | apply Kd.V_drewN | apply Kd.V_drew));exact Kd.V_mono HO_1011000.out (fun _ hk=>⟨hk.1.1.1,⟨hk.1.1.2.1,⟨hk.2,⟨hk.1.1.2.2.1,⟨hk.1.1.2.2.2.1,⟨hk.1.1.2.2.2.2.1,hk.1.1.2.2.2.2.2⟩⟩⟩⟩⟩⟩)⟩,⟨by (with_reducible repeat (first | apply Kd.R_alloc | apply Kd.R_drewN | apply Kd.R_drew));exact HO_1011002.out⟩,⟨BK1005.out⟩,⟨BK1006.out⟩,⟨BK1010.out⟩,⟨HB.out⟩⟩
    subst c25
    replace H : (if (t1020.length : Int) = 2 then (if 0 < (t1020.length : Int) then (if (rd t1020 0) < 0 then (q4_Read.j1 k1 a1 t1007 x8_1 t1020 true l0_0 a0_1 x1011002_1 x1011003_1 x1011004_1) else (if 1 < (t1020.length : Int) then (q4_Read.j1 k1 a1 t1007 x8_1 t1020 (decide ((rd t1020 1) < 0)) l0_0 a0_1 x1011002_1 x1011003_1 x1011004_1) else (none))) else (none)) else (q4_Read.j1 k1 a1 t1007 x8_1 t1020 true l0_0 a0_1 x1011002_1 x1011003_1 x1011004_1)) = some (r1,r2,r3,r4,r5,r6):=by rw [if_pos rfl] at H;exact H
    by_cases c26 : (t1020.length : Int) = 2
    case neg =>
     rw [if_neg c26] at H
     have c26b0 : ((t1020.length : Int) == 2) = false:=beq_eq_false_iff_ne.mpr c26
     have c26b1 : ((t1020.length : Int) != 2) = true:=bne_iff_ne.mpr c26
     (first | rw [c26b0] | (simp only [i64_w,i32_w];rw [c26b0]) | skip)
     replace H':=am H
     obtain ⟨Ao32,co32,eo32⟩:=Kd.R_slice HO1023.out
     subst eo32
     go_wp2
     go_meet
     case rel=>exact ⟨_,(true),(by first | rfl | (simp;done) | (simp [*];done)),H',⟨by have:=HK1.out;first | omega | exact Nat.le_refl _⟩,⟨by (with_reducible repeat (first | apply Kd.R_alloc | apply Kd.R_drewN | apply Kd.R_drew));exact Kd.R_mono HO_6.out (fun _ hk=>hk.1)⟩,⟨by (with_reducible repeat (first | apply Kd.R_alloc | apply Kd.R_drewN | apply Kd.R_drew));exact Kd.R_mono HO1023.out (fun _ hk=>hk.1)⟩,⟨by (with_reducible repeat (first | apply Kd.V_alloc | apply Kd.V_drewN | apply Kd.V_drew));exact Kd.V_mono HO_1006000.out (fun _ hk=>⟨hk.1.1.1,⟨hk.1.1.2.1,⟨hk.2,⟨hk.1.1.2.2.1,⟨hk.1.1.2.2.2.1,⟨hk.1.1.2.2.2.2.1,hk.1.1.2.2.2.2.2⟩⟩⟩⟩⟩⟩)⟩,⟨by (with_reducible repeat (first | apply Kd.V_alloc | apply Kd.V_drewN | apply Kd.V_drew));exact Kd.V_mono HO_1011000.out (fun _ hk=>⟨hk.1.1.1,⟨hk.1.1.2.1,⟨hk.2,⟨hk.1.1.2.2.1,⟨hk.1.1.2.2.2.1,⟨hk.1.1.2.2.2.2.1,hk.1.1.2.2.2.2.2⟩⟩⟩⟩⟩⟩)⟩,⟨by (with_reducible repeat (first | apply Kd.R_alloc | apply Kd.R_drewN | apply Kd.R_drew));exact HO_1011002.out⟩,⟨BK1005.out⟩,⟨BK1006.out⟩,⟨BK1010.out⟩,⟨HB.out⟩⟩
    rw [if_pos c26] at H
    have c26b0 : ((t1020.length : Int) == 2) = true:=beq_iff_eq.mpr c26
    have c26b1 : ((t1020.length : Int) != 2) = false:=bne_eq_false_iff_eq.mpr c26
    clear c26
    (first | rw [c26b0] | (simp only [i64_w,i32_w];rw [c26b0]) | skip)
    by_cases c27 : 0 < (t1020.length : Int)
    case neg =>
     rw [if_neg c27] at H
     exact absurd H (by simp)
    rw [if_pos c27] at H
    have c27b0 : decide (0 < (t1020.length : Int)) = true:=decide_eq_true c27
    have c27b1 : decide (0 < t1020.length) = true:=decide_eq_true (by omega)
    clear c27
    by_cases c28 : (rd t1020 0) < 0
    ·rw [if_pos c28] at H
     have c28b0 : decide ((rd t1020 0) < 0) = true:=decide_eq_true c28
     clear c28
     replace H':=am H
     obtain ⟨Ao29,co29,eo29⟩:=Kd.R_slice HO1023.out
     subst eo29
     have p1024 : 0≤(0 : Int):=(by omega)
     have q1024 : 0 < (t1020.length : Int):=of_decide_eq_true (by assumption)
     obtain ⟨ad1024,e1024,hx1024_0⟩:=Kd.at_int (Kd.R_reads' HO1023.out).2.2 0 p1024 q1024
     cases e1024
     have qi1024 : (0 < t1020.length) = True:=eq_true (by omega)
     (try rw [show ((0 : Int)).toNat = 0 from rfl] at hx1024_0)
     (try rw [Addr.add_zero'] at hx1024_0)
     replace p1024:=eq_true p1024
     replace q1024:=eq_true q1024
     go_wp2
     go_meet
     case rel=>exact ⟨_,(true),(by first | rfl | (simp;done) | (simp [*];done)),H',⟨by have:=HK1.out;first | omega | exact Nat.le_refl _⟩,⟨by (with_reducible repeat (first | apply Kd.R_alloc | apply Kd.R_drewN | apply Kd.R_drew));exact Kd.R_mono HO_6.out (fun _ hk=>hk.1)⟩,⟨by (with_reducible repeat (first | apply Kd.R_alloc | apply Kd.R_drewN | apply Kd.R_drew));exact Kd.R_mono HO1023.out (fun _ hk=>hk.1)⟩,⟨by (with_reducible repeat (first | apply Kd.V_alloc | apply Kd.V_drewN | apply Kd.V_drew));exact Kd.V_mono HO_1006000.out (fun _ hk=>⟨hk.1.1.1,⟨hk.1.1.2.1,⟨hk.2,⟨hk.1.1.2.2.1,⟨hk.1.1.2.2.2.1,⟨hk.1.1.2.2.2.2.1,hk.1.1.2.2.2.2.2⟩⟩⟩⟩⟩⟩)⟩,⟨by (with_reducible repeat (first | apply Kd.V_alloc | apply Kd.V_drewN | apply Kd.V_drew));exact Kd.V_mono HO_1011000.out (fun _ hk=>⟨hk.1.1.1,⟨hk.1.1.2.1,⟨hk.2,⟨hk.1.1.2.2.1,⟨hk.1.1.2.2.2.1,⟨hk.1.1.2.2.2.2.1,hk.1.1.2.2.2.2.2⟩⟩⟩⟩⟩⟩)⟩,⟨by (with_reducible repeat (first | apply Kd.R_alloc | apply Kd.R_drewN | apply Kd.R_drew));exact HO_1011002.out⟩,⟨BK1005.out⟩,⟨BK1006.out⟩,⟨BK1010.out⟩,⟨HB.out⟩⟩
    ·rw [if_neg c28] at H
     have c28b0 : decide ((rd t1020 0) < 0) = false:=decide_eq_false c28
     clear c28
     by_cases c30 : 1 < (t1020.length : Int)
     case neg =>
      rw [if_neg c30] at H
      exact absurd H (by simp)
     rw [if_pos c30] at H
     have c30b0 : decide (1 < (t1020.length : Int)) = true:=decide_eq_true c30
     have c30b1 : decide (1 < t1020.length) = true:=decide_eq_true (by omega)
     clear c30
     replace H':=am H
     obtain ⟨Ao31,co31,eo31⟩:=Kd.R_slice HO1023.out
     subst eo31
     have p1024 : 0≤(0 : Int):=(by omega)
     have q1024 : 0 < (t1020.length : Int):=of_decide_eq_true (by assumption)
     obtain ⟨ad1024,e1024,hx1024_0⟩:=Kd.at_int (Kd.R_reads' HO1023.out).2.2 0 p1024 q1024
     cases e1024
     have qi1024 : (0 < t1020.length) = True:=eq_true (by omega)
     (try rw [show ((0 : Int)).toNat = 0 from rfl] at hx1024_0)
     (try rw [Addr.add_zero'] at hx1024_0)
     replace p1024:=eq_true p1024
     replace q1024:=eq_true q1024
     have p1025 : 0≤(1 : Int):=(by omega)
     have q1025 : 1 < (t1020.length : Int):=of_decide_eq_true (by assumption)
     obtain ⟨ad1025,e1025,hx1025_0⟩:=Kd.at_int (Kd.R_reads' HO1023.out).2.2 1 p1025 q1025
     obtain rfl : ad1024 = ad1025:=(by injection e1025)
     (try simp only [show (1 : Int).toNat = 1 from rfl,Nat.reduceMul,Nat.reduceEqDiff,Go.Addr.add,↓reduceIte] at hx1025_0)
     have qi1025 : (1 < t1020.length) = True:=eq_true (by omega)
     (try rw [show ((1 : Int)).toNat = 1 from rfl] at hx1025_0)
     replace p1025:=eq_true p1025
     replace q1025:=eq_true q1025
     go_wp2
     go_meet
     case rel=>exact ⟨_,(decide ((rd t1020 1) < 0)),(by first | rfl | (simp;done) | (simp [*];done)),H',⟨by have:=HK1.out;first | omega | exact Nat.le_refl _⟩,⟨by (with_reducible repeat (first | apply Kd.R_alloc | apply Kd.R_drewN | apply Kd.R_drew));exact Kd.R_mono HO_6.out (fun _ hk=>hk.1)⟩,⟨by (with_reducible repeat (first | apply Kd.R_alloc | apply Kd.R_drewN | apply Kd.R_drew));exact Kd.R_mono HO1023.out (fun _ hk=>hk.1)⟩,⟨by (with_reducible repeat (first | apply Kd.V_alloc | apply Kd.V_drewN | apply Kd.V_drew));exact Kd.V_mono HO_1006000.out (fun _ hk=>⟨hk.1.1.1,⟨hk.1.1.2.1,⟨hk.2,⟨hk.1.1.2.2.1,⟨hk.1.1.2.2.2.1,⟨hk.1.1.2.2.2.2.1,hk.1.1.2.2.2.2.2⟩⟩⟩⟩⟩⟩)⟩,⟨by (with_reducible repeat (first | apply Kd.V_alloc | apply Kd.V_drewN | apply Kd.V_drew));exact Kd.V_mono HO_1011000.out (fun _ hk=>⟨hk.1.1.1,⟨hk.1.1.2.1,⟨hk.2,⟨hk.1.1.2.2.1,⟨hk.1.1.2.2.2.1,⟨hk.1.1.2.2.2.2.1,hk.1.1.2.2.2.2.2⟩⟩⟩⟩⟩⟩)⟩,⟨by (with_reducible repeat (first | apply Kd.R_alloc | apply Kd.R_drewN | apply Kd.R_drew));exact HO_1011002.out⟩,⟨BK1005.out⟩,⟨BK1006.out⟩,⟨BK1010.out⟩,⟨HB.out⟩⟩
   case rest =>
    clear HC19
    try clear qi1
    try clear qi10
    obtain ⟨kq,x52_18,rfl,HA,HJ18,HO_6,HO_10,HO_1006000,HO_1011000,HO_1011002,BK1005,BK1006,BK1010,HB⟩:=hcut
    cases kq with
    | zero=>exact absurd HA.out (by simp [q4_Read.j1])
    | succ kj18 =>
     have H:=HA.out
     clear HA
     simp only [q4_Read.j1] at H
     by_cases c33 : x52_18 = true
     ·subst c33
      replace H : (some (([] : List (S126)),0,([] : List (S48)),0,0,false)) = some (r1,r2,r3,r4,r5,r6):=by rw [if_pos rfl] at H;exact H
      simp only [Option.some.injEq,Prod.mk.injEq] at H
      obtain ⟨rfl,rfl,rfl,rfl,rfl,rfl⟩:=H
      have hnb34:=NB1006_1005.out
      have hnc34:=NB1005_1006.out
      have hnb35:=NB1006_1010.out
      have hnc35:=NB1010_1006.out
      obtain ⟨hcz36_0,hcz36_1,hcz36_2,hcz36_3,hcz36_4⟩:=cO5 BK1006.out
      have hfz36_0:=blk_frozen BK1006.out 0
      have hfz36_1:=blk_frozen BK1006.out 1
      have hfz36_2:=blk_frozen BK1006.out 2
      have hfz36_3:=blk_frozen BK1006.out 3
      have hfz36_4:=blk_frozen BK1006.out 4
      go_wp2
      refine bodyPost_ret (results_ct rfl _ _ gb1006 27 #[.slice none 0 0,.int .i64 0,.slice none 0 0,.int .i64 0,.int .i64 0] (0,0) _ rfl (blk_put (cs:=#[.slice none 0 0,.int .i64 0,.slice none 0 0,.int .i64 0,.int .i64 x1007004_1]) (blk_put (cs:=#[.slice none 0 0,.int .i64 0,.slice none 0 0,.int .i64 x1007003_1,.int .i64 x1007004_1]) (blk_put (cs:=#[.slice none 0 0,.int .i64 0,.slice none 0 0,.int .i64 x1007003_1,.int .i64 x1007004_1]) (blk_put (cs:=#[.slice none 0 0,.int .i64 x1007001_1,.slice none 0 0,.int .i64 x1007003_1,.int .i64 x1007004_1]) (blk_put (cs:=#[.slice none 0 0,.int .i64 x1007001_1,.slice none 0 0,.int .i64 x1007003_1,.int .i64 x1007004_1]) BK1006.out 0 _ rfl) 1 _ rfl) 2 _ rfl) 3 _ rfl) 4 _ rfl) Tryz.underlying27 rfl (by kernel_rfl)) rfl ?_
      exact ⟨_,_,by first | rfl | (simp [*]<;>rfl),Kd.V_nil _ _ _ _ _,by first | exact Kd.R_nil _ _ _ _ _ | exact Kd.N_nil _ _ _ _ _ | exact Kd.V_nil _ _ _ _ _ | exact Kd.Q_nil _ _ _ _ _ | exact Kd.S_nil _ _ _ _ _,by repeat (first | (with_reducible first | exact HB.out | refine below_set ?_ (Aside0.out (by assumption)) | apply below_alloc | apply pw_below_drewN) | exact HB.out)⟩
     ·replace c33:=Bool.eq_false_iff.mpr c33
      subst c33
      replace H : (if x8_1 = 0 then (if 0 < (t1020.length : Int) then (if 1 < (t1020.length : Int) then (q4_Read.l0 kj18 a1 t1007 (wrap64 (x8_1 + 1)) l0_0 a0_1 x1011002_1 (rd t1020 0) (rd t1020 1)) else (none)) else (none)) else (if 0 < (t1020.length : Int) then (if 1 < (t1020.length : Int) then (if x1011002_1.length < 8796093022208 then (q4_Read.l0 kj18 a1 t1007 (wrap64 (x8_1 + 1)) l0_0 a0_1 (x1011002_1 ++ [(⟨rd t1020 0,rd t1020 1⟩ : S48)]) x1011003_1 x1011004_1) else (none)) else (none)) else (none))) = some (r1,r2,r3,r4,r5,r6):=by rw [if_neg (show ¬ (false = true) by decide)] at H;exact H
      by_cases c37 : x8_1 = 0
      ·rw [if_pos c37] at H
       have c37b0 : (x8_1 == 0) = true:=beq_iff_eq.mpr c37
       have c37b1 : (x8_1 != 0) = false:=bne_eq_false_iff_eq.mpr c37
       clear c37
       by_cases c38 : 0 < (t1020.length : Int)
       case neg =>
        rw [if_neg c38] at H
        exact absurd H (by simp)
       rw [if_pos c38] at H
       have c38b0 : decide (0 < (t1020.length : Int)) = true:=decide_eq_true c38
       have c38b1 : decide (0 < t1020.length) = true:=decide_eq_true (by omega)
       clear c38
       by_cases c39 : 1 < (t1020.length : Int)
       case neg =>
        rw [if_neg c39] at H
        exact absurd H (by simp)
       rw [if_pos c39] at H
       have c39b0 : decide (1 < (t1020.length : Int)) = true:=decide_eq_true c39
       have c39b1 : decide (1 < t1020.length) = true:=decide_eq_true (by omega)
       clear c39
       replace H':=am H
       try go_wp2
       replace HO_6:=am (Kd.R_drew HO_6.out)
       replace HO_10:=am (Kd.R_drew HO_10.out)
       replace HO_1006000:=am (Kd.V_drew HO_1006000.out)
       replace HO_1011000:=am (Kd.V_drew HO_1011000.out)
       replace HO_1011002:=am (Kd.R_drew HO_1011002.out)
       replace BK1005:=am (blk_drew BK1005.out)
       replace BK1006:=am (blk_drew BK1006.out)
       replace BK1010:=am (blk_drew BK1010.out)
       replace HB:=am (below_drew1 HB.out)
       obtain ⟨Ao41,co41,eo41⟩:=Kd.R_slice HO_10.out
       (first | subst eo41 | (injection eo41 with f1_ f2_ f3_;have f4_:=f1_.symm;have f5_:=f3_.symm;clear f1_ f2_ f3_;subst f4_;subst f5_))
       have p1026 : 0≤(0 : Int):=(by omega)
       have q1026 : 0 < (t1020.length : Int):=of_decide_eq_true (by assumption)
       obtain ⟨ad1026,e1026,hx1026_0⟩:=Kd.at_int (Kd.R_reads' HO_10.out).2.2 0 p1026 q1026
       cases e1026
       have qi1026 : (0 < t1020.length) = True:=eq_true (by omega)
       (try rw [show ((0 : Int)).toNat = 0 from rfl] at hx1026_0)
       (try rw [Addr.add_zero'] at hx1026_0)
       replace p1026:=eq_true p1026
       replace q1026:=eq_true q1026
       have p1027 : 0≤(1 : Int):=(by omega)
       have q1027 : 1 < (t1020.length : Int):=of_decide_eq_true (by assumption)
       obtain ⟨ad1027,e1027,hx1027_0⟩:=Kd.at_int (Kd.R_reads' HO_10.out).2.2 1 p1027 q1027
       obtain rfl : ad1026 = ad1027:=(by injection e1027)
       (try simp only [show (1 : Int).toNat = 1 from rfl,Nat.reduceMul,Nat.reduceEqDiff,Go.Addr.add,↓reduceIte] at hx1027_0)
       have qi1027 : (1 < t1020.length) = True:=eq_true (by omega)
       (try rw [show ((1 : Int)).toNat = 1 from rfl] at hx1027_0)
       replace p1027:=eq_true p1027
       replace q1027:=eq_true q1027
       refine start_ (n:=10) (S:=fun w'=>w'.cell? ad1026 = some (.int .i64 (rd t1020 0))∧w'.cell? ⟨ad1026.block,ad1026.off + 1,none⟩ = some (.int .i64 (rd t1020 1))) (ds:=[]) (ba 10 0) (by kernel_rfl) rfl rfl ⟨hx1026_0,hx1027_0⟩ (fun hHeld=>?_);refine with_tabW q4_Read.tab11 q4_Read.bits11 (fun HT_ HW_=>?_)
       generalize wc.drew = w40 at HO_6 HO_10 HO_1006000 HO_1011000 HO_1011002 BK1005 BK1006 BK1010 HB hx1026_0 hx1027_0 hHeld ⊢
       refine pure_ (i:=0) (N:=some 56) (v:=?_) (a':=?_) (ba 10 1) rfl rfl (any_of HT_.out (by kernel_rfl)) (fun _ _ _ h=>h) (Or.inl ⟨by rfl,?_⟩) ?_ ?_
       rotate_left
       ·intro w'
        go_simp
        with_reducible rfl
       rotate_left
       ·simp only [Act.put,NRM]
        rfl
       refine pure_ (i:=1) (N:=some 57) (v:=?_) (a':=?_) (ba 10 3) rfl rfl (any_of HT_.out (by kernel_rfl)) (fun _ _ _ h=>h) (Or.inl ⟨by rfl,?_⟩) ?_ ?_
       rotate_left
       ·intro w'
        go_simp
        with_reducible rfl
       rotate_left
       ·simp only [Act.put,NRM]
        rfl
       refine pure_ (i:=3) (N:=some 59) (v:=?_) (a':=?_) (ba 10 11) rfl rfl (any_of HT_.out (by kernel_rfl)) (fun _ _ _ h=>h) (Or.inl ⟨by rfl,?_⟩) ?_ ?_
       rotate_left
       ·intro w'
        go_simp
        with_reducible rfl
       rotate_left
       ·simp only [Act.put,NRM]
        rfl
       refine pure_ (i:=4) (N:=some 60) (v:=?_) (a':=?_) (ba 10 27) rfl rfl (any_of HT_.out (by kernel_rfl)) (fun _ _ _ h=>h) (Or.inl ⟨by rfl,?_⟩) ?_ ?_
       rotate_left
       ·intro w'
        go_simp
        with_reducible rfl
       rotate_left
       ·simp only [Act.put,NRM]
        rfl
       refine take_ (i:=2) (N:=some 58) (v:=?_) (a':=?_) (ba 10 31) rfl rfl (take_ofW HT_.out HW_.out (by kernel_rfl)) (fun _ _ _ h=>h) (Or.inl ⟨by rfl,?_⟩) hHeld ?_ ?_
       rotate_left
       ·rintro w' ⟨s0,s1⟩
        go_simp
        with_reducible rfl
       rotate_left
       ·simp only [Act.put,NRM]
        rfl
       refine pure_ (i:=6) (N:=some 62) (v:=?_) (a':=?_) (ba 10 95) rfl rfl (any_of HT_.out (by kernel_rfl)) (fun _ _ _ h=>h) (Or.inl ⟨by rfl,?_⟩) ?_ ?_
       rotate_left
       ·intro w'
        go_simp
        with_reducible rfl
       rotate_left
       ·simp only [Act.put,NRM]
        rfl
       refine take_ (i:=5) (N:=some 61) (v:=?_) (a':=?_) (ba 10 127) rfl rfl (take_ofW HT_.out HW_.out (by kernel_rfl)) (fun _ _ _ h=>h) (Or.inl ⟨by rfl,?_⟩) hHeld ?_ ?_
       rotate_left
       ·rintro w' ⟨s0,s1⟩
        go_simp
        with_reducible rfl
       rotate_left
       ·simp only [Act.put,NRM]
        rfl
       refine one_ (i:=7) (N:=none) (ba 10 255) rfl rfl (one_of HT_.out (by kernel_rfl)) (by decide) (fun K hK=>?_)
       have hs42 : w40.cell? ⟨gb1010,3,none⟩ = some (.int .i64 x1011003_1):=(blk_cell BK1010.out 3).trans rfl
       have hfs42:=blk_frozen BK1010.out 3
       have hns42_0:=NB1005_1010.out
       have hns42_1:=NB1006_1010.out
       have hms42_0:=NB1010_1005.out
       have hms42_1:=NB1010_1006.out
       refine skip_ (w1:=?_) (by rfl) rfl ?_ ?_
       rotate_left
       ·go_simp
        rfl
       refine hK.out _ _ ⟨((cell_far (p:=⟨gb1010,_,none⟩) (by first | exact Kd.own_blk (Kd.R_ne HO_10.out BK1010.out (by decide)) | (rw [add_block];exact Kd.own_blk (Kd.R_ne HO_10.out BK1010.out (by decide))) | (show (Addr.add _ _).block ≠ _;rw [add_block];exact Kd.own_blk (Kd.R_ne HO_10.out BK1010.out (by decide))) | (dsimp only;exact Kd.own_blk (Kd.R_ne HO_10.out BK1010.out (by decide)))) _).trans (hHeld.1)),((cell_far (p:=⟨gb1010,_,none⟩) (by first | exact Kd.own_blk (Kd.R_ne HO_10.out BK1010.out (by decide)) | (rw [add_block];exact Kd.own_blk (Kd.R_ne HO_10.out BK1010.out (by decide))) | (show (Addr.add _ _).block ≠ _;rw [add_block];exact Kd.own_blk (Kd.R_ne HO_10.out BK1010.out (by decide))) | (dsimp only;exact Kd.own_blk (Kd.R_ne HO_10.out BK1010.out (by decide)))) _).trans (hHeld.2))⟩ (fun hHeld=>?_)
       clear hK K
       refine pure_ (i:=8) (N:=some 63) (v:=?_) (a':=?_) (ba 10 511) rfl rfl (any_of HT_.out (by kernel_rfl)) (fun _ _ _ h=>h) (Or.inl ⟨by rfl,?_⟩) ?_ ?_
       rotate_left
       ·intro w'
        go_simp
        with_reducible rfl
       rotate_left
       ·simp only [Act.put,NRM]
        rfl
       refine one_ (i:=9) (N:=none) (ba 10 1023) rfl rfl (one_of HT_.out (by kernel_rfl)) (by decide) (fun K hK=>?_)
       have hs43 : w40.cell? ⟨gb1010,4,none⟩ = some (.int .i64 x1011004_1):=(blk_cell BK1010.out 4).trans rfl
       have hfs43:=blk_frozen BK1010.out 4
       have hns43_0:=NB1005_1010.out
       have hns43_1:=NB1006_1010.out
       have hms43_0:=NB1010_1005.out
       have hms43_1:=NB1010_1006.out
       refine skip_ (w1:=?_) (by rfl) rfl ?_ ?_
       rotate_left
       ·go_simp
        rfl
       refine hK.out _ _ ⟨((cell_far (p:=⟨gb1010,_,none⟩) (by first | exact Kd.own_blk (Kd.R_ne HO_10.out BK1010.out (by decide)) | (rw [add_block];exact Kd.own_blk (Kd.R_ne HO_10.out BK1010.out (by decide))) | (show (Addr.add _ _).block ≠ _;rw [add_block];exact Kd.own_blk (Kd.R_ne HO_10.out BK1010.out (by decide))) | (dsimp only;exact Kd.own_blk (Kd.R_ne HO_10.out BK1010.out (by decide)))) _).trans (hHeld.1)),((cell_far (p:=⟨gb1010,_,none⟩) (by first | exact Kd.own_blk (Kd.R_ne HO_10.out BK1010.out (by decide)) | (rw [add_block];exact Kd.own_blk (Kd.R_ne HO_10.out BK1010.out (by decide))) | (show (Addr.add _ _).block ≠ _;rw [add_block];exact Kd.own_blk (Kd.R_ne HO_10.out BK1010.out (by decide))) | (dsimp only;exact Kd.own_blk (Kd.R_ne HO_10.out BK1010.out (by decide)))) _).trans (hHeld.2))⟩ (fun hHeld=>?_)
       clear hK K
       refine done_ (done_of HT_.out (by kernel_rfl)) ?_
       try go_wp2
       go_roundg kj18
       case measure=>have:=HK1.out;have:=HJ18.out;omega
       case rel=>exact ⟨(wrap64 (x8_1 + 1)),(x1007001_1),(x1007003_1),(x1007004_1),(x1011002_1),(rd t1020 0),(rd t1020 1),(u1011002),(by first | rfl | (simp;done) | (simp [*];done)),H',⟨by have:=HK1.out;have:=HJ18.out;omega⟩,⟨by (with_reducible repeat (first | apply Kd.R_alloc | apply Kd.R_drewN | apply Kd.R_drew));exact Kd.R_mono (Kd.R_far (p:=⟨gb1010,4,none⟩) (Kd.R_far (p:=⟨gb1010,3,none⟩) (Kd.R_types HO_6.out BK1010.out (by decide)) (fun _ hk=>hk.2) (.int .i64 (rd t1020 0))) (fun _ hk=>hk.2) (.int .i64 (rd t1020 1))) (fun _ hk=>hk.1)⟩,⟨by (with_reducible repeat (first | apply Kd.V_alloc | apply Kd.V_drewN | apply Kd.V_drew));exact Kd.V_mono (Kd.V_far (p:=⟨gb1010,4,none⟩) (Kd.V_far (p:=⟨gb1010,3,none⟩) (Kd.V_mono HO_1006000.out (fun k_ hk=>(⟨hk,hk.2.2.2.2.2.2⟩ : _∧k_ ≠ gb1010))) (fun _ hk=>hk.2) (.int .i64 (rd t1020 0))) (fun _ hk=>hk.2) (.int .i64 (rd t1020 1))) (fun _ hk=>⟨hk.1.1,⟨hk.1.2.1,⟨hk.1.2.2.2.1,⟨hk.1.2.2.2.2.1,⟨hk.1.2.2.2.2.2.1,hk.1.2.2.2.2.2.2⟩⟩⟩⟩⟩)⟩,⟨by (with_reducible repeat (first | apply Kd.V_alloc | apply Kd.V_drewN | apply Kd.V_drew));exact Kd.V_mono (Kd.V_far (p:=⟨gb1010,4,none⟩) (Kd.V_far (p:=⟨gb1010,3,none⟩) (Kd.V_mono HO_1011000.out (fun k_ hk=>(⟨hk,hk.2.2.2.2.2.2⟩ : _∧k_ ≠ gb1010))) (fun _ hk=>hk.2) (.int .i64 (rd t1020 0))) (fun _ hk=>hk.2) (.int .i64 (rd t1020 1))) (fun _ hk=>⟨hk.1.1,⟨hk.1.2.1,⟨hk.1.2.2.2.1,⟨hk.1.2.2.2.2.1,⟨hk.1.2.2.2.2.2.1,hk.1.2.2.2.2.2.2⟩⟩⟩⟩⟩)⟩,⟨by (with_reducible repeat (first | apply Kd.R_alloc | apply Kd.R_drewN | apply Kd.R_drew));exact Kd.R_mono (Kd.R_far (p:=⟨gb1010,4,none⟩) (Kd.R_far (p:=⟨gb1010,3,none⟩) (Kd.R_types HO_1011002.out BK1010.out (by decide)) (fun _ hk=>hk.2) (.int .i64 (rd t1020 0))) (fun _ hk=>hk.2) (.int .i64 (rd t1020 1))) (fun _ hk=>hk.1)⟩,⟨(blk_far (blk_far BK1005.out NB1005_1010.out _) NB1005_1010.out _)⟩,⟨(blk_far (blk_far BK1006.out NB1006_1010.out _) NB1006_1010.out _)⟩,⟨(blk_put (cs:=#[.slice A0_0 l0_0.length c0_0,.int .i64 a0_1,u1011002,.int .i64 (rd t1020 0),.int .i64 x1011004_1]) (blk_put (cs:=#[.slice A0_0 l0_0.length c0_0,.int .i64 a0_1,u1011002,.int .i64 x1011003_1,.int .i64 x1011004_1]) BK1010.out 3 _ rfl) 4 _ rfl)⟩,⟨by repeat (first | (with_reducible first | exact HB.out | refine below_set ?_ (Aside0.out (by assumption)) | apply below_alloc | apply pw_below_drewN) | exact HB.out)⟩⟩
      ·rw [if_neg c37] at H
       have c37b0 : (x8_1 == 0) = false:=beq_eq_false_iff_ne.mpr c37
       have c37b1 : (x8_1 != 0) = true:=bne_iff_ne.mpr c37
       by_cases c44 : 0 < (t1020.length : Int)
       case neg =>
        rw [if_neg c44] at H
        exact absurd H (by simp)
       rw [if_pos c44] at H
       have c44b0 : decide (0 < (t1020.length : Int)) = true:=decide_eq_true c44
       have c44b1 : decide (0 < t1020.length) = true:=decide_eq_true (by omega)
       clear c44
       by_cases c45 : 1 < (t1020.length : Int)
       case neg =>
        rw [if_neg c45] at H
        exact absurd H (by simp)
       rw [if_pos c45] at H
       have c45b0 : decide (1 < (t1020.length : Int)) = true:=decide_eq_true c45
       have c45b1 : decide (1 < t1020.length) = true:=decide_eq_true (by omega)
       clear c45
       by_cases c46 : x1011002_1.length < 8796093022208
       case neg =>
        rw [if_neg c46] at H
        exact absurd H (by simp)
       rw [if_pos c46] at H
       have LMc46:=am c46
       clear c46
       obtain ⟨y1030,hy1030⟩ : ∃ y_ : List (S48),y_ = (x1011002_1 ++ [(⟨rd t1020 0,rd t1020 1⟩ : S48)]):=⟨_,rfl⟩
       replace H : (q4_Read.l0 kj18 a1 t1007 (wrap64 (x8_1 + 1)) l0_0 a0_1 y1030 x1011003_1 x1011004_1) = some (r1,r2,r3,r4,r5,r6):=by first | (rw [hy1030];with_reducible exact H) | (have H2_:=(Option.bind_some _ _).symm.trans H;rw [hy1030];with_reducible exact H2_) | (have H2_:=(Option.bind_some _ _).symm.trans H;with_reducible exact H2_) | with_reducible exact H | (rw [hy1030];exact H) | exact H
       have Ny1030:=am hy1030
       clear hy1030
       replace H':=am H
       try go_wp2
       replace HO_6:=am (Kd.R_drew HO_6.out)
       replace HO_10:=am (Kd.R_drew HO_10.out)
       replace HO_1006000:=am (Kd.V_drew HO_1006000.out)
       replace HO_1011000:=am (Kd.V_drew HO_1011000.out)
       replace HO_1011002:=am (Kd.R_drew HO_1011002.out)
       replace BK1005:=am (blk_drew BK1005.out)
       replace BK1006:=am (blk_drew BK1006.out)
       replace BK1010:=am (blk_drew BK1010.out)
       replace HB:=am (below_drew1 HB.out)
       obtain ⟨Ao48,co48,eo48⟩:=Kd.R_slice HO_10.out
       (first | subst eo48 | (injection eo48 with f1_ f2_ f3_;have f4_:=f1_.symm;have f5_:=f3_.symm;clear f1_ f2_ f3_;subst f4_;subst f5_))
       have p1028 : 0≤(0 : Int):=(by omega)
       have q1028 : 0 < (t1020.length : Int):=of_decide_eq_true (by assumption)
       obtain ⟨ad1028,e1028,hx1028_0⟩:=Kd.at_int (Kd.R_reads' HO_10.out).2.2 0 p1028 q1028
       cases e1028
       have qi1028 : (0 < t1020.length) = True:=eq_true (by omega)
       (try rw [show ((0 : Int)).toNat = 0 from rfl] at hx1028_0)
       (try rw [Addr.add_zero'] at hx1028_0)
       replace p1028:=eq_true p1028
       replace q1028:=eq_true q1028
       have p1029 : 0≤(1 : Int):=(by omega)
       have q1029 : 1 < (t1020.length : Int):=of_decide_eq_true (by assumption)
       obtain ⟨ad1029,e1029,hx1029_0⟩:=Kd.at_int (Kd.R_reads' HO_10.out).2.2 1 p1029 q1029
       obtain rfl : ad1028 = ad1029:=(by injection e1029)
       (try simp only [show (1 : Int).toNat = 1 from rfl,Nat.reduceMul,Nat.reduceEqDiff,Go.Addr.add,↓reduceIte] at hx1029_0)
       have qi1029 : (1 < t1020.length) = True:=eq_true (by omega)
       (try rw [show ((1 : Int)).toNat = 1 from rfl] at hx1029_0)
       replace p1029:=eq_true p1029
       replace q1029:=eq_true q1029
       refine start_ (n:=13) (S:=fun w'=>w'.cell? ⟨gb1010,0,none⟩ = some (.slice A0_0 l0_0.length c0_0)∧w'.cell? ⟨gb1010,1,none⟩ = some (.int .i64 a0_1)∧w'.cell? ⟨gb1010,2,none⟩ = some (u1011002)∧w'.cell? ⟨gb1010,3,none⟩ = some (.int .i64 x1011003_1)∧w'.cell? ⟨gb1010,4,none⟩ = some (.int .i64 x1011004_1)∧w'.cell? ad1028 = some (.int .i64 (rd t1020 0))∧w'.cell? ⟨ad1028.block,ad1028.off + 1,none⟩ = some (.int .i64 (rd t1020 1))) (ds:=[10,12]) (ba 13 0) (by kernel_rfl) rfl rfl ⟨(blk_cell BK1010.out 0).trans rfl,(blk_cell BK1010.out 1).trans rfl,(blk_cell BK1010.out 2).trans rfl,(blk_cell BK1010.out 3).trans rfl,(blk_cell BK1010.out 4).trans rfl,hx1028_0,hx1029_0⟩ (fun hHeld=>?_);refine with_tabW q4_Read.tab12 q4_Read.bits12 (fun HT_ HW_=>?_)
       generalize wc.drew = w47 at HO_6 HO_10 HO_1006000 HO_1011000 HO_1011002 BK1005 BK1006 BK1010 HB hx1028_0 hx1029_0 hHeld ⊢
       refine pure_ (i:=0) (N:=some 64) (v:=?_) (a':=?_) (ba 13 1) rfl rfl (any_of HT_.out (by kernel_rfl)) (fun _ _ _ h=>h) (Or.inl ⟨by rfl,?_⟩) ?_ ?_
       rotate_left
       ·intro w'
        go_simp
        with_reducible rfl
       rotate_left
       ·simp only [Act.put,NRM]
        rfl
       refine pure_ (i:=2) (N:=some 66) (v:=?_) (a':=?_) (ba 13 5) rfl rfl (any_of HT_.out (by kernel_rfl)) (fun _ _ _ h=>h) (Or.inl ⟨by rfl,?_⟩) ?_ ?_
       rotate_left
       ·intro w'
        go_simp
        with_reducible rfl
       rotate_left
       ·simp only [Act.put,NRM]
        rfl
       refine pure_ (i:=3) (N:=some 67) (v:=?_) (a':=?_) (ba 13 13) rfl rfl (any_of HT_.out (by kernel_rfl)) (fun _ _ _ h=>h) (Or.inl ⟨by rfl,?_⟩) ?_ ?_
       rotate_left
       ·intro w'
        go_simp
        with_reducible rfl
       rotate_left
       ·simp only [Act.put,NRM]
        rfl
       refine pure_ (i:=5) (N:=some 69) (v:=?_) (a':=?_) (ba 13 45) rfl rfl (any_of HT_.out (by kernel_rfl)) (fun _ _ _ h=>h) (Or.inl ⟨by rfl,?_⟩) ?_ ?_
       rotate_left
       ·intro w'
        go_simp
        with_reducible rfl
       rotate_left
       ·simp only [Act.put,NRM]
        rfl
       refine pure_ (i:=6) (N:=some 70) (v:=?_) (a':=?_) (ba 13 109) rfl rfl (any_of HT_.out (by kernel_rfl)) (fun _ _ _ h=>h) (Or.inl ⟨by rfl,?_⟩) ?_ ?_
       rotate_left
       ·intro w'
        go_simp
        with_reducible rfl
       rotate_left
       ·simp only [Act.put,NRM]
        rfl
       refine take_ (i:=1) (N:=some 65) (v:=?_) (a':=?_) (ba 13 111) rfl rfl (take_ofW HT_.out HW_.out (by kernel_rfl)) (fun _ _ _ h=>h) (Or.inl ⟨by rfl,?_⟩) hHeld ?_ ?_
       rotate_left
       ·rintro w' ⟨s0,s1,s2,s3,s4,s5,s6⟩
        go_simp
        with_reducible rfl
       rotate_left
       ·simp only [Act.put,NRM]
        rfl
       refine take_ (i:=4) (N:=some 68) (v:=?_) (a':=?_) (ba 13 127) rfl rfl (take_ofW HT_.out HW_.out (by kernel_rfl)) (fun _ _ _ h=>h) (Or.inl ⟨by rfl,?_⟩) hHeld ?_ ?_
       rotate_left
       ·rintro w' ⟨s0,s1,s2,s3,s4,s5,s6⟩
        go_simp
        with_reducible rfl
       rotate_left
       ·simp only [Act.put,NRM]
        rfl
       refine take_ (i:=7) (N:=some 71) (v:=?_) (a':=?_) (ba 13 255) rfl rfl (take_ofW HT_.out HW_.out (by kernel_rfl)) (fun _ _ _ h=>h) (Or.inl ⟨by rfl,?_⟩) hHeld ?_ ?_
       rotate_left
       ·rintro w' ⟨s0,s1,s2,s3,s4,s5,s6⟩
        go_simp
        with_reducible rfl
       rotate_left
       ·simp only [Act.put,NRM]
        rfl
       refine pure_ (i:=8) (N:=some 72) (v:=?_) (a':=?_) (ba 13 511) rfl rfl (any_of HT_.out (by kernel_rfl)) (fun _ _ _ h=>h) (Or.inl ⟨by rfl,?_⟩) ?_ ?_
       rotate_left
       ·intro w'
        go_simp
        with_reducible rfl
       rotate_left
       ·simp only [Act.put,NRM]
        rfl
       refine one_ (i:=9) (N:=some 73) (ba 13 1023) rfl rfl (one_of HT_.out (by kernel_rfl)) (by decide) (fun K hK=>?_)
       refine value_ (w1:=?_) (v:=?_) (by rfl) rfl ?_ ?_
       rotate_left 2
       ·go_simp
        constructor
        ·rfl
        ·rfl
       refine hK.out _ _ ⟨(blk_cell (blk_alloc BK1010.out _) 0).trans rfl,(blk_cell (blk_alloc BK1010.out _) 1).trans rfl,(blk_cell (blk_alloc BK1010.out _) 2).trans rfl,(blk_cell (blk_alloc BK1010.out _) 3).trans rfl,(blk_cell (blk_alloc BK1010.out _) 4).trans rfl,(World.cell?_alloc_lt _ _ _ (World.block_lt_of_cell? _ _ (hHeld.2.2.2.2.2.1))).trans (hHeld.2.2.2.2.2.1),(World.cell?_alloc_lt _ _ _ (World.block_lt_of_cell? _ _ (hHeld.2.2.2.2.2.2))).trans (hHeld.2.2.2.2.2.2)⟩ (fun hHeld=>?_)
       clear hK K
       refine norm_ (a':=?_) ?_ ?_
       rotate_left
       ·show Act.put _ (some 73) _ = _
        simp only [Act.put,NRM]
        rfl
       refine last_ (i:=10) (N:=some 74) (ba 13 2047) rfl rfl (one_of HT_.out (by kernel_rfl)) (by decide) (fun K hK=>?_)
       refine Kd.R_append_step k48 (w0:=w) w.heap.size (by rfl) (.tmp 65) (.tmp 73) 25 48 (.agg #[(.int .i64 0),(.int .i64 0)]) 16 rfl Tryz.underlying25 info48 rfl (by decide) (by omega) u1011002 x1011002_1 (⟨rd t1020 0,rd t1020 1⟩ : S48) [.int .i64 (rd t1020 0),.int .i64 (rd t1020 1)] (fun k_=>(w.heap.size≤k_)) (fun _=>False) rfl rfl ?aP (fun _ hk=>hk.elim) ?aF ?aO ?aB ?aS ?aL ?_
       (case aP=>exact k48_mkM _ _ _ (⟨rd t1020 0,rd t1020 1⟩ : S48))
       (case aB=>exact (HB.out))
       (case aF=>exact (fun k_ hk=>(Nat.le_trans (below_size (HB.out)) hk)))
       (case aO=>exact HO_1011002.out)
       (case aS=>exact (below_size (HB.out)))
       (case aL=>have:=LMc46.out;omega)
       intro v1031 w49 ho hb hg hat
       rw [← Ny1030.out] at ho
       have n0_:=am (Kd.R_over' HO_6.out (Kd.R_typed HO_1011002.out) (by decide) hg)
       have n1_:=am (Kd.R_over' HO_10.out (Kd.R_typed HO_1011002.out) (by decide) hg)
       have n2_:=am (Kd.V_afterv (ok:=(fun k_=>(P0_0_ k_∨w.heap.size≤k_)∧some k_ ≠ (.slice (some ad1012) t1007.length co20 : Value).ownBlock∧some k_ ≠ (.slice (some ad1028) t1020.length co48 : Value).ownBlock∧k_ ≠ gb1005∧k_ ≠ gb1006∧k_ ≠ gb1010)) (Kd.V_mono HO_1006000.out (fun _ hk=>⟨⟨hk.1,⟨hk.2.1,⟨hk.2.2.1,⟨hk.2.2.2.2.1,⟨hk.2.2.2.2.2.1,hk.2.2.2.2.2.2⟩⟩⟩⟩⟩,hk.2.2.2.1⟩)) hg hat)
       have n3_:=am (Kd.V_afterv (ok:=(fun k_=>(P0_0_ k_∨w.heap.size≤k_)∧some k_ ≠ (.slice (some ad1012) t1007.length co20 : Value).ownBlock∧some k_ ≠ (.slice (some ad1028) t1020.length co48 : Value).ownBlock∧k_ ≠ gb1005∧k_ ≠ gb1006∧k_ ≠ gb1010)) (Kd.V_mono HO_1011000.out (fun _ hk=>⟨⟨hk.1,⟨hk.2.1,⟨hk.2.2.1,⟨hk.2.2.2.2.1,⟨hk.2.2.2.2.2.1,hk.2.2.2.2.2.2⟩⟩⟩⟩⟩,hk.2.2.2.1⟩)) hg hat)
       have n4_:=am (blk_grown (g:=gb1005) (o:=.cells #[.slice A0_0 l0_0.length c0_0,.int .i64 a0_1] 24 (0,0)) BK1005.out hg (Kd.R_ne HO_1011002.out BK1005.out (by decide)))
       have n5_:=am (blk_grown (g:=gb1006) (o:=.cells #[.slice none 0 0,.int .i64 x1007001_1,.slice none 0 0,.int .i64 x1007003_1,.int .i64 x1007004_1] 27 (0,0)) BK1006.out hg (Kd.R_ne HO_1011002.out BK1006.out (by decide)))
       have n6_:=am (blk_grown (g:=gb1010) (o:=.cells #[.slice A0_0 l0_0.length c0_0,.int .i64 a0_1,u1011002,.int .i64 x1011003_1,.int .i64 x1011004_1] 27 (0,0)) BK1010.out hg (Kd.R_ne HO_1011002.out BK1010.out (by decide)))
       have n7_:=am (hb)
       have n8_:=am (ho)
       clear HO_6
       clear HO_10
       clear HO_1006000
       clear HO_1011000
       clear BK1005
       clear BK1006
       clear BK1010
       clear HB
       clear HO_1011002
       have HO_6:=n0_
       have HO_10:=n1_
       have HO_1006000:=n2_
       have HO_1011000:=n3_
       have BK1005:=n4_
       have BK1006:=n5_
       have BK1010:=n6_
       have HB:=n7_
       have HO1032:=n8_
       clear n0_ n1_ n2_ n3_ n4_ n5_ n6_ n7_ n8_
       clear ho hb hg hat
       obtain ⟨Ao50,co50,eo50⟩:=Kd.R_slice HO1032.out
       (first | subst eo50 | (injection eo50 with f1_ f2_ f3_;have f4_:=f1_.symm;have f5_:=f3_.symm;clear f1_ f2_ f3_;subst f4_;subst f5_))
       refine hK.out _ _ ?_
       clear hK K
       refine norm_ (a':=?_) ?_ ?_
       rotate_left
       ·show Act.put _ (some 74) _ = _
        simp only [Act.put,NRM]
        rfl
       refine pure_ (i:=11) (N:=some 75) (v:=?_) (a':=?_) (ba 13 4095) rfl rfl (any_of HT_.out (by kernel_rfl)) (fun _ _ _ h=>h) (Or.inl ⟨by rfl,?_⟩) ?_ ?_
       rotate_left
       ·intro w'
        go_simp
        with_reducible rfl
       rotate_left
       ·simp only [Act.put,NRM]
        rfl
       refine last_ (i:=12) (N:=none) (ba 13 8191) rfl rfl (one_of HT_.out (by kernel_rfl)) (by decide) (fun K hK=>?_)
       have hs51 : w49.cell? ⟨gb1010,2,none⟩ = some (u1011002):=(blk_cell BK1010.out 2).trans rfl
       have hfs51:=blk_frozen BK1010.out 2
       have hns51_0:=NB1005_1010.out
       have hns51_1:=NB1006_1010.out
       have hms51_0:=NB1010_1005.out
       have hms51_1:=NB1010_1006.out
       refine skip_ (w1:=?_) (by rfl) rfl ?_ ?_
       rotate_left
       ·go_simp
        rfl
       refine hK.out _ _ ?_
       clear hK K
       refine done_ (done_of HT_.out (by kernel_rfl)) ?_
       try go_wp2
       go_roundg kj18
       case measure=>have:=HK1.out;have:=HJ18.out;omega
       case rel=>exact ⟨(wrap64 (x8_1 + 1)),(x1007001_1),(x1007003_1),(x1007004_1),(y1030),(x1011003_1),(x1011004_1),(.slice Ao50 y1030.length co50),(by first | rfl | (simp;done) | (simp [*];done)),H',⟨by have:=HK1.out;have:=HJ18.out;omega⟩,⟨by (with_reducible repeat (first | apply Kd.R_alloc | apply Kd.R_drewN | apply Kd.R_drew));exact Kd.R_mono (Kd.R_far (p:=⟨gb1010,2,none⟩) (Kd.R_types HO_6.out BK1010.out (by decide)) (fun _ hk=>hk.2) (.slice Ao50 y1030.length co50)) (fun _ hk=>hk.1)⟩,⟨by (with_reducible repeat (first | apply Kd.V_alloc | apply Kd.V_drewN | apply Kd.V_drew));exact Kd.V_mono (Kd.V_far (p:=⟨gb1010,2,none⟩) (Kd.V_mono HO_1006000.out (fun k_ hk=>(⟨hk,hk.1.2.2.2.2.2⟩ : _∧k_ ≠ gb1010))) (fun _ hk=>hk.2) (.slice Ao50 y1030.length co50)) (fun _ hk=>⟨hk.1.1.1,⟨hk.1.1.2.1,⟨hk.1.2,⟨hk.1.1.2.2.2.1,⟨hk.1.1.2.2.2.2.1,hk.1.1.2.2.2.2.2⟩⟩⟩⟩⟩)⟩,⟨by (with_reducible repeat (first | apply Kd.V_alloc | apply Kd.V_drewN | apply Kd.V_drew));exact Kd.V_mono (Kd.V_far (p:=⟨gb1010,2,none⟩) (Kd.V_mono HO_1011000.out (fun k_ hk=>(⟨hk,hk.1.2.2.2.2.2⟩ : _∧k_ ≠ gb1010))) (fun _ hk=>hk.2) (.slice Ao50 y1030.length co50)) (fun _ hk=>⟨hk.1.1.1,⟨hk.1.1.2.1,⟨hk.1.2,⟨hk.1.1.2.2.2.1,⟨hk.1.1.2.2.2.2.1,hk.1.1.2.2.2.2.2⟩⟩⟩⟩⟩)⟩,⟨by (with_reducible repeat (first | apply Kd.R_alloc | apply Kd.R_drewN | apply Kd.R_drew));exact Kd.R_mono (Kd.R_far (p:=⟨gb1010,2,none⟩) (Kd.R_types HO1032.out BK1010.out (by decide)) (fun _ hk=>hk.2) (.slice Ao50 y1030.length co50)) (fun _ hk=>hk.1)⟩,⟨(blk_far BK1005.out NB1005_1010.out _)⟩,⟨(blk_far BK1006.out NB1006_1010.out _)⟩,⟨(blk_put (cs:=#[.slice A0_0 l0_0.length c0_0,.int .i64 a0_1,u1011002,.int .i64 x1011003_1,.int .i64 x1011004_1]) BK1010.out 2 _ rfl)⟩,⟨by repeat (first | (with_reducible first | exact HB.out | refine below_set ?_ (Aside0.out (by assumption)) | apply below_alloc | apply pw_below_drewN) | exact HB.out)⟩⟩
end
end Go.Proofs.YtnnmnhpeblhiiaaGreatDoor.C
namespace Go.Abs
open Go.RowKit Go.Proofs.YtnnmnhpeblhiiaaGreatDoorW.PrintWords Go.Proofs.YtnnmnhpeblhiiaaGreatDoorW.PrintMore
set_option linter.unusedVariables false
set_option linter.unusedSimpArgs false
set_option maxHeartbeats 16000000
set_option maxRecDepth 100000
noncomputable def capOk (k : Nat) (s : St) (v : AV) : Bool:=
 match v with
 | .nilSlice=>true
 | .slice _ _ n c=>Nat.ble n c
 | .opn b n=>match s.heap.get b with
  | some (.cells _ (some k') cs)=>Nat.beq k' k && Nat.ble 1 k && Nat.ble (n * k) cs.length
  | some (.ro _ (some k') cs)=>Nat.beq k' k && Nat.ble 1 k && Nat.ble (n * k) cs.length
  | _=>false
 | _=>false
theorem capOk_le {e : Env} {s : St} {w : World} (hs : Sim e s w) {k n m c : Nat} {v : AV} {A : Option Addr} (h : capOk k s v = true) (hx : conc e v = some (.slice A m c)) : m≤c:=by
 unfold capOk at h
 split at h
 ·simp only [conc,Option.some.injEq,Value.slice.injEq] at hx;omega
 ·simp only [conc,Option.map_eq_some_iff,Value.slice.injEq] at hx
  obtain ⟨p,_,_,rfl,rfl⟩:=hx
  exact Nat.le_of_ble_eq_true h
 ·simp only [conc,Option.map_eq_some_iff,Value.slice.injEq] at hx
  obtain ⟨p,hp,_,rfl,rfl⟩:=hx
  have key : ∀ {n' k' : Nat} {cs : List AV} {vs rest : List Value},(Nat.beq k' k && Nat.ble 1 k && Nat.ble (n' * k) cs.length) = true→concL e cs = some vs→(vs ++ rest).length = p.2 * k'→n'≤p.2:=by
   intro n' k' cs vs rest h h1 h2
   simp only [Bool.and_eq_true,Nat.beq_eq,Nat.ble_eq] at h
   obtain ⟨⟨rfl,h3⟩,h4⟩:=h
   rw [List.length_append,concL_length h1] at h2
   exact Nat.le_of_mul_le_mul_right (by omega : n' * k'≤p.2 * k') (by omega)
  split at h
  ·rename_i hb
   obtain ⟨b,q,ob,he,_,vs,rest,h1,rfl,h2⟩:=hs.at_ _ _ hb
   rw [hp] at he;cases he
   exact key h h1 h2
  ·rename_i hb
   obtain ⟨b,q,ob,he,_,vs,rest,h1,rfl,h2⟩:=hs.at_ _ _ hb
   rw [hp] at he;cases he
   exact key h h1 (h2 _ rfl)
  ·cases h
 ·cases h
theorem first_cells {e : Env} {s : St} {w : World} (hs : Sim e s w) {m n c : Nat} {v : AV} {cs : List AV} {A : Option Addr} (h : firstA m v s = some cs) (hx : conc e v = some (.slice A n c)) (hm : 0 < m) :
 ∃ ad vs,A = some ad∧concL e cs = some vs∧∀ i u,vs[i]? = some u→w.cell? (ad.add i) = some u:=by
 have cell : ∀ {g o : Nat} {t : TypeId} {vs rest us : List Value},w.heap[g]? = some (.cells (vs ++ rest).toArray t (0,0))→(∀ i u,us[i]? = some u→vs[o + i]? = some u)→∀ i u,us[i]? = some u→w.cell? ((⟨g,o,none⟩ : Addr).add i) = some u:=by
  intro g o t vs rest us hg hus i u hu
  have h1:=hus i u hu
  have h2 : o + i < vs.length:=(List.getElem?_eq_some_iff.1 h1).1
  rw [addr_add]
  simp only [World.cell?,hg]
  simp only [Option.isSome_none,Bool.false_eq_true,if_false,List.getElem?_toArray]
  rw [List.getElem?_append_left h2];exact h1
 unfold firstA at h
 split at h
 ·split at h
  ·omega
  ·cases h
 ·simp only [Option.bind_eq_some_iff] at h
  obtain ⟨ds,hg,h⟩:=h
  split at h
  ·simp only [Option.some.injEq] at h;subst h
   obtain ⟨g,q,t,vs,rest,he,hb,hvs⟩:=rd_at hs hg
   simp only [conc,he,Option.map_some,Option.some.injEq,Value.slice.injEq] at hx
   obtain ⟨rfl,_,_⟩:=hx
   refine ⟨_,_,rfl,concL_take (concL_drop hvs _) _,cell hb fun i u hu=>?_⟩
   rw [List.getElem?_take] at hu
   split at hu
   ·rw [List.getElem?_drop] at hu;exact hu
   ·cases hu
  ·cases h
 ·simp only [Option.bind_eq_some_iff] at h
  obtain ⟨ds,hg,h⟩:=h
  split at h
  ·simp only [Option.some.injEq] at h;subst h
   obtain ⟨g,q,t,vs,rest,he,hb,hvs⟩:=rd_at hs hg
   simp only [conc,he,Option.map_some,Option.some.injEq,Value.slice.injEq] at hx
   obtain ⟨rfl,_,_⟩:=hx
   refine ⟨_,_,rfl,concL_take hvs _,cell hb fun i u hu=>?_⟩
   rw [List.getElem?_take] at hu
   split at hu
   ·rw [Nat.zero_add];exact hu
   ·cases hu
  ·cases h
 ·cases h
noncomputable def rdG {α : Type} (sz : Nat) (dec : List AV→Option (List α)) (s : St) (v : AV) : Option (List α):=
 if capOk sz s v then (lenSl v).bind fun n=>if Nat.ble n 1000000 then (firstA (n * sz) v s).bind fun cs=>(dec cs).bind fun xs=>if Nat.beq xs.length n then some xs else none else none else none
theorem rdG_ok {α : Type} {d : Kd α} {e : Env} {s : St} {w : World} (hs : Sim e s w) {dec : List AV→Option (List α)} (hsz : 0 < d.sz)
 (hdec : ∀ cs xs vs,dec cs = some xs→concL e cs = some vs→∀ j p,xs[j]? = some p→d.K w p ((vs.drop (j * d.sz)).take d.sz))
 {v : AV} {xs : List α} {x : Value} (h : rdG d.sz dec s v = some xs) (hx : conc e v = some x) : ∃ A c,x = .slice A xs.length c∧xs.length≤c∧d.C w A xs.length xs:=by
 unfold rdG at h
 split at h
 case isFalse=>cases h
 rename_i hcap
 simp only [Option.bind_eq_some_iff] at h
 obtain ⟨n,hn,h⟩:=h
 split at h
 case isFalse=>cases h
 rename_i hle
 simp only [Option.bind_eq_some_iff] at h
 obtain ⟨cs,hcs,xs',hxs,h⟩:=h
 split at h
 case isFalse=>cases h
 rename_i hlen
 cases h
 have hlen : xs.length = n:=Nat.eq_of_beq_eq_true hlen
 subst hlen
 obtain ⟨_,A,c,rfl⟩:=lenSl_run hn hx
 refine ⟨A,c,rfl,capOk_le hs (n:=0) hcap hx,rfl,by have:=Nat.le_of_ble_eq_true hle;omega,fun h0=>?_⟩
 obtain ⟨ad,vs,rfl,hvs,hcell⟩:=first_cells hs hcs hx (Nat.mul_pos h0 hsz)
 refine ⟨ad,rfl,fun j p hj=>⟨_,d.K_len (hdec cs xs vs hxs hvs j p hj),hdec cs xs vs hxs hvs j p hj,fun i u hu=>?_⟩⟩
 rw [List.getElem?_take] at hu
 split at hu
 ·rw [List.getElem?_drop] at hu
  exact hcell _ u hu
 ·cases hu
def intsA : List AV→Option (List Int)
 | []=>some []
 | .int .i64 a :: l=>(intsA l).map (a :: ·)
 | _=>none
theorem intsA_eq : ∀ {cs : List AV} {xs : List Int},intsA cs = some xs→cs = xs.map (.int .i64)
 | [],_,h=>by cases h;rfl
 | a :: l,xs,h=>by
  unfold intsA at h
  split at h
  ·cases ‹_ :: _ = []›
  ·rename_i heq;cases heq
   simp only [Option.map_eq_some_iff] at h
   obtain ⟨ys,h1,rfl⟩:=h
   rw [intsA_eq h1];rfl
  ·cases h
theorem concL_ints (e : Env) : ∀ xs : List Int,concL e (xs.map (.int .i64)) = some (xs.map (Value.int .i64))
 | []=>rfl
 | x :: xs=>by simp [concL,conc,concL_ints e xs]
noncomputable def rdInts : St→AV→Option (List Int):=rdG 1 intsA
theorem rdInts_ok {e : Env} {s : St} {w : World} (hs : Sim e s w) {v : AV} {xs : List Int} {x : Value} (h : rdInts s v = some xs) (hx : conc e v = some x) : ∃ A c,x = .slice A xs.length c∧xs.length≤c∧(Kd.int .i64).C w A xs.length xs:=by
 refine rdG_ok (d:=Kd.int .i64) hs (by show 0 < 1;omega) (fun cs xs vs h1 h2 j p hj=>?_) h hx
 rw [intsA_eq h1,concL_ints] at h2;cases h2
 show ((xs.map (Value.int .i64)).drop (j * 1)).take 1 = [.int .i64 p]
 have : (xs.map (Value.int .i64))[j * 1]? = some (.int .i64 p):=by simp [hj]
 rw [List.drop_eq_getElem?_toList_append]
 rw [this];rfl
noncomputable def eachA {α : Type} (f : AV→Option α) : List AV→Option (List α)
 | []=>some []
 | v :: l=>(f v).bind fun x=>(eachA f l).map (x :: ·)
theorem eachA_at {α : Type} {f : AV→Option α} : ∀ {cs : List AV} {xs : List α},eachA f cs = some xs→∀ {e : Env} {vs : List Value},concL e cs = some vs→∀ j p,xs[j]? = some p→∃ v y,f v = some p∧conc e v = some y∧(vs.drop (j * 1)).take 1 = [y]
 | [],_,h,e,vs,hv,j,p,hj=>by cases h;simp at hj
 | c :: cs,xs,h,e,vs,hv,j,p,hj=>by
  simp only [eachA,Option.bind_eq_some_iff,Option.map_eq_some_iff] at h
  obtain ⟨x,hx,ys,hys,rfl⟩:=h
  obtain ⟨y,zs,hy,hzs,rfl⟩:=concL_cons hv
  cases j with
  | zero=>cases hj;exact ⟨c,y,hx,hy,by simp⟩
  | succ j =>
   obtain ⟨v,y',h1,h2,h3⟩:=eachA_at hys hzs j p (by simpa using hj)
   exact ⟨v,y',h1,h2,by rw [show (j + 1) * 1 = j * 1 + 1 by omega];exact h3⟩
noncomputable def rdLists (s : St) : AV→Option (List (List Int)):=rdG 1 (eachA (rdInts s)) s
theorem rdLists_ok {e : Env} {s : St} {w : World} (hs : Sim e s w) {v : AV} {xs : List (List Int)} {x : Value} (h : rdLists s v = some xs) (hx : conc e v = some x) : ∃ A c,x = .slice A xs.length c∧xs.length≤c∧(Kd.slice 3 (Kd.int .i64)).C w A xs.length xs:=by
 refine rdG_ok (d:=Kd.slice 3 (Kd.int .i64)) hs (by show 0 < 1;omega) (fun cs xs vs h1 h2 j p hj=>?_) h hx
 obtain ⟨v,y,h3,h4,h5⟩:=eachA_at h1 h2 j p hj
 obtain ⟨A,c,rfl,h6,h7⟩:=rdInts_ok hs h3 h4
 exact ⟨A,c,h5,h6,h7⟩
theorem grow {e : Env} {s : St} {w w' : World} (h : Sim e s w) (hb : Below w.heap.size w w') : Sim e s w'∧Goes e s w e s w':=by
 refine ⟨⟨fun n x hx=>?_,h.inj,fun n b q hn=>Nat.lt_of_lt_of_le (h.bound n b q hn) hb.size⟩,⟨Env.le.refl e,fun _ h=>.inl h,fun _ _ h=>h,fun _ _ h=>h,fun b hb' _=>hb.block b hb',hb.size,hb.os,hb.tape,hb.output,fun _ _=>rfl,fun _ h=>h,Nat.le_refl _⟩⟩
 obtain ⟨b,q,ob,he,hw,hr⟩:=h.at_ n x hx
 exact ⟨b,q,ob,he,(hb.block b (h.bound n b q he)).trans hw,hr⟩
def RwBelow (e : Env) (s : St) (B : Nat) : Prop:=∀ n x b q,s.heap.get n = some x→x.rw→e n = some (b,q)→b < B
theorem addAt {e0 e : Env} {s0 s : St} {w0 w : World} (hg : Goes e0 s0 w0 e s w) (h : Sim e s w) (hr : RwBelow e s w0.heap.size) {g q : Nat} {blk : Blk} {ob : Obj} (hfree : e s.next = none) (h0 : w0.heap.size≤g) (hlt : g < w.heap.size)
 (hro : ¬ blk.rw∨∀ n x q,s.heap.get n = some x→e n ≠ some (g,q)) (hob : w.heap[g]? = some ob) (hb : BlkRel (e.upd s.next (g,q)) q blk ob) :
 Sim (e.upd s.next (g,q)) (s.add blk) w∧Goes e0 s0 w0 (e.upd s.next (g,q)) (s.add blk) w∧(¬ blk.rw→RwBelow (e.upd s.next (g,q)) (s.add blk) w0.heap.size):=by
 have hle:=Env.le_upd (g,q) hfree
 refine ⟨⟨?_,?_,?_⟩,⟨hg.le.trans hle,?_,?_,?_,hg.frame,hg.size,hg.os,hg.tape,hg.output,?_,?_,Nat.le_trans hg.next (Nat.le_succ _)⟩,?_⟩
 ·intro m x hx
  simp only [St.add,Tr.get_set] at hx
  split at hx
  ·subst m;cases hx;exact ⟨g,q,ob,Env.upd_self ..,hob,hb⟩
  ·obtain ⟨b',q',ob',he',hb',hr'⟩:=h.at_ m x hx
   exact ⟨b',q',ob',hle _ _ he',hb',hr'.le hle⟩
 ·intro m k b' q1 q2 x y hm hmr hk em ek
  simp only [St.add,Tr.get_set] at hm hk
  by_cases e1 : m = s.next<;>by_cases e2 : k = s.next
  ·rw [e1,e2]
  ·subst e1;rw [Env.upd_self] at em;cases em;rw [Env.upd_ne _ _ e2] at ek;rw [if_neg e2] at hk;rw [if_pos rfl] at hm;cases hm
   rcases hro with hro | hro
   ·exact absurd hmr hro
   ·exact absurd ek (hro _ _ _ hk)
  ·subst e2;rw [Env.upd_self] at ek;cases ek;rw [Env.upd_ne _ _ e1] at em;rw [if_neg e1] at hm
   exact absurd (hr m _ _ _ hm hmr em) (by omega)
  ·rw [if_neg e1] at hm;rw [if_neg e2] at hk;rw [Env.upd_ne _ _ e1] at em;rw [Env.upd_ne _ _ e2] at ek
   exact h.inj m k b' q1 q2 _ _ hm hmr hk em ek
 ·intro m b' q' hm
  by_cases e1 : m = s.next
  ·subst e1;rw [Env.upd_self] at hm;cases hm;exact hlt
  ·rw [Env.upd_ne _ _ e1] at hm;exact h.bound m b' q' hm
 ·intro m hm
  by_cases e1 : m = s.next
  ·exact .inr ⟨by rw [e1];exact hg.next,by simp only [St.add];omega⟩
  ·rw [Env.upd_ne _ _ e1] at hm
   rcases hg.rng m hm with h1 | ⟨h1,h2⟩
   ·exact .inl h1
   ·exact .inr ⟨h1,Nat.lt_succ_of_lt h2⟩
 ·rintro b' hb' ⟨m,x,q',hx,hxr,hm⟩
  simp only [St.add,Tr.get_set] at hx
  by_cases e1 : m = s.next
  ·subst e1;rw [Env.upd_self] at hm;cases hm;omega
  ·rw [if_neg e1] at hx;rw [Env.upd_ne _ _ e1] at hm;exact hg.own b' hb' ⟨m,x,q',hx,hxr,hm⟩
 ·rintro b' hb' ⟨m,x,q',hx,hm⟩
  simp only [St.add,Tr.get_set] at hx
  by_cases e1 : m = s.next
  ·subst e1;rw [Env.upd_self] at hm;cases hm;omega
  ·rw [if_neg e1] at hx;rw [Env.upd_ne _ _ e1] at hm;exact hg.met b' hb' ⟨m,x,q',hx,hm⟩
 ·intro m hm
  simp only [St.add,List.mem_cons,not_or] at hm ⊢
  rw [Tr.get_set,if_neg hm.1];exact hg.log m hm.2
 ·intro m hm;exact List.mem_cons_of_mem _ (hg.logs m hm)
 ·intro hro m x b' q' hx hxr hm
  simp only [St.add,Tr.get_set] at hx
  by_cases e1 : m = s.next
  ·subst e1;rw [if_pos rfl] at hx;cases hx;exact absurd hxr hro
  ·rw [if_neg e1] at hx;rw [Env.upd_ne _ _ e1] at hm;exact hr m x b' q' hx hxr hm
theorem rwBelow {e : Env} {s : St} {w : World} (h : Sim e s w) : RwBelow e s w.heap.size:=fun n x b q _ _ he=>h.bound n b q he
theorem endsC {P : Program} {f : FuncId} {xs : Array Value} {w : World} {R : Ending→World→Prop} (h : Calls P f xs w R) (c : Frame) (cs : List Frame) :
 ∃ e w',R e w'∧∀ v,e = .returned v→Steps P (lone (Frame.enter P f xs .normal) (c :: cs) w) (lone (c.finish v) cs w'):=by
 obtain ⟨e,w',fr,hR,hc,_,hl⟩:=h (c :: cs)
 refine ⟨e,w',hR,fun v hv=>?_⟩
 subst hv
 exact Steps.trans hc (.one (step_leave_returned hl))
theorem row_of {d : Kd Int} {e base n : Nat} {w : World} {ok : Nat→Prop} {v : Value} {xs : List Int} (h : (Kd.int .i64).R e w base ok v xs) (hx : xs ≠ []) :
 ∃ g cap rest,v = .slice (some ⟨g,0,none⟩) xs.length cap∧base≤g∧g < w.heap.size∧w.heap[g]? = some (.cells (xs.map (Value.int .i64) ++ rest).toArray e (0,0))∧(xs.map (Value.int .i64) ++ rest).length = cap * 1:=by
 obtain ⟨_,inner,ho,hr⟩:=h
 obtain ⟨h1,h2⟩:=ho
 rcases h2 with ⟨_,h2⟩ | ⟨g,cap,cur,rfl,h3,h4,h5,h6,h7,h8⟩
 ·exact absurd (List.length_eq_zero_iff.1 h2) hx
 have hin : inner = xs.map (Value.int .i64):=by
  apply List.ext_getElem?
  intro j
  have hl : inner.length = xs.length * 1:=h1
  cases hj : xs[j]? with
  | none =>
   rw [List.getElem?_map,hj,List.getElem?_eq_none];· rfl
   have:=List.getElem?_eq_none_iff.1 hj;omega
  | some p =>
   have h9 : (inner.drop (j * 1)).take 1 = [.int .i64 p]:=hr.2 j p hj
   rw [List.getElem?_map,hj]
   have : ((inner.drop (j * 1)).take 1)[0]? = some (Value.int .i64 p):=by rw [h9];rfl
   rw [List.getElem?_take,if_pos (by omega),List.getElem?_drop] at this
   simpa using this
 have hsz : (Kd.int .i64).sz = 1:=rfl
 rw [hsz] at h7 h8
 refine ⟨g,cap,cur.toList.drop (xs.length * 1),rfl,h3,(Array.getElem?_eq_some_iff.1 h4).1,?_,?_⟩
 ·rw [h4,← hin,← h8,List.take_append_drop]
 ·rw [← hin,← h8,List.take_append_drop,Array.length_toList];exact h7
noncomputable def addInts (t : TypeId) : List (List Int)→St→List AV × St
 | [],s=>([],s)
 | l :: r,s=>let q:=addInts t r (s.add (.ro t (some 1) (l.map (.int .i64))));(.opn s.next l.length :: q.1,q.2)
theorem addInts_next (t : TypeId) : ∀ (l : List (List Int)) (s : St),(addInts t l s).2.next = s.next + l.length
 | [],s=>rfl
 | x :: r,s=>by
  show (addInts t r _).2.next = _
  rw [addInts_next t r];simp only [St.add,List.length_cons];omega
theorem addInts_ok {e0 : Env} {s0 : St} {w0 w : World} {t : TypeId} {ok : Nat→Prop} : ∀ {l : List (List Int)} {vs : List Value} {e : Env} {s : St},Goes e0 s0 w0 e s w→Sim e s w→RwBelow e s w0.heap.size→Free e s.next (s.next + l.length)→
 vs.length = l.length→(∀ (j : Nat) (xs : List Int),l[j]? = some xs→xs ≠ []∧∃ v,vs[j]? = some v∧(Kd.int .i64).R t w w0.heap.size ok v xs)→
 ∃ e',Goes e0 s0 w0 e' (addInts t l s).2 w∧Sim e' (addInts t l s).2 w∧RwBelow e' (addInts t l s).2 w0.heap.size∧e.le e'∧concL e' (addInts t l s).1 = some vs∧∀ n,s.next + l.length≤n→e n = none→e' n = none
 | [],vs,e,s,hg,hs,hr,hf,hl,h=>by
  obtain rfl : vs = []:=List.length_eq_zero_iff.1 hl
  exact ⟨e,hg,hs,hr,Env.le.refl e,rfl,fun _ _ h=>h⟩
 | x :: r,vs,e,s,hg,hs,hr,hf,hl,h=>by
  obtain ⟨v,vs,rfl⟩ : ∃ v vs',vs = v :: vs':=by cases vs with | nil=>simp at hl | cons a b=>exact ⟨a,b,rfl⟩
  obtain ⟨hx,v',hv',hR⟩:=h 0 x rfl
  cases hv'
  obtain ⟨g,cap,rest,rfl,h1,h2,h3,h4⟩:=row_of (d:=Kd.int .i64) (n:=0) hR hx
  have hfree : e s.next = none:=hf _ (Nat.le_refl _) (by simp only [List.length_cons];omega)
  have hle:=Env.le_upd (g,cap) hfree
  obtain ⟨q1,q2,q3⟩:=addAt (q:=cap) (blk:=.ro t (some 1) (x.map (.int .i64))) hg hs hr hfree h1 h2 (.inl fun z=>z) h3 ⟨_,rest,concL_ints _ x,rfl,fun m hm=>by cases hm;exact h4⟩
  obtain ⟨e',p1,p2,p3,p4,p5,p6⟩:=addInts_ok (l:=r) (vs:=vs) (s:=s.add (.ro t (some 1) (x.map (.int .i64)))) q2 q1 (q3 fun z=>z) (fun n a b=>by
   rw [Env.upd_ne _ _ (by simp only [St.add] at a;omega)]
   exact hf n (by simp only [St.add] at a;omega) (by simp only [St.add] at b;simp only [List.length_cons];omega)) (by simpa using hl) (fun j xs hj=>h (j + 1) xs (by simpa using hj))
  refine ⟨e',p1,p2,p3,hle.trans p4,?_,fun n a b=>p6 n (by simp only [St.add,List.length_cons] at a ⊢;omega) ?_⟩
  ·simp only [addInts,concL,conc,p4 _ _ (Env.upd_self e s.next (g,cap)),Option.map_some,Option.bind_some,p5]
  ·rw [Env.upd_ne _ _ (by simp only [List.length_cons] at a;omega)];exact b
end Go.Abs
namespace Go.Proofs.YtnnmnhpeblhiiaaGreatDoor.C
open Go.RowKit Go.Proofs.YtnnmnhpeblhiiaaGreatDoorW.PrintWords Go.Proofs.YtnnmnhpeblhiiaaGreatDoorW.PrintLast Go.Proofs.YtnnmnhpeblhiiaaGreatDoorW.PrintMore
set_option linter.unusedVariables false
set_option linter.unusedSimpArgs false
set_option maxHeartbeats 16000000
set_option maxRecDepth 100000
section
attribute [local go_sem] max2_int min2_int max_two min_two
def nz_sum.l0 : Nat→Int→List Int→Int→Int→Option (Int)
 | 0,_,_,_,_=>none
 | k + 1,x3,x6,x7,x8=>if x8 < x7 then (if 0≤x8 then (if x8 < (x6.length : Int) then (nz_sum.l0 k (wrap64 (x3 + (rd x6 x8))) x6 x7 (wrap64 (x8 + 1))) else (none)) else (none)) else (some x3)
def nz_sum.f (k : Nat) (l0 : List Int) : Option (Int):=nz_sum.l0 k 0 l0 (l0.length : Int) 0
theorem nz_sum.calls (k : Nat) (A0 : Option Addr) (c0 : Nat) (l0 : List Int) (r : Int) (w : World) (hr0 : Kd.C (Kd.int .i64) w A0 l0.length l0) (hc0 : l0.length≤c0) (h : nz_sum.f k l0 = some r) :
 Calls Tryz.prog 141 #[.slice A0 l0.length c0] w fun e w'=>e = .returned (.int .i64 r)∧Drawn0 w w':=by
 have HR0:=am hr0
 have HC0:=am hc0
 clear hr0 hc0
 have H : (nz_sum.l0 k 0 l0 (l0.length : Int) 0) = some r:=h
 clear h
 replace H':=am H
 go_enter Tryz.func141,Tryz.ntmps141
 go_wp2
 go_loopg [3,8] k (fun kq v3 v8 w'=>∃ (x3_1 : Int) (x8_1 : Int),v3 = .int .i64 x3_1∧v8 = .int .i64 x8_1∧Aside0 (nz_sum.l0 kq x3_1 l0 (l0.length : Int) x8_1 = some r)∧Aside0 (kq≤k)∧Drawn0 w w')
 case atStart=>exact ⟨(0),(0),(by first | rfl | (simp;done) | (simp [*];done)),(by first | rfl | (simp;done) | (simp [*];done)),H',⟨Nat.le_refl _⟩,by repeat (first | exact Drawn0.refl _ | apply Drawn0.step)⟩
 case round =>
  clear H'
  obtain ⟨x3_1,x8_1,rfl,rfl,HA,HK1,⟨m1,rfl⟩⟩:=hrel
  cases gk with
  | zero=>exact absurd HA.out (by simp [nz_sum.l0])
  | succ k1 =>
   have H:=HA.out
   clear HA
   simp only [nz_sum.l0] at H
   by_cases c2 : x8_1 < (l0.length : Int)
   case neg =>
    rw [if_neg c2] at H
    have c2b0 : decide (x8_1 < (l0.length : Int)) = false:=decide_eq_false c2
    clear c2
    obtain rfl:=Option.some.inj H
    go_wp2
    go_ret
    exact ⟨by first | rfl | (simp;done) | (simp [*];done),by repeat (first | exact Drawn0.refl _ | apply Drawn0.step)⟩
   rw [if_pos c2] at H
   have c2b0 : decide (x8_1 < (l0.length : Int)) = true:=decide_eq_true c2
   clear c2
   by_cases c3 : 0≤x8_1
   case neg =>
    rw [if_neg c3] at H
    exact absurd H (by simp)
   rw [if_pos c3] at H
   have c3b0 : decide (0≤x8_1) = true:=decide_eq_true c3
   clear c3
   by_cases c4 : x8_1 < (l0.length : Int)
   case neg =>
    rw [if_neg c4] at H
    exact absurd H (by simp)
   rw [if_pos c4] at H
   have c4b0 : decide (x8_1 < (l0.length : Int)) = true:=decide_eq_true c4
   clear c4
   replace H':=am H
   have p143 : 0≤(x8_1 : Int):=of_decide_eq_true (by assumption)
   have q143 : x8_1 < (l0.length : Int):=of_decide_eq_true (by assumption)
   obtain ⟨ad143,e143,hx143_0⟩:=Kd.at_int HR0.out x8_1 p143 q143
   cases e143
   replace p143:=eq_true p143
   replace q143:=eq_true q143
   go_wp2
   go_roundg k1
   case measure=>have:=HK1.out;omega
   case rel=>exact ⟨(wrap64 (x3_1 + (rd l0 x8_1))),(wrap64 (x8_1 + 1)),(by first | rfl | (simp;done) | (simp [*];done)),(by first | rfl | (simp;done) | (simp [*];done)),H',⟨by have:=HK1.out;omega⟩,by repeat (first | exact Drawn0.refl _ | apply Drawn0.step)⟩
end
end Go.Proofs.YtnnmnhpeblhiiaaGreatDoor.C

/- A part of the proof: the walks of the functions that it reaches. TIGHT. -/
import Derived.Test.YtnnmnhpeblhiiaaGreatDoorML12
set_option linter.unusedSimpArgs false
set_option linter.unusedVariables false
namespace Go.Proofs.YtnnmnhpeblhiiaaGreatDoor.C
open Go.RowKit Go.Proofs.YtnnmnhpeblhiiaaGreatDoorW.PrintWords Go.Proofs.YtnnmnhpeblhiiaaGreatDoorW.PrintLast Go.Proofs.YtnnmnhpeblhiiaaGreatDoorW.PrintMore
set_option maxHeartbeats 16000000
set_option maxRecDepth 100000
section
attribute [local go_sem] zwa zq9 zwf zwe
def nz_gives.l0 : Nat→List Int→List Int→Int→Int→List (S126)→Int→Option (Int)
 | 0,_,_,_,_,_,_=>none
 | k + 1,x5,x8,x9,x10,x145000,x145001=>if x10 < x9 then (if 0≤x10 then (if x10 < (x8.length : Int) then (if 0≤(rd x8 x10) then (if (rd x8 x10) < (x145000.length : Int) then (if x5.length < 17592186044416 then (nz_gives.l0 k (x5 ++ [(zqw x145000 (rd x8 x10)).f2]) x8 x9 (wrap64 (x10 + 1)) x145000 x145001) else (none)) else (none)) else (none)) else (none)) else (none)) else ((nz_sum.f k x5).bind fun t150=>(some t150))
def nz_gives.f (k : Nat) (lA : List (S126)) (aA : Int) (l1 : List Int) : Option (Int):=nz_gives.l0 k ([] : List Int) l1 (l1.length : Int) 0 lA aA
theorem nz_gives.calls (k : Nat) (AX : Option Addr) (c0_0 : Nat) (lA : List (S126)) (aA : Int) (A1 : Option Addr) (c1 : Nat) (l1 : List Int) (r : Int) (w : World) (hra : Kd.C k126 w AX lA.length lA) (hc0_0 : lA.length≤c0_0) (hr1 : Kd.C (Kd.int .i64) w A1 l1.length l1) (hc1 : l1.length≤c1) (h : nz_gives.f k lA aA l1 = some r) :
 Calls Tryz.prog 130 #[.agg #[.slice AX lA.length c0_0,.int .i64 aA],.slice A1 l1.length c1] w fun e w'=>e = .returned (.int .i64 r)∧Below w.heap.size w w':=by
 have hu24:=Tryz.underlying24
 have HRA:=am hra
 have HCA:=am hc0_0
 clear hra hc0_0
 have HR1:=am hr1
 have HC1:=am hc1
 clear hr1 hc1
 have HB:=am (Below.refl w.heap.size w)
 have H : (nz_gives.l0 k ([] : List Int) l1 (l1.length : Int) 0 lA aA) = some r:=h
 clear h
 replace H':=am H
 go_enter Tryz.func130,Tryz.ntmps130
 go_wp2_with (first | ((refine zqn (N:=2) rfl ?_);refine zqm rfl (N:=2) rfl (cs:=#[.slice AX lA.length c0_0,.int .i64 aA]) (t:=24) ?hr ?_;(case hr=>go_simp;try rfl);intro gb144 hg w3 hbox hb;have BK144:=am (hbox);have GW144:=am (zqq (HB.out) hg);have GE144:=am (zqq (HB.out) hg);replace HB:=am (zqb (HB.out) hb);clear hb hbox hg))
 go_loopg [5,10] k (fun kq v5 v10 w'=>∃ (x5_1 : List Int) (x10_1 : Int),v10 = .int .i64 x10_1∧zqk (nz_gives.l0 kq x5_1 l1 (l1.length : Int) x10_1 lA aA = some r)∧zqk (kq≤k)∧zqk (Kd.R (Kd.int .i64) 3 w' w.heap.size (fun _=>True) v5 x5_1)∧zqk (w'.heap[gb144]? = some (.cells #[(.slice AX lA.length c0_0),.int .i64 aA] 24 (0,0)))∧zqk (Below w.heap.size w w'))
 case atStart=>exact ⟨(([] : List Int)),(0),(by first | rfl | (simp;done) | (simp [*];done)),H',⟨Nat.le_refl _⟩,⟨by first | exact Kd.R_nil _ _ _ _ _ | exact Kd.N_nil _ _ _ _ _ | exact Kd.V_nil _ _ _ _ _ | exact Kd.Q_nil _ _ _ _ _ | exact Kd.S_nil _ _ _ _ _⟩,⟨BK144.out⟩,⟨HB.out⟩⟩
 case round =>
  clear H'
  obtain ⟨x5_1,x10_1,rfl,HA,HK1,HO_5,BK144,HB⟩:=hrel
  cases gk with
  | zero=>exact absurd HA.out (by simp [nz_gives.l0])
  | succ k1 =>
   have H:=HA.out
   clear HA
   simp only [nz_gives.l0] at H
   by_cases c4 : x10_1 < (l1.length : Int)
   case neg =>
    rw [if_neg c4] at H
    have c4b0 : decide (x10_1 < (l1.length : Int)) = false:=decide_eq_false c4
    clear c4
    replace H:=obm H
    obtain ⟨t150,A120,H⟩:=H
    replace H : (some t150) = some r:=H
    have A12:=am A120
    clear A120
    obtain rfl:=Option.some.inj H
    obtain ⟨Ao13,co13,eo13⟩:=Kd.R_slice HO_5.out
    subst eo13
    go_wp2_with (first | ((with_reducible refine zqo (f:=141) rfl ?_);refine zq3 (some 25) rfl rfl Tryz.func141 (by kernel_rfl) rfl #[.slice Ao13 x5_1.length co13] rfl (by (try simp only [List.map_toArray,List.map_cons,List.map_nil]);first | done | rfl | (simp only [List.length_drop,List.length_take];rfl)) ?_;(refine (nz_sum.calls k1 _ _ x5_1 t150 _ ?side1 ?side2 A12.out).mono ?_);(case side1=>repeat (first | exact (Kd.R_reads' HO_5.out).2.2 | (with_reducible refine Kd.C_alloc ?_ _) | (with_reducible refine Kd.C_drewN ?_ _) | (with_reducible refine Kd.C_drew ?_)));(case side2=>exact (Kd.R_reads' HO_5.out).2.1);rintro e w' ⟨rfl,⟨nd,rfl⟩⟩;refine ⟨_,rfl,?_⟩))
    go_ret
    exact ⟨by first | rfl | (simp [*]<;>rfl),zqa HB.out _⟩
   rw [if_pos c4] at H
   have c4b0 : decide (x10_1 < (l1.length : Int)) = true:=decide_eq_true c4
   clear c4
   by_cases c5 : 0≤x10_1
   case neg =>
    rw [if_neg c5] at H
    exact absurd H (by simp)
   rw [if_pos c5] at H
   have c5b0 : decide (0≤x10_1) = true:=decide_eq_true c5
   clear c5
   by_cases c6 : x10_1 < (l1.length : Int)
   case neg =>
    rw [if_neg c6] at H
    exact absurd H (by simp)
   rw [if_pos c6] at H
   have c6b0 : decide (x10_1 < (l1.length : Int)) = true:=decide_eq_true c6
   clear c6
   by_cases c7 : 0≤(rd l1 x10_1)
   case neg =>
    rw [if_neg c7] at H
    exact absurd H (by simp)
   rw [if_pos c7] at H
   have c7b0 : decide (0≤(rd l1 x10_1)) = true:=decide_eq_true c7
   clear c7
   by_cases c8 : (rd l1 x10_1) < (lA.length : Int)
   case neg =>
    rw [if_neg c8] at H
    exact absurd H (by simp)
   rw [if_pos c8] at H
   have c8b0 : decide ((rd l1 x10_1) < (lA.length : Int)) = true:=decide_eq_true c8
   clear c8
   by_cases c9 : x5_1.length < 17592186044416
   case neg =>
    rw [if_neg c9] at H
    exact absurd H (by simp)
   rw [if_pos c9] at H
   have LMc9:=am c9
   clear c9
   obtain ⟨y147,hy147⟩ : ∃ y_ : List Int,y_ = (x5_1 ++ [(zqw lA (rd l1 x10_1)).f2]):=⟨_,rfl⟩
   replace H : (nz_gives.l0 k1 y147 l1 (l1.length : Int) (wrap64 (x10_1 + 1)) lA aA) = some r:=by first | (rw [hy147];with_reducible exact H) | (have H2_:=(Option.bind_some _ _).symm.trans H;rw [hy147];with_reducible exact H2_) | (have H2_:=(Option.bind_some _ _).symm.trans H;with_reducible exact H2_) | with_reducible exact H | (rw [hy147];exact H) | exact H
   have Ny147:=am hy147
   clear hy147
   replace H':=am H
   have p145 : 0≤(x10_1 : Int):=of_decide_eq_true (by assumption)
   have q145 : x10_1 < (l1.length : Int):=of_decide_eq_true (by assumption)
   obtain ⟨ad145,e145,hx145_0⟩:=Kd.at_int HR1.out x10_1 p145 q145
   cases e145
   replace hx145_0:=(HB.out.cell (wbl hx145_0)).trans hx145_0
   replace p145:=eq_true p145
   replace q145:=eq_true q145
   obtain ⟨hcz10_0,hcz10_1⟩:=cO2 BK144.out
   have p146 : 0≤((rd l1 x10_1) : Int):=of_decide_eq_true (by assumption)
   have q146 : (rd l1 x10_1) < (lA.length : Int):=of_decide_eq_true (by assumption)
   obtain ⟨ad146,e146,hx146_0,hx146_1,hx146_2⟩:=zkx HRA.out (rd l1 x10_1) p146 q146
   cases e146
   replace hx146_0:=(HB.out.cell (wbl hx146_0)).trans hx146_0
   replace hx146_1:=(HB.out.cell (wbl hx146_1)).trans hx146_1
   replace hx146_2:=(HB.out.cell (wbl hx146_2)).trans hx146_2
   replace p146:=eq_true p146
   replace q146:=eq_true q146
   go_wp2_with (first | ((with_reducible refine zwg (b:=.append) (xs:=#[.tmp 14,.tmp 21]) rfl ?_);at_builtin;refine Kd.R_append (Kd.int .i64) (w0:=w) w.heap.size rfl (.tmp 14) (.tmp 21) 28 3 (.int .i64 0) 8 rfl Tryz.underlying28 info3 rfl (by decide) (by omega) u5 x5_1 ((zqw lA (rd l1 x10_1)).f2) [.int .i64 ((zqw lA (rd l1 x10_1)).f2)] (fun _=>True) (fun _=>False) rfl rfl ?aP (fun _ hk=>hk.elim) ?aF ?aO ?aB ?aS ?aL ?_;(case aP=>exact rfl);(case aB=>exact (HB.out));(case aF=>exact (fun _ _=>trivial));(case aO=>exact HO_5.out);(case aS=>exact (zqr (HB.out)));(case aL=>have:=LMc9.out;omega);intro v148 w11 ho hb hg hat;rw [← Ny147.out] at ho;have n0_:=am (zq2 (g:=gb144) (o:=.cells #[.slice (some ad146) lA.length c0_0,.int .i64 aA] 24 (0,0)) BK144.out hg (Kd.R_ne HO_5.out BK144.out (by decide)));have n1_:=am (hb);have n2_:=am (ho);clear BK144;clear HB;clear HO_5;have BK144:=n0_;have HB:=n1_;have HO149:=n2_;clear n0_ n1_ n2_;clear ho hb hg hat))
   go_roundg k1
   case measure=>have:=HK1.out;omega
   case rel=>exact ⟨(y147),(wrap64 (x10_1 + 1)),(by first | rfl | (simp;done) | (simp [*];done)),H',⟨by have:=HK1.out;omega⟩,⟨by (with_reducible repeat (first | apply Kd.R_alloc | apply Kd.R_drewN | apply Kd.R_drew));exact HO149.out⟩,⟨BK144.out⟩,⟨HB.out⟩⟩
end
def zba (g : Nat) (q : Int→Option Bool) (w : World) (xs : List Int) : Prop:=∀ (x : Int) (b : Bool) (W : World) ,x ∈ xs→q x = some b→Below w.heap.size w W→
 Calls Tryz.prog 139 #[.int .i64 x,.pointer (some ⟨g,0,none⟩)] W fun e W'=>e = .returned (.bool b)∧Below W.heap.size W W'
theorem idx_isSet (g : Nat) (q : Int→Option Bool) (A : Option Addr) (c : Nat) (xs : List Int) (r : Int) (w : World) (hr : Kd.C (Kd.int .i64) w A xs.length xs) (hp : zba g q w xs) (h : idxM q xs 0 = some r) :
 Calls Tryz.prog 105 #[.slice A xs.length c,.func (.func 139) #[] #[.pointer (some ⟨g,0,none⟩)]] w fun e w'=>e = .returned (.int .i64 r)∧Below w.heap.size w w':=by
 have HR:=am hr
 have HP:=am hp
 have HQ:=am (show idxM q (xs.drop (0 : Int).toNat) 0 = some r from h)
 have hm : xs.length≤9223372036854775807:=Kd.C_max hr
 clear hr hp h
 go_enter Tryz.func105,Tryz.ntmps105
 go_wp2
 go_loopw [5,8] (fun v5 v8 w'=>∃ i : Int,0≤i∧i≤xs.length∧v8 = .int .i64 i∧zqk (idxM q (xs.drop i.toNat) i = some r)∧zqk (Below w.heap.size w w')) (fun _ v8 _=>xs.length - (intOf v8).toNat)
 case atStart=>exact ⟨0,by omega,by omega,rfl,HQ,⟨Below.refl _ _⟩⟩
 case round =>
  clear HQ
  obtain ⟨i,p1,hi,rfl,HQ,HB⟩:=hrel
  by_cases hlt : i < (xs.length : Int)
  case neg =>
   go_wp2
   go_ret
   exact ⟨zwi (zbp (by omega) HQ.out),HB.out⟩
  obtain ⟨ad,e1,hx0⟩:=Kd.at_int HR.out i p1 hlt
  cases e1
  replace hx0:=(HB.out.cell (wbl hx0)).trans hx0
  rcases zjd (0 : Int) p1 hlt HQ.out with ⟨hq,he⟩ | ⟨hq,hn⟩
  ·have H1:=am hq
   have X1:=am (zwz (0 : Int) p1 hlt)
   have H2:=am he
   clear hq he
   go_wp2_with (go_at_call 139;refine (HP.out (xs.getD i.toNat (0 : Int)) _ _ X1.out H1.out HB.out).mono ?_;rintro e W' ⟨rfl,hb⟩)
   go_ret
   exact ⟨zwi H2.out,zq0 HB.out HB.out.size hb⟩
  ·have H1:=am hq
   have X1:=am (zwz (0 : Int) p1 hlt)
   have H2:=am hn
   clear hq hn
   go_wp2_with (go_at_call 139;refine (HP.out (xs.getD i.toNat (0 : Int)) _ _ X1.out H1.out HB.out).mono ?_;rintro e W' ⟨rfl,hb⟩)
   go_roundw
   case rel=>exact ⟨i + 1,by omega,by omega,by go_num,H2,⟨zq0 HB.out HB.out.size hb⟩⟩
   case measure=>simp [intOf];omega
theorem any_isSet (g : Nat) (q : Int→Option Bool) (A : Option Addr) (c : Nat) (xs : List Int) (r : Bool) (w : World) (hr : Kd.C (Kd.int .i64) w A xs.length xs) (hp : zba g q w xs) (h : anyM q xs = some r) :
 Calls Tryz.prog 65 #[.slice A xs.length c,.func (.func 139) #[] #[.pointer (some ⟨g,0,none⟩)]] w fun e w'=>e = .returned (.bool r)∧Below w.heap.size w w':=by
 obtain ⟨j,hj,hd⟩:=zvg q xs 0 r (by omega) h
 have H1:=am hj
 have H2:=am hd
 have HR:=am hr
 have HP:=am hp
 clear hr hp h hj hd
 go_enter Tryz.func65,Tryz.ntmps65
 go_wp2_with (go_at_call 105;refine (idx_isSet g q _ _ xs j _ HR.out HP.out H1.out).mono ?_;rintro e W' ⟨rfl,hb⟩)
 go_ret
 exact ⟨zvu H2.out,hb⟩
section
attribute [local go_sem] zwa zq9 zwf zwe
def cmp_isNaN_int.f (a0 : Int) : Option (Bool):=some (a0 != a0)
theorem cmp_isNaN_int.calls (a0 : Int) (r : Bool) (w : World) (h : cmp_isNaN_int.f a0 = some r) :
 Calls Tryz.prog 156 #[.int .i64 a0] w fun e w'=>e = .returned (.bool r)∧zqt w w':=by
 have H : (some (a0 != a0)) = some r:=h
 clear h
 obtain rfl:=Option.some.inj H
 go_enter Tryz.func156,Tryz.ntmps156
 go_wp2
 go_ret
 exact ⟨by first | rfl | (simp;done) | (simp [*];done),by repeat (first | exact zqt.refl _ | apply zqt.step)⟩
def cmp_Less_int.f (a0 : Int) (a1 : Int) : Option (Bool):=(cmp_isNaN_int.f a0).bind fun t138=>(if t138 = true then ((cmp_isNaN_int.f a1).bind fun t139=>(if t139 = true then (some (decide (a0 < a1))) else (some true))) else (some (decide (a0 < a1))))
theorem cmp_Less_int.calls (a0 : Int) (a1 : Int) (r : Bool) (w : World) (h : cmp_Less_int.f a0 a1 = some r) :
 Calls Tryz.prog 147 #[.int .i64 a0,.int .i64 a1] w fun e w'=>e = .returned (.bool r)∧zqt w w':=by
 have H : ((cmp_isNaN_int.f a0).bind fun t138=>(if t138 = true then ((cmp_isNaN_int.f a1).bind fun t139=>(if t139 = true then (some (decide (a0 < a1))) else (some true))) else (some (decide (a0 < a1))))) = some r:=h
 clear h
 replace H:=obm H
 obtain ⟨t138,A30,H⟩:=H
 replace H : (if t138 = true then ((cmp_isNaN_int.f a1).bind fun t139=>(if t139 = true then (some (decide (a0 < a1))) else (some true))) else (some (decide (a0 < a1)))) = some r:=H
 have A3:=am A30
 clear A30
 by_cases c4 : t138 = true
 case neg =>
  replace c4:=Bool.eq_false_iff.mpr c4
  subst c4
  replace H : (some (decide (a0 < a1))) = some r:=by rw [if_neg (show ¬ (false = true) by decide)] at H;exact H
  obtain rfl:=Option.some.inj H
  go_enter Tryz.func147,Tryz.ntmps147
  go_wp2_with (first | ((with_reducible refine zqo (f:=156) rfl ?_);refine zq3 (some 6) rfl rfl Tryz.func156 (by kernel_rfl) rfl #[.int .i64 a0] rfl (by (try simp only [List.map_toArray,List.map_cons,List.map_nil]);first | done | rfl | (simp only [List.length_drop,List.length_take];rfl)) ?_;(refine (cmp_isNaN_int.calls a0 false _ A3.out).mono ?_);rintro e w' ⟨rfl,⟨nd,rfl⟩⟩;refine ⟨_,rfl,?_⟩))
  go_ret
  exact ⟨by first | rfl | (simp;done) | (simp [*];done),by repeat (first | exact zqt.refl _ | apply zqt.step)⟩
 subst c4
 replace H : ((cmp_isNaN_int.f a1).bind fun t139=>(if t139 = true then (some (decide (a0 < a1))) else (some true))) = some r:=by rw [if_pos rfl] at H;exact H
 replace H:=obm H
 obtain ⟨t139,A50,H⟩:=H
 replace H : (if t139 = true then (some (decide (a0 < a1))) else (some true)) = some r:=H
 have A5:=am A50
 clear A50
 by_cases c6 : t139 = true
 ·subst c6
  replace H : (some (decide (a0 < a1))) = some r:=by rw [if_pos rfl] at H;exact H
  obtain rfl:=Option.some.inj H
  go_enter Tryz.func147,Tryz.ntmps147
  go_wp2_with (first | ((with_reducible refine zqo (f:=156) rfl ?_);refine zq3 (some 6) rfl rfl Tryz.func156 (by kernel_rfl) rfl #[.int .i64 a0] rfl (by (try simp only [List.map_toArray,List.map_cons,List.map_nil]);first | done | rfl | (simp only [List.length_drop,List.length_take];rfl)) ?_;(refine (cmp_isNaN_int.calls a0 true _ A3.out).mono ?_);rintro e w' ⟨rfl,⟨nd,rfl⟩⟩;refine ⟨_,rfl,?_⟩) | (go_at_call 156;(refine (cmp_isNaN_int.calls a1 true _ A5.out).mono ?_);rintro e w' ⟨rfl,⟨nd,rfl⟩⟩))
  go_ret
  exact ⟨by first | rfl | (simp;done) | (simp [*];done),by repeat (first | exact zqt.refl _ | apply zqt.step)⟩
 ·replace c6:=Bool.eq_false_iff.mpr c6
  subst c6
  replace H : (some true) = some r:=by rw [if_neg (show ¬ (false = true) by decide)] at H;exact H
  obtain rfl:=Option.some.inj H
  go_enter Tryz.func147,Tryz.ntmps147
  go_wp2_with (first | ((with_reducible refine zqo (f:=156) rfl ?_);refine zq3 (some 6) rfl rfl Tryz.func156 (by kernel_rfl) rfl #[.int .i64 a0] rfl (by (try simp only [List.map_toArray,List.map_cons,List.map_nil]);first | done | rfl | (simp only [List.length_drop,List.length_take];rfl)) ?_;(refine (cmp_isNaN_int.calls a0 true _ A3.out).mono ?_);rintro e w' ⟨rfl,⟨nd,rfl⟩⟩;refine ⟨_,rfl,?_⟩) | (go_at_call 156;(refine (cmp_isNaN_int.calls a1 false _ A5.out).mono ?_);rintro e w' ⟨rfl,⟨nd,rfl⟩⟩))
  go_ret
  exact ⟨by first | rfl | (simp;done) | (simp [*];done),by repeat (first | exact zqt.refl _ | apply zqt.step)⟩
def sl_IsSorted_int_int.l0 : Nat→List Int→Int→Option (Bool)
 | 0,_,_=>none
 | k + 1,x0,x3=>if x3 > 0 then (if 0≤x3 then (if x3 < (x0.length : Int) then (if 0≤(wrap64 (x3 - 1)) then (if (wrap64 (x3 - 1)) < (x0.length : Int) then ((cmp_Less_int.f (rd x0 x3) (rd x0 (wrap64 (x3 - 1)))).bind fun t142=>(if t142 = true then (some false) else (sl_IsSorted_int_int.l0 k x0 (wrap64 (x3 - 1))))) else (none)) else (none)) else (none)) else (none)) else (some true)
def sl_IsSorted_int_int.f (k : Nat) (l0 : List Int) : Option (Bool):=sl_IsSorted_int_int.l0 k l0 (wrap64 ((l0.length : Int) - 1))
theorem sl_IsSorted_int_int.calls (k : Nat) (A0 : Option Addr) (c0 : Nat) (l0 : List Int) (r : Bool) (w : World) (hr0 : Kd.C (Kd.int .i64) w A0 l0.length l0) (hc0 : l0.length≤c0) (h : sl_IsSorted_int_int.f k l0 = some r) :
 Calls Tryz.prog 138 #[.slice A0 l0.length c0] w fun e w'=>e = .returned (.bool r)∧zqt w w':=by
 have HR0:=am hr0
 have HC0:=am hc0
 clear hr0 hc0
 have H : (sl_IsSorted_int_int.l0 k l0 (wrap64 ((l0.length : Int) - 1))) = some r:=h
 clear h
 replace H':=am H
 go_enter Tryz.func138,Tryz.ntmps138
 go_wp2
 repeat (go_quiet (fail);try go_wp2)
 go_loopg [3] k (fun kq v3 w'=>∃ (x3_1 : Int),v3 = .int .i64 x3_1∧zqk (sl_IsSorted_int_int.l0 kq l0 x3_1 = some r)∧zqk (kq≤k)∧zqt w w')
 case atStart=>exact ⟨(wrap64 ((l0.length : Int) - 1)),(by first | rfl | (simp;done) | (simp [*];done)),H',⟨Nat.le_refl _⟩,by repeat (first | exact zqt.refl _ | apply zqt.step)⟩
 case round =>
  clear H'
  obtain ⟨x3_1,rfl,HA,HK1,⟨m1,rfl⟩⟩:=hrel
  cases gk with
  | zero=>exact absurd HA.out (by simp [sl_IsSorted_int_int.l0])
  | succ k1 =>
   have H:=HA.out
   clear HA
   simp only [sl_IsSorted_int_int.l0] at H
   by_cases c2 : x3_1 > 0
   case neg =>
    rw [if_neg c2] at H
    have c2b0 : decide (0 < x3_1) = false:=decide_eq_false c2
    clear c2
    obtain rfl:=Option.some.inj H
    go_wp2
    repeat (go_quiet (fail);try go_wp2)
    go_ret
    exact ⟨by first | rfl | (simp;done) | (simp [*];done),by repeat (first | exact zqt.refl _ | apply zqt.step)⟩
   rw [if_pos c2] at H
   have c2b0 : decide (0 < x3_1) = true:=decide_eq_true c2
   clear c2
   by_cases c3 : 0≤x3_1
   case neg =>
    rw [if_neg c3] at H
    exact absurd H (by simp)
   rw [if_pos c3] at H
   have c3b0 : decide (0≤x3_1) = true:=decide_eq_true c3
   clear c3
   by_cases c4 : x3_1 < (l0.length : Int)
   case neg =>
    rw [if_neg c4] at H
    exact absurd H (by simp)
   rw [if_pos c4] at H
   have c4b0 : decide (x3_1 < (l0.length : Int)) = true:=decide_eq_true c4
   clear c4
   obtain ⟨ji5,hji5⟩ : ∃ j_ : Int,(wrap64 (x3_1 - 1)) = j_:=⟨_,rfl⟩
   replace H : (if 0≤(ji5) then (if (ji5) < (l0.length : Int) then ((cmp_Less_int.f (rd l0 x3_1) (rd l0 (ji5))).bind fun t142=>(if t142 = true then (some false) else (sl_IsSorted_int_int.l0 k1 l0 ji5))) else (none)) else (none)) = some r:=by first | (rw [hji5] at H;exact H) | (simp only [hji5] at H ⊢;exact H)
   have hji5w : (IntKind.i64.wrap (x3_1 - 1)) = ji5:=(i64_w _).trans hji5
   by_cases c6 : 0≤(ji5)
   case neg =>
    rw [if_neg c6] at H
    exact absurd H (by simp)
   rw [if_pos c6] at H
   have c6b0 : decide (0≤(ji5)) = true:=decide_eq_true c6
   clear c6
   by_cases c7 : (ji5) < (l0.length : Int)
   case neg =>
    rw [if_neg c7] at H
    exact absurd H (by simp)
   rw [if_pos c7] at H
   have c7b0 : decide ((ji5) < (l0.length : Int)) = true:=decide_eq_true c7
   clear c7
   replace H:=obm H
   obtain ⟨t142,A80,H⟩:=H
   replace H : (if t142 = true then (some false) else (sl_IsSorted_int_int.l0 k1 l0 ji5)) = some r:=H
   have A8:=am A80
   clear A80
   by_cases c9 : t142 = true
   ·subst c9
    replace H : (some false) = some r:=by rw [if_pos rfl] at H;exact H
    obtain rfl:=Option.some.inj H
    have p140 : 0≤(x3_1 : Int):=of_decide_eq_true (by assumption)
    have q140 : x3_1 < (l0.length : Int):=of_decide_eq_true (by assumption)
    obtain ⟨ad140,e140,hx140_0⟩:=Kd.at_int HR0.out x3_1 p140 q140
    cases e140
    replace p140:=eq_true p140
    replace q140:=eq_true q140
    have p141 : 0≤((ji5) : Int):=of_decide_eq_true (by assumption)
    have q141 : (ji5) < (l0.length : Int):=of_decide_eq_true (by assumption)
    obtain ⟨ad141,e141,hx141_0⟩:=Kd.at_int HR0.out (ji5) p141 q141
    obtain rfl : ad140 = ad141:=(by injection e141)
    replace p141:=eq_true p141
    replace q141:=eq_true q141
    go_wp2_with (first | (go_at_call 147;(with_reducible refine (cmp_Less_int.calls (rd l0 x3_1) (rd l0 (ji5)) true _ A8.out).mono ?_);rintro e w' ⟨rfl,⟨nd,rfl⟩⟩;(try first | exact ⟨rfl,_,World.drewN_drewN _ _ _⟩ | exact ⟨rfl,_,Eq.trans (World.drewN_drewN _ _ _) (congrArg (World.drewN _) (Nat.add_assoc _ _ _))⟩)))
    repeat (go_quiet (first | (go_at_call 147;(with_reducible refine (cmp_Less_int.calls (rd l0 x3_1) (rd l0 (ji5)) true _ A8.out).mono ?_);rintro e w' ⟨rfl,⟨nd,rfl⟩⟩;(try first | exact ⟨rfl,_,World.drewN_drewN _ _ _⟩ | exact ⟨rfl,_,Eq.trans (World.drewN_drewN _ _ _) (congrArg (World.drewN _) (Nat.add_assoc _ _ _))⟩)));try go_wp2_with (first | (go_at_call 147;(with_reducible refine (cmp_Less_int.calls (rd l0 x3_1) (rd l0 (ji5)) true _ A8.out).mono ?_);rintro e w' ⟨rfl,⟨nd,rfl⟩⟩;(try first | exact ⟨rfl,_,World.drewN_drewN _ _ _⟩ | exact ⟨rfl,_,Eq.trans (World.drewN_drewN _ _ _) (congrArg (World.drewN _) (Nat.add_assoc _ _ _))⟩))))
    go_ret
    exact ⟨by first | rfl | (simp;done) | (simp only [← hji5]<;>(first | rfl | simp)) | (simp [*];done),by repeat (first | exact zqt.refl _ | apply zqt.step)⟩
   ·replace c9:=Bool.eq_false_iff.mpr c9
    subst c9
    replace H : (sl_IsSorted_int_int.l0 k1 l0 ji5) = some r:=by rw [if_neg (show ¬ (false = true) by decide)] at H;exact H
    replace H':=am H
    have p140 : 0≤(x3_1 : Int):=of_decide_eq_true (by assumption)
    have q140 : x3_1 < (l0.length : Int):=of_decide_eq_true (by assumption)
    obtain ⟨ad140,e140,hx140_0⟩:=Kd.at_int HR0.out x3_1 p140 q140
    cases e140
    replace p140:=eq_true p140
    replace q140:=eq_true q140
    have p141 : 0≤((ji5) : Int):=of_decide_eq_true (by assumption)
    have q141 : (ji5) < (l0.length : Int):=of_decide_eq_true (by assumption)
    obtain ⟨ad141,e141,hx141_0⟩:=Kd.at_int HR0.out (ji5) p141 q141
    obtain rfl : ad140 = ad141:=(by injection e141)
    replace p141:=eq_true p141
    replace q141:=eq_true q141
    go_wp2_with (first | (go_at_call 147;(with_reducible refine (cmp_Less_int.calls (rd l0 x3_1) (rd l0 (ji5)) false _ A8.out).mono ?_);rintro e w' ⟨rfl,⟨nd,rfl⟩⟩;(try first | exact ⟨rfl,_,World.drewN_drewN _ _ _⟩ | exact ⟨rfl,_,Eq.trans (World.drewN_drewN _ _ _) (congrArg (World.drewN _) (Nat.add_assoc _ _ _))⟩)))
    repeat (go_quiet (first | (go_at_call 147;(with_reducible refine (cmp_Less_int.calls (rd l0 x3_1) (rd l0 (ji5)) false _ A8.out).mono ?_);rintro e w' ⟨rfl,⟨nd,rfl⟩⟩;(try first | exact ⟨rfl,_,World.drewN_drewN _ _ _⟩ | exact ⟨rfl,_,Eq.trans (World.drewN_drewN _ _ _) (congrArg (World.drewN _) (Nat.add_assoc _ _ _))⟩)));try go_wp2_with (first | (go_at_call 147;(with_reducible refine (cmp_Less_int.calls (rd l0 x3_1) (rd l0 (ji5)) false _ A8.out).mono ?_);rintro e w' ⟨rfl,⟨nd,rfl⟩⟩;(try first | exact ⟨rfl,_,World.drewN_drewN _ _ _⟩ | exact ⟨rfl,_,Eq.trans (World.drewN_drewN _ _ _) (congrArg (World.drewN _) (Nat.add_assoc _ _ _))⟩))))
    go_roundg k1
    case measure=>have:=HK1.out;omega
    case rel=>exact ⟨(ji5),(by first | rfl | (simp;done) | (simp only [← hji5]<;>(first | rfl | simp)) | (simp [*];done)),H',⟨by have:=HK1.out;omega⟩,by repeat (first | exact zqt.refl _ | apply zqt.step)⟩
def nz_isRow.f (lA : List (S126)) (aA : Int) (a1 : Int) : Option (Bool):=(nz_in.f a1 0 (wrap64 ((lA.length : Int) - 1))).bind fun t1063=>(some t1063)
theorem nz_isRow.calls (AX : Option Addr) (c0_0 : Nat) (lA : List (S126)) (aA : Int) (a1 : Int) (r : Bool) (w : World) (hra : Kd.C k126 w AX lA.length lA) (hc0_0 : lA.length≤c0_0) (h : nz_isRow.f lA aA a1 = some r) :
 Calls Tryz.prog 140 #[.agg #[.slice AX lA.length c0_0,.int .i64 aA],.int .i64 a1] w fun e w'=>e = .returned (.bool r)∧Below w.heap.size w w':=by
 have hu24:=Tryz.underlying24
 have HRA:=am hra
 have HCA:=am hc0_0
 clear hra hc0_0
 have HB:=am (Below.refl w.heap.size w)
 have H : ((nz_in.f a1 0 (wrap64 ((lA.length : Int) - 1))).bind fun t1063=>(some t1063)) = some r:=h
 clear h
 replace H:=obm H
 obtain ⟨t1063,A30,H⟩:=H
 replace H : (some t1063) = some r:=H
 have A3:=am A30
 clear A30
 obtain rfl:=Option.some.inj H
 go_enter Tryz.func140,Tryz.ntmps140
 go_wp2_with (first | ((refine zqn (N:=2) rfl ?_);refine zqm rfl (N:=2) rfl (cs:=#[.slice AX lA.length c0_0,.int .i64 aA]) (t:=24) ?hr ?_;(case hr=>go_simp;try rfl);intro gb1062 hg w4 hbox hb;have BK1062:=am (hbox);have GW1062:=am (zqq (HB.out) hg);have GE1062:=am (zqq (HB.out) hg);replace HB:=am (zqb (HB.out) hb);clear hb hbox hg;obtain ⟨hcz5_0,hcz5_1⟩:=cO2 BK1062.out) | ((with_reducible refine zqo (f:=135) rfl ?_);refine zq3 (some 10) rfl rfl Tryz.func135 (by kernel_rfl) rfl #[.int .i64 a1,.int .i64 0,.int .i64 (wrap64 ((lA.length : Int) - 1))] rfl (by (try simp only [List.map_toArray,List.map_cons,List.map_nil]);first | done | rfl | (simp only [List.length_drop,List.length_take];rfl)) ?_;(with_reducible refine (nz_in.calls a1 0 (wrap64 ((lA.length : Int) - 1)) t1063 _ A3.out).mono ?_);rintro e w' ⟨rfl,⟨nd,rfl⟩⟩;refine ⟨_,rfl,?_⟩))
 go_ret
 exact ⟨by first | rfl | (simp [*]<;>rfl),zqa HB.out _⟩
end
theorem isSet1_calls (g : Nat) (A0 : Option Addr) (c0 : Nat) (l0 : List S126) (a1 : Int) (n : Int) (r : Bool) (W : World) (hb : W.heap[g]? = some (.cells #[.slice A0 l0.length c0,.int .i64 a1] 24 (0,0)))
 (hr0 : Kd.C k126 W A0 l0.length l0) (hc0 : l0.length≤c0) (h : nz_isRow.f l0 a1 n = some r) :
 Calls Tryz.prog 139 #[.int .i64 n,.pointer (some ⟨g,0,none⟩)] W fun e W'=>e = .returned (.bool (!r))∧Below W.heap.size W W':=by
 have hu:=Tryz.underlying24
 have HR:=am hr0
 have HC:=am hc0
 have H:=am h
 obtain ⟨hcz0,hcz1⟩:=cO2 hb
 clear hr0 hc0 h hb
 go_enter Tryz.func139,Tryz.ntmps139
 go_wp2_with (go_at_call 140;refine (nz_isRow.calls _ _ l0 a1 n r _ HR.out HC.out H.out).mono ?_;rintro e W' ⟨rfl,hb⟩)
 go_ret
 exact ⟨rfl,hb⟩
def nz_isSet.f (l0 : List S126) (a1 : Int) (l1 : List Int) : Option Bool:=
 if (l1.length : Int)≤6 then (sl_IsSorted_int_int.f (l1.length + 1) l1).bind fun t=>(if t = true then (anyM (fun n=>(nz_isRow.f l0 a1 n).bind fun b=>some (!b)) l1).bind fun u=>some (!u) else some false) else some false
theorem nz_isSet.calls (AX : Option Addr) (c0_0 : Nat) (lA : List S126) (aA : Int) (A1 : Option Addr) (c1 : Nat) (l1 : List Int) (r : Bool) (w : World) (hra : Kd.C k126 w AX lA.length lA) (hc0_0 : lA.length≤c0_0) (hr1 : Kd.C (Kd.int .i64) w A1 l1.length l1) (hc1 : l1.length≤c1) (h : nz_isSet.f lA aA l1 = some r) :
 Calls Tryz.prog 129 #[.agg #[.slice AX lA.length c0_0,.int .i64 aA],.slice A1 l1.length c1] w fun e w'=>e = .returned (.bool r)∧Below w.heap.size w w':=by
 have hu:=Tryz.underlying24
 have HR:=am hra
 have HC:=am hc0_0
 have HR1:=am (kC hr1 (zqc (Below.refl _ w) (.cells #[.slice AX lA.length c0_0,.int .i64 aA] 24)))
 have HC1:=am hc1
 have HBX:=am (zkw w (.cells #[.slice AX lA.length c0_0,.int .i64 aA] 24))
 have HB:=am (zqc (Below.refl w.heap.size w) (.cells #[.slice AX lA.length c0_0,.int .i64 aA] 24))
 have hm : l1.length≤9223372036854775807:=Kd.C_max hr1
 clear hra hc0_0 hr1 hc1
 unfold nz_isSet.f at h
 by_cases h1 : (l1.length : Int)≤6
 case neg =>
  rw [if_neg h1] at h
  have b1 : decide ((l1.length : Int)≤6) = false:=decide_eq_false h1
  clear h1
  obtain rfl:=Option.some.inj h
  clear h
  go_enter Tryz.func129,Tryz.ntmps129
  go_wp2
  go_ret
  exact ⟨rfl,HB.out⟩
 rw [if_pos h1] at h
 have b1 : decide ((l1.length : Int)≤6) = true:=decide_eq_true h1
 clear h1
 obtain ⟨t,ht,h⟩:=obm h
 have H1:=am ht
 clear ht
 cases t with
 | true =>
  rw [if_pos rfl] at h
  obtain ⟨u,hu',h⟩:=obm h
  obtain rfl:=Option.some.inj h
  have H2:=am hu'
  clear hu' h
  have HP:=am (show ∀ W0,Below (w.alloc (.cells #[.slice AX lA.length c0_0,.int .i64 aA] 24)).heap.size (w.alloc (.cells #[.slice AX lA.length c0_0,.int .i64 aA] 24)) W0→zba w.heap.size (fun n=>(nz_isRow.f lA aA n).bind fun b=>some (!b)) W0 l1 from by
   intro W0 h0 x b W hx hq hb
   obtain ⟨b',hb',he⟩:=obm hq
   obtain rfl:=Option.some.inj he
   exact isSet1_calls w.heap.size AX c0_0 lA aA x b' W (zqh (zqh HBX.out h0) hb) (kC (kC (kC HR.out HB.out) h0) hb) HC.out hb')
  go_enter Tryz.func129,Tryz.ntmps129
  go_wp2_with (first | (go_at_call 138;refine (sl_IsSorted_int_int.calls _ _ _ l1 true _ HR1.out HC1.out H1.out).mono ?_;rintro e w1 ⟨rfl,hd⟩;have HB1:=am hd.below;clear hd) | (go_at_call 65;refine (any_isSet w.heap.size _ _ _ l1 u _ (kC HR1.out HB1.out) (HP.out _ HB1.out) H2.out).mono ?_;rintro e w' ⟨rfl,hb⟩))
  go_ret
  exact ⟨rfl,zq0 (zq0 HB.out HB.out.size HB1.out) (zq0 HB.out HB.out.size HB1.out).size hb⟩
 | false =>
  rw [if_neg (by decide)] at h
  obtain rfl:=Option.some.inj h
  clear h
  go_enter Tryz.func129,Tryz.ntmps129
  go_wp2_with (go_at_call 138;refine (sl_IsSorted_int_int.calls _ _ _ l1 false _ HR1.out HC1.out H1.out).mono ?_;rintro e w' ⟨rfl,hd⟩)
  go_ret
  exact ⟨rfl,zq0 HB.out HB.out.size hd.below⟩
section
attribute [local go_sem] zwa zq9 zwf zwe
def nz_Gives.f (k : Nat) (lA : List (S126)) (aA : Int) (l1 : List Int) : Option (Int × Int):=(nz_isTable.f lA aA).bind fun t152=>(if t152 = true then ((nz_isSet.f lA aA l1).bind fun t153=>(if t153 = true then ((nz_gives.f k lA aA l1).bind fun t154=>(some (t154,0))) else (some (0,2)))) else (some (0,2)))
theorem nz_Gives.calls (k : Nat) (AX : Option Addr) (c0_0 : Nat) (lA : List (S126)) (aA : Int) (A1 : Option Addr) (c1 : Nat) (l1 : List Int) (r1 : Int) (r2 : Int) (w : World) (hra : Kd.C k126 w AX lA.length lA) (hc0_0 : lA.length≤c0_0) (hr1 : Kd.C (Kd.int .i64) w A1 l1.length l1) (hc1 : l1.length≤c1) (h : nz_Gives.f k lA aA l1 = some (r1,r2)) :
 Calls Tryz.prog 106 #[.agg #[.slice AX lA.length c0_0,.int .i64 aA],.slice A1 l1.length c1] w fun e w'=>e = .returned (.tuple #[.int .i64 r1,.int .i64 r2])∧Below w.heap.size w w':=by
 have hu24:=Tryz.underlying24
 have HRA:=am hra
 have HCA:=am hc0_0
 clear hra hc0_0
 have HR1:=am hr1
 have HC1:=am hc1
 clear hr1 hc1
 have HB:=am (Below.refl w.heap.size w)
 have H : ((nz_isTable.f lA aA).bind fun t152=>(if t152 = true then ((nz_isSet.f lA aA l1).bind fun t153=>(if t153 = true then ((nz_gives.f k lA aA l1).bind fun t154=>(some (t154,0))) else (some (0,2)))) else (some (0,2)))) = some (r1,r2):=h
 clear h
 replace H:=obm H
 obtain ⟨t152,A30,H⟩:=H
 replace H : (if t152 = true then ((nz_isSet.f lA aA l1).bind fun t153=>(if t153 = true then ((nz_gives.f k lA aA l1).bind fun t154=>(some (t154,0))) else (some (0,2)))) else (some (0,2))) = some (r1,r2):=H
 have A3:=am A30
 clear A30
 by_cases c4 : t152 = true
 case neg =>
  replace c4:=Bool.eq_false_iff.mpr c4
  subst c4
  replace H : (some (0,2)) = some (r1,r2):=by rw [if_neg (show ¬ (false = true) by decide)] at H;exact H
  simp only [Option.some.injEq,Prod.mk.injEq] at H
  obtain ⟨rfl,rfl⟩:=H
  go_enter Tryz.func106,Tryz.ntmps106
  go_wp2_with (first | ((refine zqn (N:=2) rfl ?_);refine zqm rfl (N:=2) rfl (cs:=#[.slice AX lA.length c0_0,.int .i64 aA]) (t:=24) ?hr ?_;(case hr=>go_simp;try rfl);intro gb151 hg w20 hbox hb;have BK151:=am (hbox);have GW151:=am (zqq (HB.out) hg);have GE151:=am (zqq (HB.out) hg);replace HB:=am (zqb (HB.out) hb);clear hb hbox hg;obtain ⟨hcz21_0,hcz21_1⟩:=cO2 BK151.out) | ((with_reducible refine zqo (f:=127) rfl ?_);refine zq3 (some 7) rfl rfl Tryz.func127 (by kernel_rfl) rfl #[.agg #[.slice AX lA.length c0_0,.int .i64 aA]] rfl (by (try simp only [List.map_toArray,List.map_cons,List.map_nil]);first | done | rfl | (simp only [List.length_drop,List.length_take];rfl)) ?_;(refine (nz_isTable.calls _ _ lA aA false _ ?side1 ?side2 A3.out).mono ?_);(case side1=>exact kC HRA.out HB.out);(case side2=>exact HCA.out);rintro e w22 ⟨rfl,hb⟩;refine ⟨_,rfl,?_⟩;replace BK151:=(kmv hb BK151);replace HB:=am (zqb (HB.out) hb);(try clear hb);(try clear hb2);(try clear hk);(try clear hi)))
  go_ret2
  exact ⟨by first | rfl | (simp [*]<;>rfl),HB.out⟩
 subst c4
 replace H : ((nz_isSet.f lA aA l1).bind fun t153=>(if t153 = true then ((nz_gives.f k lA aA l1).bind fun t154=>(some (t154,0))) else (some (0,2)))) = some (r1,r2):=by rw [if_pos rfl] at H;exact H
 replace H:=obm H
 obtain ⟨t153,A50,H⟩:=H
 replace H : (if t153 = true then ((nz_gives.f k lA aA l1).bind fun t154=>(some (t154,0))) else (some (0,2))) = some (r1,r2):=H
 have A5:=am A50
 clear A50
 by_cases c6 : t153 = true
 case neg =>
  replace c6:=Bool.eq_false_iff.mpr c6
  subst c6
  replace H : (some (0,2)) = some (r1,r2):=by rw [if_neg (show ¬ (false = true) by decide)] at H;exact H
  simp only [Option.some.injEq,Prod.mk.injEq] at H
  obtain ⟨rfl,rfl⟩:=H
  go_enter Tryz.func106,Tryz.ntmps106
  go_wp2_with (first | ((refine zqn (N:=2) rfl ?_);refine zqm rfl (N:=2) rfl (cs:=#[.slice AX lA.length c0_0,.int .i64 aA]) (t:=24) ?hr ?_;(case hr=>go_simp;try rfl);intro gb151 hg w15 hbox hb;have BK151:=am (hbox);have GW151:=am (zqq (HB.out) hg);have GE151:=am (zqq (HB.out) hg);replace HB:=am (zqb (HB.out) hb);clear hb hbox hg;obtain ⟨hcz16_0,hcz16_1⟩:=cO2 BK151.out) | ((with_reducible refine zqo (f:=127) rfl ?_);refine zq3 (some 7) rfl rfl Tryz.func127 (by kernel_rfl) rfl #[.agg #[.slice AX lA.length c0_0,.int .i64 aA]] rfl (by (try simp only [List.map_toArray,List.map_cons,List.map_nil]);first | done | rfl | (simp only [List.length_drop,List.length_take];rfl)) ?_;(refine (nz_isTable.calls _ _ lA aA true _ ?side1 ?side2 A3.out).mono ?_);(case side1=>exact kC HRA.out HB.out);(case side2=>exact HCA.out);rintro e w17 ⟨rfl,hb⟩;refine ⟨_,rfl,?_⟩;replace BK151:=(kmv hb BK151);replace HB:=am (zqb (HB.out) hb);(try clear hb);(try clear hb2);(try clear hk);(try clear hi);obtain ⟨hcz18_0,hcz18_1⟩:=cO2 BK151.out) | (go_at_call 129;(refine (nz_isSet.calls _ _ lA aA _ _ l1 false _ ?side1 ?side2 ?side3 ?side4 A5.out).mono ?_);(case side1=>exact kC HRA.out HB.out);(case side2=>exact HCA.out);(case side3=>exact kC HR1.out HB.out);(case side4=>exact HC1.out);rintro e w19 ⟨rfl,hb⟩;replace BK151:=(kmv hb BK151);replace HB:=am (zqb (HB.out) hb);(try clear hb);(try clear hb2);(try clear hk);(try clear hi)))
  go_ret2
  exact ⟨by first | rfl | (simp [*]<;>rfl),HB.out⟩
 subst c6
 replace H : ((nz_gives.f k lA aA l1).bind fun t154=>(some (t154,0))) = some (r1,r2):=by rw [if_pos rfl] at H;exact H
 replace H:=obm H
 obtain ⟨t154,A70,H⟩:=H
 replace H : (some (t154,0)) = some (r1,r2):=H
 have A7:=am A70
 clear A70
 simp only [Option.some.injEq,Prod.mk.injEq] at H
 obtain ⟨rfl,rfl⟩:=H
 go_enter Tryz.func106,Tryz.ntmps106
 go_wp2_with (first | ((refine zqn (N:=2) rfl ?_);refine zqm rfl (N:=2) rfl (cs:=#[.slice AX lA.length c0_0,.int .i64 aA]) (t:=24) ?hr ?_;(case hr=>go_simp;try rfl);intro gb151 hg w8 hbox hb;have BK151:=am (hbox);have GW151:=am (zqq (HB.out) hg);have GE151:=am (zqq (HB.out) hg);replace HB:=am (zqb (HB.out) hb);clear hb hbox hg;obtain ⟨hcz9_0,hcz9_1⟩:=cO2 BK151.out) | ((with_reducible refine zqo (f:=127) rfl ?_);refine zq3 (some 7) rfl rfl Tryz.func127 (by kernel_rfl) rfl #[.agg #[.slice AX lA.length c0_0,.int .i64 aA]] rfl (by (try simp only [List.map_toArray,List.map_cons,List.map_nil]);first | done | rfl | (simp only [List.length_drop,List.length_take];rfl)) ?_;(refine (nz_isTable.calls _ _ lA aA true _ ?side1 ?side2 A3.out).mono ?_);(case side1=>exact kC HRA.out HB.out);(case side2=>exact HCA.out);rintro e w10 ⟨rfl,hb⟩;refine ⟨_,rfl,?_⟩;replace BK151:=(kmv hb BK151);replace HB:=am (zqb (HB.out) hb);(try clear hb);(try clear hb2);(try clear hk);(try clear hi);obtain ⟨hcz11_0,hcz11_1⟩:=cO2 BK151.out) | (go_at_call 129;(refine (nz_isSet.calls _ _ lA aA _ _ l1 true _ ?side1 ?side2 ?side3 ?side4 A5.out).mono ?_);(case side1=>exact kC HRA.out HB.out);(case side2=>exact HCA.out);(case side3=>exact kC HR1.out HB.out);(case side4=>exact HC1.out);rintro e w12 ⟨rfl,hb⟩;replace BK151:=(kmv hb BK151);replace HB:=am (zqb (HB.out) hb);(try clear hb);(try clear hb2);(try clear hk);(try clear hi);obtain ⟨hcz13_0,hcz13_1⟩:=cO2 BK151.out) | ((with_reducible refine zqo (f:=130) rfl ?_);refine zq3 (some 17) rfl rfl Tryz.func130 (by kernel_rfl) rfl #[.agg #[.slice AX lA.length c0_0,.int .i64 aA],.slice A1 l1.length c1] rfl (by (try simp only [List.map_toArray,List.map_cons,List.map_nil]);first | done | rfl | (simp only [List.length_drop,List.length_take];rfl)) ?_;(refine (nz_gives.calls k _ _ lA aA _ _ l1 t154 _ ?side1 ?side2 ?side3 ?side4 A7.out).mono ?_);(case side1=>exact kC HRA.out HB.out);(case side2=>exact HCA.out);(case side3=>exact kC HR1.out HB.out);(case side4=>exact HC1.out);rintro e w14 ⟨rfl,hb⟩;refine ⟨_,rfl,?_⟩;replace BK151:=(kmv hb BK151);replace HB:=am (zqb (HB.out) hb);(try clear hb);(try clear hb2);(try clear hk);(try clear hi)))
 go_ret2
 exact ⟨by first | rfl | (simp [*]<;>rfl),HB.out⟩
end
end Go.Proofs.YtnnmnhpeblhiiaaGreatDoor.C

/- A part of the proof: the walks of the functions that it reaches. TIGHT. -/
import Derived.Test.YtnnmnhpeblhiiaaGreatDoorML9
import Derived.Test.YtnnmnhpeblhiiaaGreatDoorML15
import Derived.RangeFuncNested
import Derived.RangeFuncBound
import Derived.RangeFuncCalls
import Derived.RangeFuncLeaves
import Derived.Below
import Derived.WideKeyRuns
import Derived.Shelf.Abstract
import Derived.WalkKit
import Derived.OwnWalkIn
import Derived.TacticsInMore
import Derived.LoopNIn
import Derived.LoopIn
import Derived.Shelf.RegionOpen
set_option linter.unusedSimpArgs false
set_option linter.unusedVariables false
noncomputable section
namespace Go.Proofs.YtnnmnhpeblhiiaaGreatDoor.C
open Go.RowKit Go.Proofs.YtnnmnhpeblhiiaaGreatDoorW.PrintWords Go.Proofs.YtnnmnhpeblhiiaaGreatDoorW.PrintLast Go.Proofs.YtnnmnhpeblhiiaaGreatDoorW.PrintMore
set_option maxHeartbeats 16000000
set_option maxRecDepth 100000
section
attribute [local go_sem] zwa zq9 zwf zwe
mutual
def q4_Before.l0 : Nat→List Int→List Int→Int→Option (Bool)
 | 0,_,_,_=>none
 | k + 1,x0,x1,x5=>if x5 < (x0.length : Int) then (q4_Before.j1 k x0 x1 x5 (decide (x5 < (x1.length : Int)))) else (q4_Before.j1 k x0 x1 x5 false)
def q4_Before.j1 : Nat→List Int→List Int→Int→Bool→Option (Bool)
 | 0,_,_,_,_=>none
 | k + 1,x0,x1,x5,x15=>if x15 = true then (if 0≤x5 then (if x5 < (x0.length : Int) then (if x5 < (x1.length : Int) then (if (rd x0 x5) = (rd x1 x5) then (q4_Before.l0 k x0 x1 (wrap64 (x5 + 1))) else (some (decide ((rd x0 x5) < (rd x1 x5))))) else (none)) else (none)) else (none)) else (some (decide ((x0.length : Int) < (x1.length : Int))))
end
def q4_Before.f (k : Nat) (l0 : List Int) (l1 : List Int) : Option (Bool):=q4_Before.l0 k l0 l1 0
theorem q4_Before.calls (k : Nat) (A0 : Option Addr) (c0 : Nat) (l0 : List Int) (A1 : Option Addr) (c1 : Nat) (l1 : List Int) (r : Bool) (w : World) (hr0 : Kd.C (Kd.int .i64) w A0 l0.length l0) (hc0 : l0.length≤c0) (hr1 : Kd.C (Kd.int .i64) w A1 l1.length l1) (hc1 : l1.length≤c1) (h : q4_Before.f k l0 l1 = some r) :
 Calls Tryz.prog 25 #[.slice A0 l0.length c0,.slice A1 l1.length c1] w fun e w'=>e = .returned (.bool r)∧zqt w w':=by
 have HR0:=am hr0
 have HC0:=am hc0
 clear hr0 hc0
 have HR1:=am hr1
 have HC1:=am hc1
 clear hr1 hc1
 have H : (q4_Before.l0 k l0 l1 0) = some r:=h
 clear h
 replace H':=am H
 go_enter Tryz.func25,Tryz.ntmps25
 go_wp2
 repeat (go_quiet (fail);try go_wp2)
 go_loopg [5] k (fun kq v5 w'=>∃ (x5_1 : Int),v5 = .int .i64 x5_1∧zqk (q4_Before.l0 kq l0 l1 x5_1 = some r)∧zqk (kq≤k)∧zqt w w')
 case atStart=>exact ⟨(0),(by first | rfl | (simp;done) | (simp [*];done)),H',⟨Nat.le_refl _⟩,by repeat (first | exact zqt.refl _ | apply zqt.step)⟩
 case round =>
  clear H'
  obtain ⟨x5_1,rfl,HA,HK1,⟨m1,rfl⟩⟩:=hrel
  cases gk with
  | zero=>exact absurd HA.out (by simp [q4_Before.l0])
  | succ k1 =>
   have H:=HA.out
   clear HA
   simp only [q4_Before.l0] at H
   have HC3:=am H
   clear H
   go_upto_region 2 with (fail)
   repeat (go_quiet (fail);go_upto_region 2 with (fail))
   go_cut [15] (fun v15 wc=>∃ (kq : Nat) (x15_2 : Bool),v15 = .bool x15_2∧zqk (q4_Before.j1 kq l0 l1 x5_1 x15_2 = some r)∧zqk (kq≤k1)∧zqt w wc)
   case first =>
    have H:=HC3.out
    clear HC3
    by_cases c4 : x5_1 < (l0.length : Int)
    ·rw [if_pos c4] at H
     have c4b0 : decide (x5_1 < (l0.length : Int)) = true:=decide_eq_true c4
     clear c4
     (first | rw [c4b0] | (simp only [i64_w,i32_w];rw [c4b0]) | skip)
     replace H':=am H
     go_wp2
     repeat (go_quiet (fail);try go_wp2)
     go_meet
     case rel=>exact ⟨_,(decide (x5_1 < (l1.length : Int))),(by first | rfl | (simp;done) | (simp [*];done)),H',⟨by have:=HK1.out;first | omega | exact Nat.le_refl _⟩,by repeat (first | exact zqt.refl _ | apply zqt.step)⟩
    ·rw [if_neg c4] at H
     have c4b0 : decide (x5_1 < (l0.length : Int)) = false:=decide_eq_false c4
     clear c4
     (first | rw [c4b0] | (simp only [i64_w,i32_w];rw [c4b0]) | skip)
     replace H':=am H
     go_wp2
     repeat (go_quiet (fail);try go_wp2)
     go_meet
     case rel=>exact ⟨_,(false),(by first | rfl | (simp;done) | (simp [*];done)),H',⟨by have:=HK1.out;first | omega | exact Nat.le_refl _⟩,by repeat (first | exact zqt.refl _ | apply zqt.step)⟩
   case rest =>
    clear HC3
    obtain ⟨kq,x15_2,rfl,HA,HJ2,⟨mc2,rfl⟩⟩:=hcut
    cases kq with
    | zero=>exact absurd HA.out (by simp [q4_Before.j1])
    | succ kj2 =>
     have H:=HA.out
     clear HA
     simp only [q4_Before.j1] at H
     by_cases c5 : x15_2 = true
     case neg =>
      replace c5:=Bool.eq_false_iff.mpr c5
      subst c5
      replace H : (some (decide ((l0.length : Int) < (l1.length : Int)))) = some r:=by rw [if_neg (show ¬ (false = true) by decide)] at H;exact H
      obtain rfl:=Option.some.inj H
      go_wp2
      repeat (go_quiet (fail);try go_wp2)
      go_ret
      exact ⟨by first | rfl | (simp;done) | (simp [*];done),by repeat (first | exact zqt.refl _ | apply zqt.step)⟩
     subst c5
     replace H : (if 0≤x5_1 then (if x5_1 < (l0.length : Int) then (if x5_1 < (l1.length : Int) then (if (rd l0 x5_1) = (rd l1 x5_1) then (q4_Before.l0 kj2 l0 l1 (wrap64 (x5_1 + 1))) else (some (decide ((rd l0 x5_1) < (rd l1 x5_1))))) else (none)) else (none)) else (none)) = some r:=by rw [if_pos rfl] at H;exact H
     by_cases c6 : 0≤x5_1
     case neg =>
      rw [if_neg c6] at H
      exact absurd H (by simp)
     rw [if_pos c6] at H
     have c6b0 : decide (0≤x5_1) = true:=decide_eq_true c6
     clear c6
     by_cases c7 : x5_1 < (l0.length : Int)
     case neg =>
      rw [if_neg c7] at H
      exact absurd H (by simp)
     rw [if_pos c7] at H
     have c7b0 : decide (x5_1 < (l0.length : Int)) = true:=decide_eq_true c7
     clear c7
     by_cases c8 : x5_1 < (l1.length : Int)
     case neg =>
      rw [if_neg c8] at H
      exact absurd H (by simp)
     rw [if_pos c8] at H
     have c8b0 : decide (x5_1 < (l1.length : Int)) = true:=decide_eq_true c8
     clear c8
     by_cases c9 : (rd l0 x5_1) = (rd l1 x5_1)
     ·rw [if_pos c9] at H
      have c9b0 : ((rd l0 x5_1) == (rd l1 x5_1)) = true:=beq_iff_eq.mpr c9
      have c9b1 : ((rd l0 x5_1) != (rd l1 x5_1)) = false:=bne_eq_false_iff_eq.mpr c9
      clear c9
      replace H':=am H
      have p552 : 0≤(x5_1 : Int):=of_decide_eq_true (by assumption)
      have q552 : x5_1 < (l0.length : Int):=of_decide_eq_true (by assumption)
      obtain ⟨ad552,e552,hx552_0⟩:=Kd.at_int HR0.out x5_1 p552 q552
      cases e552
      replace p552:=eq_true p552
      replace q552:=eq_true q552
      have p553 : 0≤(x5_1 : Int):=of_decide_eq_true (by assumption)
      have q553 : x5_1 < (l1.length : Int):=of_decide_eq_true (by assumption)
      obtain ⟨ad553,e553,hx553_0⟩:=Kd.at_int HR1.out x5_1 p553 q553
      cases e553
      replace p553:=eq_true p553
      replace q553:=eq_true q553
      go_wp2
      repeat (go_quiet (fail);try go_wp2)
      go_roundg kj2
      case measure=>have:=HK1.out;have:=HJ2.out;omega
      case rel=>exact ⟨(wrap64 (x5_1 + 1)),(by first | rfl | (simp;done) | (simp [*];done)),H',⟨by have:=HK1.out;have:=HJ2.out;omega⟩,by repeat (first | exact zqt.refl _ | apply zqt.step)⟩
     ·rw [if_neg c9] at H
      have c9b0 : ((rd l0 x5_1) == (rd l1 x5_1)) = false:=beq_eq_false_iff_ne.mpr c9
      have c9b1 : ((rd l0 x5_1) != (rd l1 x5_1)) = true:=bne_iff_ne.mpr c9
      obtain rfl:=Option.some.inj H
      have p552 : 0≤(x5_1 : Int):=of_decide_eq_true (by assumption)
      have q552 : x5_1 < (l0.length : Int):=of_decide_eq_true (by assumption)
      obtain ⟨ad552,e552,hx552_0⟩:=Kd.at_int HR0.out x5_1 p552 q552
      cases e552
      replace p552:=eq_true p552
      replace q552:=eq_true q552
      have p553 : 0≤(x5_1 : Int):=of_decide_eq_true (by assumption)
      have q553 : x5_1 < (l1.length : Int):=of_decide_eq_true (by assumption)
      obtain ⟨ad553,e553,hx553_0⟩:=Kd.at_int HR1.out x5_1 p553 q553
      cases e553
      replace p553:=eq_true p553
      replace q553:=eq_true q553
      have p554 : 0≤(x5_1 : Int):=of_decide_eq_true (by assumption)
      have q554 : x5_1 < (l0.length : Int):=of_decide_eq_true (by assumption)
      obtain ⟨ad554,e554,hx554_0⟩:=Kd.at_int HR0.out x5_1 p554 q554
      obtain rfl : ad552 = ad554:=(by injection e554)
      replace p554:=eq_true p554
      replace q554:=eq_true q554
      have p555 : 0≤(x5_1 : Int):=of_decide_eq_true (by assumption)
      have q555 : x5_1 < (l1.length : Int):=of_decide_eq_true (by assumption)
      obtain ⟨ad555,e555,hx555_0⟩:=Kd.at_int HR1.out x5_1 p555 q555
      obtain rfl : ad553 = ad555:=(by injection e555)
      replace p555:=eq_true p555
      replace q555:=eq_true q555
      go_wp2
      repeat (go_quiet (fail);try go_wp2)
      go_ret
      exact ⟨by first | rfl | (simp;done) | (simp [*];done),by repeat (first | exact zqt.refl _ | apply zqt.step)⟩
end
end Go.Proofs.YtnnmnhpeblhiiaaGreatDoor.C
namespace Go.Abs
open Go.RowKit Go.Proofs.YtnnmnhpeblhiiaaGreatDoorW.PrintWords Go.Proofs.YtnnmnhpeblhiiaaGreatDoorW.PrintMore
set_option maxHeartbeats 16000000
set_option maxRecDepth 100000
def capOk (k : Nat) (s : St) (v : AV) : Bool:=
 match v with
 | .nilSlice=>true
 | .slice _ _ n c=>Nat.ble n c
 | .opn b n=>match s.heap.get b with
  | some (.cells _ (some k') cs)=>Nat.beq k' k && Nat.ble 1 k && Nat.ble (n * k) cs.length
  | some (.ro _ (some k') cs)=>Nat.beq k' k && Nat.ble 1 k && Nat.ble (n * k) cs.length
  | _=>false
 | _=>false
theorem capOk_le {e : Env} {s : St} {w : World} (hs : Sim e s w) {k n m c : Nat} {v : AV} {A : Option Addr} (h : capOk k s v = true) (hx : conc e v = some (.slice A m c)) : m≤c:=by
 unfold capOk at h
 split at h
 ·simp only [conc,Option.some.injEq,Value.slice.injEq] at hx;omega
 ·simp only [conc,Option.map_eq_some_iff,Value.slice.injEq] at hx
  obtain ⟨p,_,_,rfl,rfl⟩:=hx
  exact Nat.le_of_ble_eq_true h
 ·simp only [conc,Option.map_eq_some_iff,Value.slice.injEq] at hx
  obtain ⟨p,hp,_,rfl,rfl⟩:=hx
  have key : ∀ {n' k' : Nat} {cs : List AV} {vs rest : List Value},(Nat.beq k' k && Nat.ble 1 k && Nat.ble (n' * k) cs.length) = true→concL e cs = some vs→(vs ++ rest).length = p.2 * k'→n'≤p.2:=by
   intro n' k' cs vs rest h h1 h2
   simp only [Bool.and_eq_true,Nat.beq_eq,Nat.ble_eq] at h
   obtain ⟨⟨rfl,h3⟩,h4⟩:=h
   rw [List.length_append,zqv h1] at h2
   exact Nat.le_of_mul_le_mul_right (by omega : n' * k'≤p.2 * k') (by omega)
  split at h
  ·rename_i hb
   obtain ⟨b,q,ob,he,_,vs,rest,h1,rfl,h2⟩:=hs.at_ _ _ hb
   rw [hp] at he;cases he
   exact key h h1 h2
  ·rename_i hb
   obtain ⟨b,q,ob,he,_,vs,rest,h1,rfl,h2⟩:=hs.at_ _ _ hb
   rw [hp] at he;cases he
   exact key h h1 (h2 _ rfl)
  ·cases h
 ·cases h
theorem first_cells {e : Env} {s : St} {w : World} (hs : Sim e s w) {m n c : Nat} {v : AV} {cs : List AV} {A : Option Addr} (h : zvh m v s = some cs) (hx : conc e v = some (.slice A n c)) (hm : 0 < m) :
 ∃ ad vs,A = some ad∧concL e cs = some vs∧∀ i u,vs[i]? = some u→w.cell? (ad.add i) = some u:=by
 have cell : ∀ {g o : Nat} {t : TypeId} {vs rest us : List Value},w.heap[g]? = some (.cells (vs ++ rest).toArray t (0,0))→(∀ i u,us[i]? = some u→vs[o + i]? = some u)→∀ i u,us[i]? = some u→w.cell? ((⟨g,o,none⟩ : Addr).add i) = some u:=by
  intro g o t vs rest us hg hus i u hu
  have h1:=hus i u hu
  have h2 : o + i < vs.length:=(List.getElem?_eq_some_iff.1 h1).1
  rw [zw0]
  simp only [World.cell?,hg]
  simp only [Option.isSome_none,Bool.false_eq_true,if_false,List.getElem?_toArray]
  rw [List.getElem?_append_left h2];exact h1
 unfold zvh at h
 split at h
 ·split at h
  ·omega
  ·cases h
 ·simp only [Option.bind_eq_some_iff] at h
  obtain ⟨ds,hg,h⟩:=h
  split at h
  ·simp only [Option.some.injEq] at h;subst h
   obtain ⟨g,q,t,vs,rest,he,hb,hvs⟩:=rd_at hs hg
   simp only [conc,he,Option.map_some,Option.some.injEq,Value.slice.injEq] at hx
   obtain ⟨rfl,_,_⟩:=hx
   refine ⟨_,_,rfl,zwy (zvq hvs _) _,cell hb fun i u hu=>?_⟩
   rw [List.getElem?_take] at hu
   split at hu
   ·rw [List.getElem?_drop] at hu;exact hu
   ·cases hu
  ·cases h
 ·simp only [Option.bind_eq_some_iff] at h
  obtain ⟨ds,hg,h⟩:=h
  split at h
  ·simp only [Option.some.injEq] at h;subst h
   obtain ⟨g,q,t,vs,rest,he,hb,hvs⟩:=rd_at hs hg
   simp only [conc,he,Option.map_some,Option.some.injEq,Value.slice.injEq] at hx
   obtain ⟨rfl,_,_⟩:=hx
   refine ⟨_,_,rfl,zwy hvs _,cell hb fun i u hu=>?_⟩
   rw [List.getElem?_take] at hu
   split at hu
   ·rw [Nat.zero_add];exact hu
   ·cases hu
  ·cases h
 ·cases h
def rdG {α : Type} (sz : Nat) (dec : List AV→Option (List α)) (s : St) (v : AV) : Option (List α):=
 if capOk sz s v then (lenSl v).bind fun n=>if Nat.ble n 1000000 then (zvh (n * sz) v s).bind fun cs=>(dec cs).bind fun xs=>if Nat.beq xs.length n then some xs else none else none else none
theorem rdG_ok {α : Type} {d : Kd α} {e : Env} {s : St} {w : World} (hs : Sim e s w) {dec : List AV→Option (List α)} (hsz : 0 < d.sz)
 (hdec : ∀ cs xs vs,dec cs = some xs→concL e cs = some vs→∀ j p,xs[j]? = some p→d.K w p ((vs.drop (j * d.sz)).take d.sz))
 {v : AV} {xs : List α} {x : Value} (h : rdG d.sz dec s v = some xs) (hx : conc e v = some x) : ∃ A c,x = .slice A xs.length c∧xs.length≤c∧d.C w A xs.length xs:=by
 unfold rdG at h
 split at h
 case isFalse=>cases h
 rename_i hcap
 simp only [Option.bind_eq_some_iff] at h
 obtain ⟨n,hn,h⟩:=h
 split at h
 case isFalse=>cases h
 rename_i hle
 simp only [Option.bind_eq_some_iff] at h
 obtain ⟨cs,hcs,xs',hxs,h⟩:=h
 split at h
 case isFalse=>cases h
 rename_i hlen
 cases h
 have hlen : xs.length = n:=Nat.eq_of_beq_eq_true hlen
 subst hlen
 obtain ⟨_,A,c,rfl⟩:=zgl hn hx
 refine ⟨A,c,rfl,capOk_le hs (n:=0) hcap hx,rfl,by have:=Nat.le_of_ble_eq_true hle;omega,fun h0=>?_⟩
 obtain ⟨ad,vs,rfl,hvs,hcell⟩:=first_cells hs hcs hx (Nat.mul_pos h0 hsz)
 refine ⟨ad,rfl,fun j p hj=>⟨_,d.K_len (hdec cs xs vs hxs hvs j p hj),hdec cs xs vs hxs hvs j p hj,fun i u hu=>?_⟩⟩
 rw [List.getElem?_take] at hu
 split at hu
 ·rw [List.getElem?_drop] at hu
  exact hcell _ u hu
 ·cases hu
def intsA : List AV→Option (List Int)
 | []=>some []
 | .int .i64 a :: l=>(intsA l).map (a :: ·)
 | _=>none
theorem intsA_eq : ∀ {cs : List AV} {xs : List Int},intsA cs = some xs→cs = xs.map (.int .i64)
 | [],_,h=>by cases h;rfl
 | a :: l,xs,h=>by
  unfold intsA at h
  split at h
  ·cases ‹_ :: _ = []›
  ·rename_i heq;cases heq
   simp only [Option.map_eq_some_iff] at h
   obtain ⟨ys,h1,rfl⟩:=h
   rw [intsA_eq h1];rfl
  ·cases h
theorem zkc (e : Env) : ∀ xs : List Int,concL e (xs.map (.int .i64)) = some (xs.map (Value.int .i64))
 | []=>rfl
 | x :: xs=>by simp [concL,conc,zkc e xs]
def rdInts : St→AV→Option (List Int):=rdG 1 intsA
theorem rdInts_ok {e : Env} {s : St} {w : World} (hs : Sim e s w) {v : AV} {xs : List Int} {x : Value} (h : rdInts s v = some xs) (hx : conc e v = some x) : ∃ A c,x = .slice A xs.length c∧xs.length≤c∧(Kd.int .i64).C w A xs.length xs:=by
 refine rdG_ok (d:=Kd.int .i64) hs (by show 0 < 1;omega) (fun cs xs vs h1 h2 j p hj=>?_) h hx
 rw [intsA_eq h1,zkc] at h2;cases h2
 show ((xs.map (Value.int .i64)).drop (j * 1)).take 1 = [.int .i64 p]
 have : (xs.map (Value.int .i64))[j * 1]? = some (.int .i64 p):=by simp [hj]
 rw [List.drop_eq_getElem?_toList_append]
 rw [this];rfl
def eachA {α : Type} (f : AV→Option α) : List AV→Option (List α)
 | []=>some []
 | v :: l=>(f v).bind fun x=>(eachA f l).map (x :: ·)
theorem eachA_at {α : Type} {f : AV→Option α} : ∀ {cs : List AV} {xs : List α},eachA f cs = some xs→∀ {e : Env} {vs : List Value},concL e cs = some vs→∀ j p,xs[j]? = some p→∃ v y,f v = some p∧conc e v = some y∧(vs.drop (j * 1)).take 1 = [y]
 | [],_,h,e,vs,hv,j,p,hj=>by cases h;simp at hj
 | c :: cs,xs,h,e,vs,hv,j,p,hj=>by
  simp only [eachA,Option.bind_eq_some_iff,Option.map_eq_some_iff] at h
  obtain ⟨x,hx,ys,hys,rfl⟩:=h
  obtain ⟨y,zs,hy,hzs,rfl⟩:=zvr hv
  cases j with
  | zero=>cases hj;exact ⟨c,y,hx,hy,by simp⟩
  | succ j =>
   obtain ⟨v,y',h1,h2,h3⟩:=eachA_at hys hzs j p (by simpa using hj)
   exact ⟨v,y',h1,h2,by rw [show (j + 1) * 1 = j * 1 + 1 by omega];exact h3⟩
def rdLists (s : St) : AV→Option (List (List Int)):=rdG 1 (eachA (rdInts s)) s
theorem zmv {e : Env} {s : St} {w : World} (hs : Sim e s w) {v : AV} {xs : List (List Int)} {x : Value} (h : rdLists s v = some xs) (hx : conc e v = some x) : ∃ A c,x = .slice A xs.length c∧xs.length≤c∧(Kd.slice 3 (Kd.int .i64)).C w A xs.length xs:=by
 refine rdG_ok (d:=Kd.slice 3 (Kd.int .i64)) hs (by show 0 < 1;omega) (fun cs xs vs h1 h2 j p hj=>?_) h hx
 obtain ⟨v,y,h3,h4,h5⟩:=eachA_at h1 h2 j p hj
 obtain ⟨A,c,rfl,h6,h7⟩:=rdInts_ok hs h3 h4
 exact ⟨A,c,h5,h6,h7⟩
theorem grow {e : Env} {s : St} {w w' : World} (h : Sim e s w) (hb : Below w.heap.size w w') : Sim e s w'∧Goes e s w e s w':=by
 refine ⟨⟨fun n x hx=>?_,h.inj,fun n b q hn=>Nat.lt_of_lt_of_le (h.bound n b q hn) hb.size⟩,⟨Env.le.refl e,fun _ h=>.inl h,fun _ _ h=>h,fun _ _ h=>h,fun b hb' _=>hb.block b hb',hb.size,hb.os,hb.tape,hb.output,fun _ _=>rfl,fun _ h=>h,Nat.le_refl _⟩⟩
 obtain ⟨b,q,ob,he,hw,hr⟩:=h.at_ n x hx
 exact ⟨b,q,ob,he,(hb.block b (h.bound n b q he)).trans hw,hr⟩
def zma (e : Env) (s : St) (B : Nat) : Prop:=∀ n x b q,s.heap.get n = some x→x.rw→e n = some (b,q)→b < B
theorem addAt {e0 e : Env} {s0 s : St} {w0 w : World} (hg : Goes e0 s0 w0 e s w) (h : Sim e s w) (hr : zma e s w0.heap.size) {g q : Nat} {blk : Blk} {ob : Obj} (hfree : e s.next = none) (h0 : w0.heap.size≤g) (hlt : g < w.heap.size)
 (hro : ¬ blk.rw∨∀ n x q,s.heap.get n = some x→e n ≠ some (g,q)) (hob : w.heap[g]? = some ob) (hb : zkk (e.upd s.next (g,q)) q blk ob) :
 Sim (e.upd s.next (g,q)) (s.add blk) w∧Goes e0 s0 w0 (e.upd s.next (g,q)) (s.add blk) w∧(¬ blk.rw→zma (e.upd s.next (g,q)) (s.add blk) w0.heap.size):=by
 have hle:=Env.le_upd (g,q) hfree
 refine ⟨⟨?_,?_,?_⟩,⟨hg.le.trans hle,?_,?_,?_,hg.frame,hg.size,hg.os,hg.tape,hg.output,?_,?_,Nat.le_trans hg.next (Nat.le_succ _)⟩,?_⟩
 ·intro m x hx
  simp only [St.add,Tr.get_set] at hx
  split at hx
  ·subst m;cases hx;exact ⟨g,q,ob,Env.upd_self ..,hob,hb⟩
  ·obtain ⟨b',q',ob',he',hb',hr'⟩:=h.at_ m x hx
   exact ⟨b',q',ob',hle _ _ he',hb',hr'.le hle⟩
 ·intro m k b' q1 q2 x y hm hmr hk em ek
  simp only [St.add,Tr.get_set] at hm hk
  by_cases e1 : m = s.next<;>by_cases e2 : k = s.next
  ·rw [e1,e2]
  ·subst e1;rw [Env.upd_self] at em;cases em;rw [Env.upd_ne _ _ e2] at ek;rw [if_neg e2] at hk;rw [if_pos rfl] at hm;cases hm
   rcases hro with hro | hro
   ·exact absurd hmr hro
   ·exact absurd ek (hro _ _ _ hk)
  ·subst e2;rw [Env.upd_self] at ek;cases ek;rw [Env.upd_ne _ _ e1] at em;rw [if_neg e1] at hm
   exact absurd (hr m _ _ _ hm hmr em) (by omega)
  ·rw [if_neg e1] at hm;rw [if_neg e2] at hk;rw [Env.upd_ne _ _ e1] at em;rw [Env.upd_ne _ _ e2] at ek
   exact h.inj m k b' q1 q2 _ _ hm hmr hk em ek
 ·intro m b' q' hm
  by_cases e1 : m = s.next
  ·subst e1;rw [Env.upd_self] at hm;cases hm;exact hlt
  ·rw [Env.upd_ne _ _ e1] at hm;exact h.bound m b' q' hm
 ·intro m hm
  by_cases e1 : m = s.next
  ·exact .inr ⟨by rw [e1];exact hg.next,by simp only [St.add];omega⟩
  ·rw [Env.upd_ne _ _ e1] at hm
   rcases hg.rng m hm with h1 | ⟨h1,h2⟩
   ·exact .inl h1
   ·exact .inr ⟨h1,Nat.lt_succ_of_lt h2⟩
 ·rintro b' hb' ⟨m,x,q',hx,hxr,hm⟩
  simp only [St.add,Tr.get_set] at hx
  by_cases e1 : m = s.next
  ·subst e1;rw [Env.upd_self] at hm;cases hm;omega
  ·rw [if_neg e1] at hx;rw [Env.upd_ne _ _ e1] at hm;exact hg.own b' hb' ⟨m,x,q',hx,hxr,hm⟩
 ·rintro b' hb' ⟨m,x,q',hx,hm⟩
  simp only [St.add,Tr.get_set] at hx
  by_cases e1 : m = s.next
  ·subst e1;rw [Env.upd_self] at hm;cases hm;omega
  ·rw [if_neg e1] at hx;rw [Env.upd_ne _ _ e1] at hm;exact hg.met b' hb' ⟨m,x,q',hx,hm⟩
 ·intro m hm
  simp only [St.add,List.mem_cons,not_or] at hm ⊢
  rw [Tr.get_set,if_neg hm.1];exact hg.log m hm.2
 ·intro m hm;exact List.mem_cons_of_mem _ (hg.logs m hm)
 ·intro hro m x b' q' hx hxr hm
  simp only [St.add,Tr.get_set] at hx
  by_cases e1 : m = s.next
  ·subst e1;rw [if_pos rfl] at hx;cases hx;exact absurd hxr hro
  ·rw [if_neg e1] at hx;rw [Env.upd_ne _ _ e1] at hm;exact hr m x b' q' hx hxr hm
theorem rwBelow {e : Env} {s : St} {w : World} (h : Sim e s w) : zma e s w.heap.size:=fun n x b q _ _ he=>h.bound n b q he
theorem endsC {P : Program} {f : FuncId} {xs : Array Value} {w : World} {R : Ending→World→Prop} (h : Calls P f xs w R) (c : Frame) (cs : List Frame) :
 ∃ e w',R e w'∧∀ v,e = .returned v→Steps P (lone (Frame.enter P f xs .normal) (c :: cs) w) (lone (c.finish v) cs w'):=by
 obtain ⟨e,w',fr,hR,hc,_,hl⟩:=h (c :: cs)
 refine ⟨e,w',hR,fun v hv=>?_⟩
 subst hv
 exact Steps.trans hc (.one (step_leave_returned hl))
theorem row_of {d : Kd Int} {e base n : Nat} {w : World} {ok : Nat→Prop} {v : Value} {xs : List Int} (h : (Kd.int .i64).R e w base ok v xs) (hx : xs ≠ []) :
 ∃ g cap rest,v = .slice (some ⟨g,0,none⟩) xs.length cap∧base≤g∧g < w.heap.size∧w.heap[g]? = some (.cells (xs.map (Value.int .i64) ++ rest).toArray e (0,0))∧(xs.map (Value.int .i64) ++ rest).length = cap * 1:=by
 obtain ⟨_,inner,ho,hr⟩:=h
 obtain ⟨h1,h2⟩:=ho
 rcases h2 with ⟨_,h2⟩ | ⟨g,cap,cur,rfl,h3,h4,h5,h6,h7,h8⟩
 ·exact absurd (List.length_eq_zero_iff.1 h2) hx
 have hin : inner = xs.map (Value.int .i64):=by
  apply List.ext_getElem?
  intro j
  have hl : inner.length = xs.length * 1:=h1
  cases hj : xs[j]? with
  | none =>
   rw [List.getElem?_map,hj,List.getElem?_eq_none];· rfl
   have:=List.getElem?_eq_none_iff.1 hj;omega
  | some p =>
   have h9 : (inner.drop (j * 1)).take 1 = [.int .i64 p]:=hr.2 j p hj
   rw [List.getElem?_map,hj]
   have : ((inner.drop (j * 1)).take 1)[0]? = some (Value.int .i64 p):=by rw [h9];rfl
   rw [List.getElem?_take,if_pos (by omega),List.getElem?_drop] at this
   simpa using this
 have hsz : (Kd.int .i64).sz = 1:=rfl
 rw [hsz] at h7 h8
 refine ⟨g,cap,cur.toList.drop (xs.length * 1),rfl,h3,(Array.getElem?_eq_some_iff.1 h4).1,?_,?_⟩
 ·rw [h4,← hin,← h8,List.take_append_drop]
 ·rw [← hin,← h8,List.take_append_drop,Array.length_toList];exact h7
def zw6 (t : TypeId) : List (List Int)→St→List AV × St
 | [],s=>([],s)
 | l :: r,s=>let q:=zw6 t r (s.add (.ro t (some 1) (l.map (.int .i64))));(.opn s.next l.length :: q.1,q.2)
theorem zx8 (t : TypeId) : ∀ (l : List (List Int)) (s : St),(zw6 t l s).2.next = s.next + l.length
 | [],s=>rfl
 | x :: r,s=>by
  show (zw6 t r _).2.next = _
  rw [zx8 t r];simp only [St.add,List.length_cons];omega
theorem znm {e0 : Env} {s0 : St} {w0 w : World} {t : TypeId} {ok : Nat→Prop} : ∀ {l : List (List Int)} {vs : List Value} {e : Env} {s : St},Goes e0 s0 w0 e s w→Sim e s w→zma e s w0.heap.size→Free e s.next (s.next + l.length)→
 vs.length = l.length→(∀ (j : Nat) (xs : List Int),l[j]? = some xs→xs ≠ []∧∃ v,vs[j]? = some v∧(Kd.int .i64).R t w w0.heap.size ok v xs)→
 ∃ e',Goes e0 s0 w0 e' (zw6 t l s).2 w∧Sim e' (zw6 t l s).2 w∧zma e' (zw6 t l s).2 w0.heap.size∧e.le e'∧concL e' (zw6 t l s).1 = some vs∧∀ n,s.next + l.length≤n→e n = none→e' n = none
 | [],vs,e,s,hg,hs,hr,hf,hl,h=>by
  obtain rfl : vs = []:=List.length_eq_zero_iff.1 hl
  exact ⟨e,hg,hs,hr,Env.le.refl e,rfl,fun _ _ h=>h⟩
 | x :: r,vs,e,s,hg,hs,hr,hf,hl,h=>by
  obtain ⟨v,vs,rfl⟩ : ∃ v vs',vs = v :: vs':=by cases vs with | nil=>simp at hl | cons a b=>exact ⟨a,b,rfl⟩
  obtain ⟨hx,v',hv',hR⟩:=h 0 x rfl
  cases hv'
  obtain ⟨g,cap,rest,rfl,h1,h2,h3,h4⟩:=row_of (d:=Kd.int .i64) (n:=0) hR hx
  have hfree : e s.next = none:=hf _ (Nat.le_refl _) (by simp only [List.length_cons];omega)
  have hle:=Env.le_upd (g,cap) hfree
  obtain ⟨q1,q2,q3⟩:=addAt (q:=cap) (blk:=.ro t (some 1) (x.map (.int .i64))) hg hs hr hfree h1 h2 (.inl fun z=>z) h3 ⟨_,rest,zkc _ x,rfl,fun m hm=>by cases hm;exact h4⟩
  obtain ⟨e',p1,p2,p3,p4,p5,p6⟩:=znm (l:=r) (vs:=vs) (s:=s.add (.ro t (some 1) (x.map (.int .i64)))) q2 q1 (q3 fun z=>z) (fun n a b=>by
   rw [Env.upd_ne _ _ (by simp only [St.add] at a;omega)]
   exact hf n (by simp only [St.add] at a;omega) (by simp only [St.add] at b;simp only [List.length_cons];omega)) (by simpa using hl) (fun j xs hj=>h (j + 1) xs (by simpa using hj))
  refine ⟨e',p1,p2,p3,hle.trans p4,?_,fun n a b=>p6 n (by simp only [St.add,List.length_cons] at a ⊢;omega) ?_⟩
  ·simp only [zw6,concL,conc,p4 _ _ (Env.upd_self e s.next (g,cap)),Option.map_some,Option.bind_some,p5]
  ·rw [Env.upd_ne _ _ (by simp only [List.length_cons] at a;omega)];exact b
end Go.Abs
namespace Go.Proofs.YtnnmnhpeblhiiaaGreatDoor.C
open Go.RowKit Go.Abs Go.Proofs.YtnnmnhpeblhiiaaGreatDoorW.PrintWords Go.Proofs.YtnnmnhpeblhiiaaGreatDoorW.PrintLast Go.Proofs.YtnnmnhpeblhiiaaGreatDoorW.PrintMore
set_option maxHeartbeats 16000000
set_option maxRecDepth 100000
def zpf : List AV→Option (List S126)
 | []=>some []
 | .int .i64 a :: .int .i64 b :: .int .i64 c :: l=>(zpf l).map (⟨a,b,c⟩ :: ·)
 | _=>none
theorem znj : ∀ {cs : List AV} {xs : List S126} {e : Env} {vs : List Value},zpf cs = some xs→concL e cs = some vs→∀ (j : Nat) p,xs[j]? = some p→(vs.drop (j * 3)).take 3 = [.int .i64 p.f0,.int .i64 p.f1,.int .i64 p.f2]
 | [],_,e,vs,h,hv,j,p,hj=>by cases h;simp at hj
 | a :: l,xs,e,vs,h,hv,j,p,hj=>by
  unfold zpf at h
  split at h
  ·cases ‹_ :: _ = []›
  ·rename_i heq;cases heq
   simp only [Option.map_eq_some_iff] at h
   obtain ⟨ys,h1,rfl⟩:=h
   simp only [concL,conc,Option.bind_some,Option.map_eq_some_iff] at hv
   obtain ⟨_,⟨_,⟨zs,hz,rfl⟩,rfl⟩,rfl⟩:=hv
   cases j with
   | zero=>cases hj;rfl
   | succ j=>rw [show (j + 1) * 3 = j * 3 + 3 by omega];exact znj h1 hz j p (by simpa using hj)
  ·cases h
def decNoz : List AV→Option (List S48)
 | []=>some []
 | .int .i64 a :: .int .i64 b :: l=>(decNoz l).map (⟨a,b⟩ :: ·)
 | _=>none
theorem decNoz_eq : ∀ {cs : List AV} {xs : List S48} {e : Env} {vs : List Value},decNoz cs = some xs→concL e cs = some vs→∀ (j : Nat) p,xs[j]? = some p→(vs.drop (j * 2)).take 2 = [.int .i64 p.f0,.int .i64 p.f1]
 | [],_,e,vs,h,hv,j,p,hj=>by cases h;simp at hj
 | a :: l,xs,e,vs,h,hv,j,p,hj=>by
  unfold decNoz at h
  split at h
  ·cases ‹_ :: _ = []›
  ·rename_i heq;cases heq
   simp only [Option.map_eq_some_iff] at h
   obtain ⟨ys,h1,rfl⟩:=h
   simp only [concL,conc,Option.bind_some,Option.map_eq_some_iff] at hv
   obtain ⟨_,⟨zs,hz,rfl⟩,rfl⟩:=hv
   cases j with
   | zero=>cases hj;rfl
   | succ j=>rw [show (j + 1) * 2 = j * 2 + 2 by omega];exact decNoz_eq h1 hz j p (by simpa using hj)
  ·cases h
def rdRows : St→AV→Option (List S126):=rdG 3 zpf
def rdNoz : St→AV→Option (List S48):=rdG 2 decNoz
theorem zb7 {e : Env} {s : St} {w : World} (hs : Sim e s w) {v : AV} {xs : List S126} {x : Value} (h : rdRows s v = some xs) (hx : conc e v = some x) : ∃ A c,x = .slice A xs.length c∧xs.length≤c∧Kd.C k126 w A xs.length xs:=
 rdG_ok (d:=k126) hs (by show 0 < 3;omega) (fun cs xs vs h1 h2 j p hj=>by
  show k126.K w p ((vs.drop (j * 3)).take 3)
  rw [znj h1 h2 j p hj];exact k126_mk w p) h hx
theorem zn0 {e : Env} {s : St} {w : World} (hs : Sim e s w) {v : AV} {xs : List S48} {x : Value} (h : rdNoz s v = some xs) (hx : conc e v = some x) : ∃ A c,x = .slice A xs.length c∧xs.length≤c∧Kd.C k48 w A xs.length xs:=
 rdG_ok (d:=k48) hs (by show 0 < 2;omega) (fun cs xs vs h1 h2 j p hj=>by
  show k48.K w p ((vs.drop (j * 2)).take 2)
  rw [decNoz_eq h1 h2 j p hj];exact k48_mk w p) h hx
def fillG (args : List AV) (s : St) : Option (Rt × St):=
 match args with
 | [.agg [t,.int .i64 d,z,.int .i64 wr,.int .i64 sp]]=>(rdRows s t).bind fun rs=>(rdNoz s z).bind fun zs=>(ca_fill.f 400 rs d zs wr sp).bind fun r =>
  if r.2.2.2.all (fun l=>!l.isEmpty) && !r.2.2.2.isEmpty then
   some (.ret (.agg [t,.int .i64 r.1,z,.int .i64 r.2.1,.int .i64 r.2.2.1,.opn (s.next + r.2.2.2.length) r.2.2.2.length]),(zw6 3 r.2.2.2 s).2.add (.ro 28 (some 1) (zw6 3 r.2.2.2 s).1))
  else none
 | _=>none
def levelG (args : List AV) (s : St) : Option (Rt × St):=
 match args with
 | [.agg [t,.int .i64 d,z,.int .i64 wr,.int .i64 sp,g],.int .i64 c]=>(rdRows s t).bind fun rs=>(rdNoz s z).bind fun zs=>(rdLists s g).bind fun gs=>(gf_level.f rs d zs wr sp gs c).bind fun r=>some (.ret (.int .i64 r),s)
 | _=>none
def sharesG (args : List AV) (s : St) : Option (Rt × St):=
 match args with
 | [.agg [t,.int .i64 d,z,.int .i64 wr,.int .i64 sp,g],.int .i64 c]=>(rdRows s t).bind fun rs=>(rdNoz s z).bind fun zs=>(rdLists s g).bind fun gs=>(gf_shares.f 400 rs d zs wr sp gs c).bind fun r =>
  if r.1.isEmpty then none else some (.ret (.tup [.opn s.next r.1.length,.int .i64 r.2]),s.add (.cells 3 (some 1) (r.1.map (.int .i64))))
 | _=>none
def castleHook : Hook:=fun f=>if Nat.beq f 69 then some fillG else if Nat.beq f 85 then some levelG else if Nat.beq f 71 then some sharesG else none
theorem fillG_ok {args : List AV} {s : St} {r : Rt} {s' : St} (h : fillG args s = some (r,s')) {e : Env} {w : World} (hs : Sim e s w) (hf : Free e s.next s'.next) {xs : List Value} (hxs : concL e args = some xs) (c : Frame) (cs : List Frame) :
 ∃ e' w',Sim e' s' w'∧Goes e s w e' s' w'∧zxh Tryz.prog (lone (Frame.enter Tryz.prog 69 xs.toArray .normal) (c :: cs) w) c cs e' r w':=by
 unfold fillG at h
 split at h
 case h_2=>cases h
 rename_i t d z wr sp
 simp only [Option.bind_eq_some_iff] at h
 obtain ⟨rs,hrs,zs,hzs,⟨r1,r2,r3,r4⟩,hr,h⟩:=h
 split at h
 case isFalse=>cases h
 rename_i hne
 simp only [Bool.and_eq_true,Bool.not_eq_true',List.all_eq_true,List.isEmpty_eq_false_iff] at hne
 obtain ⟨hne1,hne2⟩:=hne
 cases h
 simp only [concL,conc,Option.bind_eq_some_iff,Option.map_eq_some_iff,Option.some.injEq] at hxs
 obtain ⟨_,⟨_,⟨xt,hxt,_,⟨_,rfl,_,⟨xz,hxz,_,⟨_,rfl,_,⟨_,rfl,_,rfl,rfl⟩,rfl⟩,rfl⟩,rfl⟩,rfl⟩,rfl⟩,_,rfl,rfl⟩:=hxs
 obtain ⟨A0,c0,rfl,hc0,hC0⟩:=zb7 hs hrs hxt
 obtain ⟨A2,c2,rfl,hc2,hC2⟩:=zn0 hs hzs hxz
 obtain ⟨en,w',⟨v3,rfl,hS,hB⟩,hst⟩:=endsC (ca_fill.calls 400 A0 c0 rs d A2 c2 zs wr sp r1 r2 r3 r4 w hC0 hc0 hC2 hc2 hr) c cs
 obtain ⟨hg1,hg2⟩:=grow hs hB
 obtain ⟨_,inner,ho,hrep⟩:=Kd.S_R hS
 obtain ⟨ho1,ho2⟩:=ho
 rcases ho2 with ⟨_,ho2⟩ | ⟨g,cap,cur,rfl,o1,o2,o3,o4,o5,o6⟩
 ·exact absurd (List.length_eq_zero_iff.1 ho2) hne2
 have hsz : (Kd.slice 3 (Kd.int .i64)).sz = 1:=rfl
 rw [hsz] at ho1 o5 o6
 have hfree : Free e s.next (s.next + r4.length + 1):=fun n a b=>hf n a (by simp only [St.add,zx8];exact b)
 obtain ⟨e1,p1,p2,p3,p4,p5,p6⟩:=znm (t:=3) (ok:=fun k=>True∧some k ≠ (Value.slice (some ⟨g,0,none⟩) r4.length cap).ownBlock) (l:=r4) (vs:=inner) hg2 hg1 (fun n x b q hx hr he=>rwBelow hs n x b q hx hr he) (fun n a b=>hfree n a (Nat.lt_succ_of_lt b)) (by rw [ho1];omega)
  (fun j ys hj=>by
   obtain ⟨v,hv1,hv2⟩:=hrep.2 j ys hj
   refine ⟨hne1 ys (List.mem_of_getElem? hj),v,?_,hv2⟩
   have : ((inner.drop (j * 1)).take 1)[0]? = some v:=by rw [show (inner.drop (j * 1)).take 1 = [v] from hv1];rfl
   rw [List.getElem?_take,if_pos (by omega),List.getElem?_drop] at this
   simpa using this)
 have hn1 : (zw6 3 r4 s).2.next = s.next + r4.length:=zx8 ..
 have hfr1 : e1 (zw6 3 r4 s).2.next = none:=by
  rw [hn1];exact p6 _ (Nat.le_refl _) (hfree _ (by omega) (by omega))
 have hob : w'.heap[g]? = some (.cells (inner ++ cur.toList.drop (r4.length * 1)).toArray 28 (0,0)):=by
  rw [o2,← o6,List.take_append_drop]
 obtain ⟨q1,q2,_⟩:=addAt (q:=cap) (blk:=.ro 28 (some 1) (zw6 3 r4 s).1) p1 p2 p3 hfr1 o1 (Array.getElem?_eq_some_iff.1 o2).1 (.inl fun z=>z) hob
  ⟨_,_,zwb (Env.le_upd _ hfr1) _ _ p5,rfl,fun m hm=>by cases hm;rw [← o6,List.take_append_drop,Array.length_toList];exact o5⟩
 refine ⟨_,w',q1,q2,?_⟩
 have hle:=p4.trans (Env.le_upd (g,cap) hfr1)
 have hup : (e1.upd (zw6 3 r4 s).2.next (g,cap)) (s.next + r4.length) = some (g,cap):=by rw [← hn1];exact Env.upd_self ..
 refine ⟨_,?_,hst _ rfl⟩
 simp only [conc,concL,zxo hle _ _ hxt,zxo hle _ _ hxz,hup,Option.map_some,Option.bind_some]
theorem levelG_ok {args : List AV} {s : St} {r : Rt} {s' : St} (h : levelG args s = some (r,s')) {e : Env} {w : World} (hs : Sim e s w) (hf : Free e s.next s'.next) {xs : List Value} (hxs : concL e args = some xs) (c : Frame) (cs : List Frame) :
 ∃ e' w',Sim e' s' w'∧Goes e s w e' s' w'∧zxh Tryz.prog (lone (Frame.enter Tryz.prog 85 xs.toArray .normal) (c :: cs) w) c cs e' r w':=by
 unfold levelG at h
 split at h
 case h_2=>cases h
 rename_i t d z wr sp gv cc
 simp only [Option.bind_eq_some_iff] at h
 obtain ⟨rs,hrs,zs,hzs,gs,hgs,rr,hr,h⟩:=h
 cases h
 simp only [concL,conc,Option.bind_eq_some_iff,Option.map_eq_some_iff,Option.some.injEq] at hxs
 obtain ⟨_,⟨_,⟨xt,hxt,_,⟨_,rfl,_,⟨xz,hxz,_,⟨_,rfl,_,⟨_,rfl,_,⟨xg,hxg,_,rfl,rfl⟩,rfl⟩,rfl⟩,rfl⟩,rfl⟩,rfl⟩,rfl⟩,_,⟨_,rfl,_,rfl,rfl⟩,rfl⟩:=hxs
 obtain ⟨A0,c0,rfl,hc0,hC0⟩:=zb7 hs hrs hxt
 obtain ⟨A2,c2,rfl,hc2,hC2⟩:=zn0 hs hzs hxz
 obtain ⟨A5,c5,rfl,hc5,hC5⟩:=zmv hs hgs hxg
 obtain ⟨en,w',⟨rfl,hB⟩,hst⟩:=endsC (gf_level.calls A0 c0 rs d A2 c2 zs wr sp A5 c5 gs cc rr w hC0 hc0 hC2 hc2 hC5 hc5 hr) c cs
 obtain ⟨hg1,hg2⟩:=grow hs hB
 exact ⟨e,w',hg1,hg2,_,rfl,hst _ rfl⟩
theorem sharesG_ok {args : List AV} {s : St} {r : Rt} {s' : St} (h : sharesG args s = some (r,s')) {e : Env} {w : World} (hs : Sim e s w) (hf : Free e s.next s'.next) {xs : List Value} (hxs : concL e args = some xs) (c : Frame) (cs : List Frame) :
 ∃ e' w',Sim e' s' w'∧Goes e s w e' s' w'∧zxh Tryz.prog (lone (Frame.enter Tryz.prog 71 xs.toArray .normal) (c :: cs) w) c cs e' r w':=by
 unfold sharesG at h
 split at h
 case h_2=>cases h
 rename_i t d z wr sp gv cc
 simp only [Option.bind_eq_some_iff] at h
 obtain ⟨rs,hrs,zs,hzs,gs,hgs,⟨r1,r2⟩,hr,h⟩:=h
 split at h
 case isTrue=>cases h
 rename_i hne
 have hne : r1 ≠ []:=fun e0=>hne (by simp only [e0,List.isEmpty_nil])
 cases h
 simp only [concL,conc,Option.bind_eq_some_iff,Option.map_eq_some_iff,Option.some.injEq] at hxs
 obtain ⟨_,⟨_,⟨xt,hxt,_,⟨_,rfl,_,⟨xz,hxz,_,⟨_,rfl,_,⟨_,rfl,_,⟨xg,hxg,_,rfl,rfl⟩,rfl⟩,rfl⟩,rfl⟩,rfl⟩,rfl⟩,rfl⟩,_,⟨_,rfl,_,rfl,rfl⟩,rfl⟩:=hxs
 obtain ⟨A0,c0,rfl,hc0,hC0⟩:=zb7 hs hrs hxt
 obtain ⟨A2,c2,rfl,hc2,hC2⟩:=zn0 hs hzs hxz
 obtain ⟨A5,c5,rfl,hc5,hC5⟩:=zmv hs hgs hxg
 obtain ⟨en,w',⟨v0,rfl,hR,hB⟩,hst⟩:=endsC (gf_shares.calls 400 A0 c0 rs d A2 c2 zs wr sp A5 c5 gs cc r1 r2 w hC0 hc0 hC2 hc2 hC5 hc5 hr) c cs
 obtain ⟨hg1,hg2⟩:=grow hs hB
 obtain ⟨g,cap,rest,rfl,h1,h2,h3,h4⟩:=row_of (d:=Kd.int .i64) (n:=0) hR hne
 have hfree : e s.next = none:=hf _ (Nat.le_refl _) (by simp only [St.add];omega)
 obtain ⟨q1,q2,_⟩:=addAt (q:=cap) (blk:=.cells 3 (some 1) (r1.map (.int .i64))) hg2 hg1 (fun n x b q hx hr he=>rwBelow hs n x b q hx hr he) hfree h1 h2
  (.inr fun n x q _ he=>absurd (hs.bound n g q he) (by omega)) h3 ⟨_,rest,zkc _ r1,rfl,h4⟩
 refine ⟨_,w',q1,q2,_,?_,hst _ rfl⟩
 simp only [conc,concL,Env.upd_self,Option.map_some,Option.bind_some]
theorem zph : HookOk Tryz.prog castleHook:=by
 intro f g hg args s r s' h e w hs hf xs hxs c cs
 unfold castleHook at hg
 split at hg
 ·rename_i hb;cases hg;cases Nat.eq_of_beq_eq_true hb;exact fillG_ok h hs hf hxs c cs
 ·split at hg
  ·rename_i hb;cases hg;cases Nat.eq_of_beq_eq_true hb;exact levelG_ok h hs hf hxs c cs
  ·split at hg
   ·rename_i hb;cases hg;cases Nat.eq_of_beq_eq_true hb;exact sharesG_ok h hs hf hxs c cs
   ·cases hg
end Go.Proofs.YtnnmnhpeblhiiaaGreatDoor.C
namespace Go.Proofs.YtnnmnhpeblhiiaaGreatDoor.C
open Go Go.Abs Go.RowKit
set_option maxHeartbeats 16000000
set_option maxRecDepth 100000
abbrev I (n : Int) : AV:=.int .i64 n
abbrev U : AV:=.tup []
abbrev L {α : Type} : T4 α:=.leaf
abbrev N {α : Type} (v : α) (a b c d : T4 α) : T4 α:=.node v a b c d
abbrev N0 {α : Type} (v : α) : T4 α:=.node v .leaf .leaf .leaf .leaf
abbrev N1 {α : Type} (v : α) (a : T4 α) : T4 α:=.node v a .leaf .leaf .leaf
abbrev N2 {α : Type} (v : α) (a : T4 α) : T4 α:=.node v .leaf a .leaf .leaf
abbrev N3 {α : Type} (v : α) (a : T4 α) : T4 α:=.node v .leaf .leaf a .leaf
abbrev N4 {α : Type} (v : α) (a : T4 α) : T4 α:=.node v .leaf .leaf .leaf a
def zvf : CallF:=fCall Tryz.prog Go.Proofs.YtnnmnhpeblhiiaaGreatDoor.C.castleHook 100000 60
def kt0 : FT:=ofL []
def kg0 : Sg:=sgOf ⟨.leaf,0,[]⟩
def kt1 : FT:=(N U (N U L (N (.ptr 318 0) (N0 (I 0)) L L L) (N (.ptr 175 0) (N0 (I 0)) L L L) (N0 (.opn 36 3))) (N U (N0 (I 1)) (N1 U (N0 (I 0))) (N (I 3) (N0 (.bool false)) L L L) L) (N U (N (.opn 710 3) (N0 (I 0)) L L L) (N (.ptr 244 0) (N0 (I 0)) L L L) (N0 (.opn 114 3)) L) (N U (N (.opn 424 3) (N0 (I 0)) L L L) (N (.opn 243 3) (N0 (I 0)) L L L) (N0 (I 10)) L))
def kg1 : Sg:=sgOf ⟨(N none (N none (N3 none (N1 none (N0 (some (.cells 126 none [(I 5),(I 4),(I 10),(I 10),(I 8),(I 20),(I 20),(I 15),(I 45)]))))) L (N none L (N2 none (N1 none (N0 (some (.cells 3 none [(I 8),(I 12),(I 12)]))))) (N0 (some (.cells 48 none [(I 0),(I 10),(I 1),(I 10),(I 2),(I 12)]))) L) (N3 none (N4 none (N0 (some (.cells 126 none [(I 5),(I 4),(I 10),(I 10),(I 8),(I 20),(I 20),(I 15),(I 45)])))))) (N (some (.cells 126 none [(I 5),(I 4),(I 10),(I 10),(I 8),(I 20),(I 20),(I 15),(I 45)])) (N none L L (N1 none (N0 (some (.cells 48 none [(I 0),(I 10),(I 1),(I 10),(I 2),(I 12)])))) (N2 none (N2 none (N0 (some (.cells 3 (some 1) [(I 10),(I 11),(I 12)])))))) L (N3 none (N4 none (N0 (some (.cells 54 none [(I 27),(I 56)]))))) (N none L (N none (N0 (some (.cells 3 (some 1) [(I 10),(I 20),(I 45)]))) (N0 (some (.cells 126 none [(I 5),(I 4),(I 10),(I 10),(I 8),(I 20),(I 20),(I 15),(I 45)]))) L L) (N4 none (N0 (some (.cells 48 none [(I 0),(I 10),(I 1),(I 10),(I 2),(I 12)])))) L)) (N (some (.cells 48 none [(I 0),(I 10),(I 1),(I 10),(I 2),(I 12)])) (N3 none (N3 none (N0 (some (.cells 126 none [(I 5),(I 4),(I 10),(I 10),(I 8),(I 20),(I 20),(I 15),(I 45)]))))) (N2 none (N2 none (N1 none (N0 (some (.cells 126 none [(I 5),(I 4),(I 10),(I 10),(I 8),(I 20),(I 20),(I 15),(I 45)])))))) (N2 none (N2 none (N0 (some (.cells 54 none [(I 13),(I 15)]))))) (N2 none (N none L (N0 (some (.cells 48 none [(I 0),(I 10),(I 1),(I 10),(I 2),(I 12)]))) (N0 (some (.cells 54 (some 2) [(I 8),(I 10),(I 13),(I 20),(I 9),(I 30)]))) L))) (N none (N none L (N2 none (N1 none (N0 (some (.cells 3 (some 1) [(I (-4)),(I (-5)),(I 9)]))))) (N3 none (N0 (some (.cells 48 none [(I 0),(I 10),(I 1),(I 10),(I 2),(I 12)])))) L) (N none L (N2 none (N1 none (N0 (some (.cells 48 none [(I 0),(I 10),(I 1),(I 10),(I 2),(I 12)]))))) (N0 (some (.cells 126 none [(I 5),(I 4),(I 10),(I 10),(I 8),(I 20),(I 20),(I 15),(I 45)]))) L) L (N none (N0 (some (.ro 3 (some 1) [(I 10),(I 20),(I 45)]))) (N3 none (N0 (some (.cells 54 none [(I 0),(I 0)])))) L L))),758,[710,429,428,427,424,322,321,318,318,248,247,244,244,243,179,178,175,175,118,117,114,61,60,36,3,2]⟩
def kt2 : FT:=(N U (N U (N0 (.opn 5340 2)) (N (.ptr 318 0) (N0 (I 0)) L L L) (N (.ptr 175 0) (N0 (I 0)) L L L) (N0 (.opn 36 3))) (N U (N (I 1) (N0 (I 0)) L L L) (N1 U (N0 (I 0))) (N (I 3) (N0 (.bool false)) L L L) L) (N U (N (.opn 710 3) (N0 (I 0)) L L L) (N (.ptr 244 0) (N0 (I 0)) L L L) (N0 (.opn 114 3)) L) (N U (N (.opn 424 3) (N0 (I 0)) L L L) (N (.opn 243 3) (N0 (I 0)) L L L) (N0 (I 10)) L))
def kg2 : Sg:=sgOf ⟨(N none (N none (N3 none (N1 none (N0 (some (.cells 126 none [(I 5),(I 4),(I 10),(I 10),(I 8),(I 20),(I 20),(I 15),(I 45)]))))) (N3 none (N3 none (N2 none (N0 (some (.cells 48 none [(I 0),(I 10),(I 1),(I 10),(I 2),(I 12)])))))) (N none L (N2 none (N1 none (N0 (some (.cells 3 none [(I 8),(I 12),(I 12)]))))) (N0 (some (.cells 48 none [(I 0),(I 10),(I 1),(I 10),(I 2),(I 12)]))) L) (N3 none (N4 none (N0 (some (.cells 126 none [(I 5),(I 4),(I 10),(I 10),(I 8),(I 20),(I 20),(I 15),(I 45)])))))) (N (some (.cells 126 none [(I 5),(I 4),(I 10),(I 10),(I 8),(I 20),(I 20),(I 15),(I 45)])) (N none L L (N1 none (N0 (some (.cells 48 none [(I 0),(I 10),(I 1),(I 10),(I 2),(I 12)])))) (N2 none (N2 none (N0 (some (.cells 3 (some 1) [(I 10),(I 11),(I 12)])))))) (N3 none (N3 none (N2 none (N0 (some (.cells 54 none [(I 4),(I 4),(I 8),(I 8),(I 18),(I 18)])))))) (N3 none (N4 none (N0 (some (.cells 54 none [(I 27),(I 56)]))))) (N none L (N none (N0 (some (.cells 3 (some 1) [(I 10),(I 20),(I 45)]))) (N0 (some (.cells 126 none [(I 5),(I 4),(I 10),(I 10),(I 8),(I 20),(I 20),(I 15),(I 45)]))) L L) (N4 none (N0 (some (.cells 48 none [(I 0),(I 10),(I 1),(I 10),(I 2),(I 12)])))) L)) (N (some (.cells 48 none [(I 0),(I 10),(I 1),(I 10),(I 2),(I 12)])) (N3 none (N3 none (N0 (some (.cells 126 none [(I 5),(I 4),(I 10),(I 10),(I 8),(I 20),(I 20),(I 15),(I 45)]))))) (N2 none (N2 none (N1 none (N0 (some (.cells 126 none [(I 5),(I 4),(I 10),(I 10),(I 8),(I 20),(I 20),(I 15),(I 45)])))))) (N2 none (N2 none (N0 (some (.cells 54 none [(I 13),(I 15)]))))) (N2 none (N none L (N0 (some (.cells 48 none [(I 0),(I 10),(I 1),(I 10),(I 2),(I 12)]))) (N0 (some (.cells 54 (some 2) [(I 8),(I 10),(I 13),(I 20),(I 9),(I 30)]))) L))) (N none (N none L (N2 none (N1 none (N0 (some (.cells 3 (some 1) [(I (-4)),(I (-5)),(I 9)]))))) (N3 none (N (some (.cells 48 none [(I 0),(I 10),(I 1),(I 10),(I 2),(I 12)])) L (N0 (some (.cells 126 none [(I 5),(I 4),(I 10),(I 10),(I 8),(I 20),(I 20),(I 15),(I 45)]))) L L)) L) (N none (N3 none (N4 none (N4 none (N0 (some (.cells 44 (some 2) [(I 2),(I 9),(I 2),(I 10)])))))) (N2 none (N1 none (N0 (some (.cells 48 none [(I 0),(I 10),(I 1),(I 10),(I 2),(I 12)]))))) (N0 (some (.cells 126 none [(I 5),(I 4),(I 10),(I 10),(I 8),(I 20),(I 20),(I 15),(I 45)]))) L) L (N none (N0 (some (.ro 3 (some 1) [(I 10),(I 20),(I 45)]))) (N3 none (N0 (some (.cells 54 none [(I 0),(I 0)])))) L L))),6791,[5340,762,761,760,710,429,428,427,424,322,321,318,318,248,247,244,244,243,179,178,175,175,118,117,114,61,60,36,3,2]⟩
theorem ks0 : ((kcOf Tryz.prog 19).drop 0).seqs 8 = true:=by kernel_rfl
theorem kr0 (kx : KX) (k : KT) : warm 1 (runKX 100000 (((kcOf Tryz.prog 19).drop 0).take 8) ⟨Tryz.prog,zvf,kx⟩ kt0 kg0 k) = k kt1 kg1:=by kernel_rfl
theorem ks1 : ((kcOf Tryz.prog 19).drop 8).seqs 1 = true:=by kernel_rfl
theorem kr1 (kx : KX) (k : KT) : warm 12 (runKX 99992 (((kcOf Tryz.prog 19).drop 8).take 1) ⟨Tryz.prog,zvf,kx⟩ kt1 kg1 k) = k kt2 kg2:=by kernel_rfl
theorem klast : zmz (warm 107 (from_ Tryz.prog zvf 19 9 99991 kt2 kg2)) = true:=by kernel_rfl
theorem known_run : zmz (runF Tryz.prog Go.Proofs.YtnnmnhpeblhiiaaGreatDoor.C.castleHook 100000 60 19 []) = true:=by
 rw [runF_from]
 rw [show from_ Tryz.prog (fCall Tryz.prog Go.Proofs.YtnnmnhpeblhiiaaGreatDoor.C.castleHook 100000 60) 19 0 100000 (ofL []) (sgOf ⟨.leaf,0,[]⟩) = from_ Tryz.prog zvf 19 0 100000 kt0 kg0 from rfl]
 rw [show from_ Tryz.prog zvf 19 0 100000 kt0 kg0 = from_ Tryz.prog zvf 19 8 99992 kt1 kg1 from from_step (K:=99991) (m:=8) ks0 fun kx k=>(warm_eq 1 _).symm.trans (kr0 kx k)]
 rw [show from_ Tryz.prog zvf 19 8 99992 kt1 kg1 = from_ Tryz.prog zvf 19 9 99991 kt2 kg2 from from_step (K:=99990) (m:=1) ks1 fun kx k=>(warm_eq 12 _).symm.trans (kr1 kx k)]
 exact (congrArg zmz (warm_eq 107 _)).symm.trans klast
end Go.Proofs.YtnnmnhpeblhiiaaGreatDoor.C
namespace Go.Proofs.YtnnmnhpeblhiiaaGreatDoor.C
open Go Go.RowKit Go.Abs
set_option maxHeartbeats 16000000
set_option maxRecDepth 100000
def l4_known.f : Option Bool:=some true
theorem l4_known.calls (r : Bool) (w : World) (h : l4_known.f = some r) : Calls Tryz.prog 19 #[] w fun e w'=>e = .returned (.bool r)∧Below w.heap.size w w':=by
 cases h
 exact calls_true zph known_run w
theorem zjw : l4_known.f = some true:=rfl
end Go.Proofs.YtnnmnhpeblhiiaaGreatDoor.C
namespace Go.Proofs.YtnnmnhpeblhiiaaGreatDoor.C
open Go Go.RowKit
set_option maxHeartbeats 16000000
set_option maxRecDepth 100000
def zvk {β : Type} (B : Nat) (J : β→World→Prop) : Prop:=∀ s W W' row,J s W→W.grownBy W' row→(∀ r,row = some r→B≤r)→J s W'
theorem zvk.putObj {β : Type} {B : Nat} {I : β→World→Prop} (h : zvk B I) {s : β} {W : World} {l : Nat} (o' : Obj) (hs : I s W) (hB : B≤l) : I s (W.putObj l o'):=h s W _ (some l) hs (grownBy_putObj' W l o') (fun r e=>by cases e;exact hB)
theorem zvk.alloc {β : Type} {B : Nat} {I : β→World→Prop} (h : zvk B I) {s : β} {W : World} (o : Obj) (hs : I s W) : I s (W.alloc o):=h s W _ none hs (World.grownBy_alloc W o none) (fun r e=>by cases e)
def SeqStopsC {α : Type} (F : Fence) (n : Nat) (P : Program) (g : Nat) (lb : Array Value) (encs : α→Array Value) (Ok : α→World→Prop) (Kp : World→World→Prop) (S Sp : List α→Prop) (w : World) : Prop:=
 ∀ (l : Nat) (J Jx : List α→World→Prop) (W : World),Below w.heap.size w W→l < W.heap.size→zvk W.heap.size J→
  (∀ pre x W1,J pre W1→Ok x W1→YieldAt F (n - 1) P l (encs x) W1 fun e W'=>(e = .returned (.bool true)∧J (pre ++ [x]) W'∧Kp W1 W')∨(e = .returned (.bool false)∧Jx (pre ++ [x]) W'))→
  J [] W→CallsIn F n P g (#[.func (.yield l) #[] #[]] ++ lb) W fun e W'=>(∃ v,e = .returned v)∧((∃ xs,S xs∧J xs W')∨(∃ pre,Sp pre∧Jx pre W'))
variable {F : Fence} {n : Nat} {P : Program}
theorem rangeC {α : Type} {g : Operand} {ps : Array Tmp} {assign body : Code} {Q : Exit→Act→World→Prop} {a : Act} {w : World}
 (hro : F.round = none) (h1 : 1≤n) {gf : Nat} {lb : Array Value} (hg : a.eval g = .func (.func gf) #[] lb) (hFg : F.fn gf) (eg : ∀ args w,(callFunc gf args).run P w = .ok (.enter gf args) w)
 {encs : α→Array Value} {Ok : α→World→Prop} {Kp : World→World→Prop} {S Sp : List α→Prop} {w0 : World} (hseq : SeqStopsC F (n - 1) P gf lb encs Ok Kp S Sp w0) (hOk : ∀ (x : α) (W : World) (l : Nat) (o o' : Obj),Ok x W→W.heap[l]? = some o→o.isCells = false→Ok x (W.putObj l o'))
 (hKt : ∀ {A B C : World},Kp A B→Kp B C→Kp A C) (hKb : ∀ (W : World) (l : Nat) (o o' : Obj),w.heap.size≤l→W.heap[l]? = some o→o.isCells = false→o.isWalk = false→Kp W (W.putObj l o')) (hb0 : Below w0.heap.size w0 w) (hps : ∀ x,(encs x).size = ps.size)
 (I : List α→World→Prop) (Ix : Code→List α→World→Prop) (hI : zvk w.heap.size I) (hIx : ∀ (c : Code) (pre : List α) (W : World) (l : Nat) (o o' : Obj),w.heap.size≤l→Ix c pre W→W.heap[l]? = some o→o.isCells = false→o.isWalk = false→Ix c pre (W.putObj l o')) (h0 : I [] w) (a₁ : α→Act)
 (hassign : ∀ (l : Nat) (x : α) (W : World) (K : Act→World→Prop),K (a₁ x) W→assign.wpIn (F.inRound l) (n - 1 - 1) P (Exit.then K (fun _ _ _=>False)) { tmps:=(ps.zip (encs x)).foldl (fun t (p,v)=>t.setIfInBounds p v) a.tmps,defers:=[] } W)
 (hbody : ∀ (l : Nat) (pre : List α) (x : α) (W : World),I pre W→Ok x W→body.wpIn (F.inRound l) (n - 1 - 1) P (ownPostK Kp I Ix (pre ++ [x]) W) (a₁ x) W)
 (hdone : ∀ (D : Nat) (xs : List α) (W : World),w.heap.size≤D→S xs→I xs W→W.heap[D]? = some (.deferred (some []))→Q .normal { a with defers:={ target:=.collected D,args:=#[] } :: a.defers } W)
 (hstop : ∀ (D : Nat) (c : Code) (pre : List α) (W : World),w.heap.size≤D→Sp pre→Ix c pre W→W.heap[D]? = some (.deferred (some []))→c.wpIn F n P Q { a with defers:={ target:=.collected D,args:=#[] } :: a.defers } W) :
 (Code.rangeFunc g ps assign body).wpIn F n P Q a w:=by
 refine wpIn_rangeFunc ?_
 intro fn hfn
 rw [hro]
 obtain ⟨rec,hrec⟩ : ∃ rec : LoopState→Option Code→Loop,rec = fun st pe=>{ state:=st,pending:=pe,fn,tmps:=a.tmps,params:=ps,assign,body,defers:=w.heap.size }:=⟨_,rfl⟩
 obtain ⟨W1,hW1⟩ : ∃ W1,(w.alloc (.deferred (some []))).alloc (.loop (rec .ready none)) = W1:=⟨_,rfl⟩
 have hs1 : W1.heap.size = w.heap.size + 2:=by rw [← hW1];simp
 have hL1 : W1.heap[w.heap.size + 1]? = some (.loop (rec .ready none)):=by
  rw [← hW1];have:=World.alloc_heap_new (w.alloc (.deferred (some []))) (.loop (rec .ready none));rwa [World.size_alloc] at this
 have hK1 : W1.heap[w.heap.size]? = some (.deferred (some [])):=by
  rw [← hW1];exact (Below.heap_alloc _ _ _ (by simp)).trans (World.alloc_heap_new w _)
 have hI1 : I [] W1:=by rw [← hW1];exact hI.alloc _ (hI.alloc _ h0)
 have hb1 : Below w0.heap.size w0 W1:=by
  rw [← hW1];exact hb0.trans ((((Below.refl _ w).alloc (Nat.le_refl _) _).alloc (by simp) _).mono hb0.size)
 have far : ∀ {A B : World} {row : Option Nat} {k : Nat} {o : Obj},A.grownBy B row→(∀ r,row = some r→W1.heap.size≤r)→k < w.heap.size + 2→A.heap[k]? = some o→B.heap[k]? = some o:=
  fun hgr hr hk ho=>(hgr.block _ (Array.getElem?_eq_some_iff.1 ho).1 (fun e=>by have:=hr _ e.symm;omega)).trans ho
 refine ⟨w.heap.size + 1,[{ target:=.collected w.heap.size,args:=#[] }],W1,{ target:=.fn (.func gf) lb,args:=#[.func (.yield (w.heap.size + 1)) #[] #[]] },W1,gf,#[.func (.yield (w.heap.size + 1)) #[] #[]] ++ lb,W1,?_,?_,?_,?_,fun _=>h1,?_⟩
 ·rw [← hW1,hrec];exact run_enterLoop_outer _ _ _ _ _
 ·simp only [resolve,hg]
  simp [go_sem]
 ·intro f' hf';simp [Target.leads] at hf';subst hf';exact hFg
 ·simp [invoke,go_sem,eg]
 ·refine (hseq (w.heap.size + 1)
   (fun pre W=>I pre W∧W.heap[w.heap.size + 1]? = some (.loop (rec .ready none))∧W.heap[w.heap.size]? = some (.deferred (some [])))
   (fun pre W=>∃ c,Ix c pre W∧W.heap[w.heap.size + 1]? = some (.loop (rec .done (some c)))∧W.heap[w.heap.size]? = some (.deferred (some [])))
   W1 hb1 (by omega)
   (fun s A B row hs hg' hr=>⟨hI s A B row hs.1 hg' (fun r e=>by have:=hr r e;omega),far hg' hr (by omega) hs.2.1,far hg' hr (by omega) hs.2.2⟩)
   ?_ ⟨hI1,hL1,hK1⟩).mono ?_
  ·rintro pre x W ⟨hi,hl,hk⟩ hok
   have hlt : w.heap.size + 1 < W.heap.size:=(Array.getElem?_eq_some_iff.1 hl).1
   have hy:=run_yield (P:=P) (args:=encs x) hl (by rw [hrec];exact hps x)
   rw [hrec] at hy
   refine ⟨fn,_,assign,body,hy,roundIn_of_wpIn hfn (hassign _ x W _ ⟨_,run_beginRound hl (by rw [hrec]),?_⟩)⟩
   have hl2 : (W.putObj (w.heap.size + 1) (.loop { rec .ready none with state:=.busy })).heap[w.heap.size + 1]? = some (.loop { rec .ready none with state:=.busy }):=World.putObj_heap_same hlt
   have hk2 : (W.putObj (w.heap.size + 1) (.loop { rec .ready none with state:=.busy })).heap[w.heap.size]? = some (.deferred (some [])):=(World.putObj_heap_other (by omega)).trans hk
   have hw2 : Kp W (W.putObj (w.heap.size + 1) (.loop { rec .ready none with state:=.busy })):=hKb _ _ _ _ (by omega) hl rfl rfl
   refine wpIn_mono (hbody _ pre x _ (hI.putObj _ hi (by omega)) (hOk x W _ _ _ hok hl rfl)) ?_
   have fin : ∀ (jump : Option Code) (W3 : World),KeepsOthers (W.putObj (w.heap.size + 1) (.loop { rec .ready none with state:=.busy })) W3→
    (Instr.endRound (w.heap.size + 1) jump).run P W3 = .ok (.bool jump.isNone) (W3.putObj (w.heap.size + 1) (.loop (rec (if jump.isNone then .ready else .done) jump)))∧
    W3.heap[w.heap.size + 1]? = some (.loop { rec .ready none with state:=.busy })∧
    (W3.putObj (w.heap.size + 1) (.loop (rec (if jump.isNone then .ready else .done) jump))).heap[w.heap.size + 1]? = some (.loop (rec (if jump.isNone then .ready else .done) jump))∧
    (W3.putObj (w.heap.size + 1) (.loop (rec (if jump.isNone then .ready else .done) jump))).heap[w.heap.size]? = some (.deferred (some [])):=fun jump W3 hk3=>by
    have hl3:=hk3.same _ _ hl2 rfl
    have:=run_endRound (P:=P) jump hl3
    rw [hrec] at this ⊢
    exact ⟨this,by rw [hrec] at hl3;exact hl3,World.putObj_heap_same (Array.getElem?_eq_some_iff.1 hl3).1,(World.putObj_heap_other (by omega)).trans (hk3.same _ _ hk2 rfl)⟩
   rintro e a3 W3 hp
   cases e with
   | normal =>
    obtain ⟨hk3,hkp3,hi3⟩:=hp
    obtain ⟨hr,hl3,hl4,hk4⟩:=fin none W3 hk3
    exact ⟨_,_,hr,.inl ⟨rfl,⟨hI.putObj _ hi3 (by omega),hl4,hk4⟩,hKt (hKt hw2 hkp3) (hKb _ _ _ _ (by omega) hl3 rfl rfl)⟩⟩
   | ret=>obtain ⟨hr,hl3,hl4,hk4⟩:=fin (some .ret) W3 hp.1;exact ⟨_,_,hr,.inr ⟨rfl,.ret,hIx _ _ _ _ _ _ (by omega) hp.2 hl3 rfl rfl,hl4,hk4⟩⟩
   | exit id=>obtain ⟨hr,hl3,hl4,hk4⟩:=fin (some (.exit id)) W3 hp.1;exact ⟨_,_,hr,.inr ⟨rfl,(.exit id),hIx _ _ _ _ _ _ (by omega) hp.2 hl3 rfl rfl,hl4,hk4⟩⟩
   | goto t=>obtain ⟨hr,hl3,hl4,hk4⟩:=fin (some (.goto t)) W3 hp.1;exact ⟨_,_,hr,.inr ⟨rfl,(.goto t),hIx _ _ _ _ _ _ (by omega) hp.2 hl3 rfl rfl,hl4,hk4⟩⟩
   | panic ch=>exact hp.elim
   | outgrown=>exact hp.elim
  ·rintro e W2 ⟨⟨v,rfl⟩,(⟨xs,hS,hi,hl,hk⟩ | ⟨pre,hSp,c,hi,hl,hk⟩)⟩
   ·exact ⟨none,_,by have:=run_endLoop (P:=P) hl (by rw [hrec];simp);rw [hrec] at this;exact this,hdone _ xs _ (Nat.le_refl _) hS (hI.putObj _ hi (by omega)) ((World.putObj_heap_other (by omega)).trans hk)⟩
   ·exact ⟨some c,_,by have:=run_endLoop (P:=P) hl (by rw [hrec];simp);rw [hrec] at this;exact this,hstop _ c pre _ (Nat.le_refl _) hSp (hIx c _ _ _ _ _ (by omega) hi hl rfl rfl) ((World.putObj_heap_other (by omega)).trans hk)⟩
structure zqp (W W' : World) : Prop where
 os : W'.os = W.os
 tape : W'.tape = W.tape
 output : W'.output = W.output
 size : W.heap.size≤W'.heap.size
 same : ∀ (k : Nat) (o : Obj),W.heap[k]? = some o→o.isCells = true→W'.heap[k]? = some o
theorem zqp.refl (W : World) : zqp W W:=⟨rfl,rfl,rfl,Nat.le_refl _,fun _ _ h _=>h⟩
theorem zqp.trans {A B C : World} (h : zqp A B) (k : zqp B C) : zqp A C:=⟨k.os.trans h.os,k.tape.trans h.tape,k.output.trans h.output,Nat.le_trans h.size k.size,fun i o ho hc=>k.same i o (h.same i o ho hc) hc⟩
theorem zqp.of_below {A B : World} (h : Below A.heap.size A B) : zqp A B:=⟨h.os,h.tape,h.output,h.size,fun i o ho _=>(h.block i (Array.getElem?_eq_some_iff.1 ho).1).trans ho⟩
theorem zqp.putObj (W : World) (l : Nat) (o o' : Obj) (hl : W.heap[l]? = some o) (hc : o.isCells = false) : zqp W (W.putObj l o'):=
 have hg:=grownBy_putObj' W l o'
 ⟨hg.os,hg.tape,hg.output,hg.size,fun i p hp hpc=>(hg.block i (Array.getElem?_eq_some_iff.1 hp).1 (fun e=>by cases e;rw [hl] at hp;injection hp with hp;subst hp;rw [hc] at hpc;cases hpc)).trans hp⟩
end Go.Proofs.YtnnmnhpeblhiiaaGreatDoor.C
namespace Go.Proofs.YtnnmnhpeblhiiaaGreatDoor.C
open Go.RowKit Go.Proofs.YtnnmnhpeblhiiaaGreatDoorW.PrintWords Go.Proofs.YtnnmnhpeblhiiaaGreatDoorW.PrintLast Go.Proofs.YtnnmnhpeblhiiaaGreatDoorW.PrintMore
set_option maxHeartbeats 16000000
set_option maxRecDepth 100000
theorem zjr {w : World} {k : Nat} {o : Obj} (h : w.heap[k]? = some o) {p : Addr} (hp : k ≠ p.block) (u : Value) : (w.setCell p u).heap[k]? = some o:=by
 simp [World.setCell,Array.getElem?_modify,Ne.symm hp,h]
end Go.Proofs.YtnnmnhpeblhiiaaGreatDoor.C
namespace Go.Proofs.YtnnmnhpeblhiiaaGreatDoor.C
open Go Go.RowKit Go.Shelf Go.Proofs.YtnnmnhpeblhiiaaGreatDoorW.PrintWords Go.Proofs.YtnnmnhpeblhiiaaGreatDoorW.PrintLast Go.Proofs.YtnnmnhpeblhiiaaGreatDoorW.PrintMore
set_option maxHeartbeats 16000000
set_option maxRecDepth 100000
section
attribute [local go_sem] Oper.semAt_some
abbrev HX:=List Int × Option Addr × Nat
def hEnc (x : HX) : Array Value:=#[.slice x.2.1 x.1.length x.2.2]
def hOk (B nz : Nat) (x : HX) (W : World) : Prop:=(x.1.length = nz∧∀ z ∈ x.1,0≤z∧z≤40)∧x.1.length≤x.2.2∧Kd.C (Kd.int .i64) W x.2.1 x.1.length x.1∧Kd.R (Kd.int .i64) 3 W B (fun _=>True) (.slice x.2.1 x.1.length x.2.2) x.1
theorem hOk_lower {B B' nz : Nat} {x : HX} {W : World} (h : hOk B nz x W) (hb : B'≤B) : hOk B' nz x W:=⟨h.1,h.2.1,h.2.2.1,Kd.R_lower h.2.2.2 hb⟩
theorem zmb {W W' : World} {B : Nat} {v : Value} {l : List Int} (h : Kd.R (Kd.int .i64) 3 W B (fun _=>True) v l) (hk : ∀ (k : Nat) (cells : Array Value),W.heap[k]? = some (Obj.cells cells 3 (0,0))→W'.heap[k]? = some (Obj.cells cells 3 (0,0))) : Kd.R (Kd.int .i64) 3 W' B (fun _=>True) v l:=by
 refine Kd.R_mono (Kd.R_move (Kd.R_bound h) ?_) (fun _ _=>trivial)
 rintro k ⟨_,_,_,q,hq,cells,hc⟩
 have : q = 3:=by simpa [Kd.int,Kd.scalar] using hq
 subst this
 rw [hk k cells hc,hc]
theorem zx0 {A B : World} (h : Below A.heap.size A B) : A.grownBy B none:=⟨h.os,h.tape,h.output,h.size,fun k hk _=>h.block k hk⟩
theorem zvk.below {β : Type} {B : Nat} {I : β→World→Prop} (h : zvk B I) {s : β} {W W' : World} (hs : I s W) (hb : Below W.heap.size W W') : I s W':=h s W W' none hs (zx0 hb) (fun r e=>by cases e)
theorem hAnyRound {F : Fence} (hd : F.depth = none) {m m' : Nat} {P : Program} {l : Nat} {f : FuncId} {tmps : Array Value} {assign body : Code} {w : World} {R : Ending→World→Prop} (h : RoundIn F m P l f tmps assign body w R) : RoundIn F m' P l f tmps assign body w R:=⟨h.1,fun c cs _=>h.2 c cs (fun d h2=>by rw [hd] at h2;cases h2)⟩
theorem hAny {F : Fence} (hd : F.depth = none) {m : Nat} (m' : Nat) {P : Program} {l : Nat} {args : Array Value} {W : World} {R : Ending→World→Prop} (h : YieldAt F m P l args W R) : YieldAt F m' P l args W R:=by
 obtain ⟨fn,tmps,assign,body,hy,hR⟩:=h
 exact ⟨fn,tmps,assign,body,hy,hAnyRound hd hR⟩
structure HSt (W w0 : World) (l gn gr gy gb gs : Nat) (AX : Option Addr) (c0_0 : Nat) (n0 : Nat) (aA : Int) (AY : Option Addr) (cB : Nat) (lB : List S48) (a0_3 aC : Int) (now : List Int) : Prop where
 bn : W.heap[gn]? = some (.cells #[.slice (some ⟨gr,0,none⟩) now.length now.length] 28 (0,0))
 br : W.heap[gr]? = some (.cells (now.map (Value.int .i64)).toArray 3 (0,0))
 by_ : W.heap[gy]? = some (.cells #[.func (.yield l) #[] #[]] 113 (0,0))
 bb : W.heap[gb]? = some (.cells #[.slice AX n0 c0_0,.int .i64 aA,.slice AY lB.length cB,.int .i64 a0_3,.int .i64 aC] 27 (0,0))
 bs : W.heap[gs]? = some (.cells #[.func (.func 112) #[] #[.pointer (some ⟨gn,0,none⟩),.pointer (some ⟨gy,0,none⟩),.pointer (some ⟨gb,0,none⟩),.pointer (some ⟨gs,0,none⟩)]] 144 (0,0))
 old : zqp w0 W
 gr0 : w0.heap.size≤gr
 cap : now.length≤9223372036854775807
theorem zxy {W : World} {a b : Nat} {x y : Array Value} {s t : Nat} (ha : W.heap[a]? = some (.cells x s (0,0))) (hb : W.heap[b]? = some (.cells y t (0,0))) (h : s ≠ t) : a ≠ b:=fun e=>by subst e;rw [ha] at hb;injection hb with hb;injection hb with _ h2 _;exact h h2
theorem zm6 {W W' : World} (hk : zqp W W') {a : Addr} {v : Value} (h : W.cell? a = some v) : W'.cell? a = some v:=by
 obtain ⟨o,ho,hc⟩:=cells_of_cell h
 have h2:=hk.same _ _ ho hc
 unfold World.cell? at h ⊢
 rw [h2]
 rw [ho] at h
 exact h
theorem keeps_C {α : Type} {d : Kd α} (hd : ∀ {W W' : World} {x : α} {cs : List Value},d.K W x cs→d.K W' x cs) {W W' : World} (hk : zqp W W') {A : Option Addr} {n : Nat} {xs : List α} (h : d.C W A n xs) : d.C W' A n xs:=
 ⟨h.1,h.2.1,fun hn=>by obtain ⟨ad,e,hc⟩:=h.2.2 hn;exact ⟨ad,e,fun j p hj=>by obtain ⟨c,hl,hK,hcc⟩:=hc j p hj;exact ⟨c,hl,hd hK,fun i u hu=>zm6 hk (hcc i u hu)⟩⟩⟩
theorem zqp.set_ {w0 W : World} (hk : zqp w0 W) {g : Nat} (hg : w0.heap.size≤g) (i : Nat) (v : Value) : zqp w0 (W.setCell ⟨g,i,none⟩ v):=by
 have hb:=(Below.refl w0.heap.size W).setCell (p:=⟨g,i,none⟩) hg v
 exact ⟨hb.os.trans hk.os,hb.tape.trans hk.tape,hb.output.trans hk.output,Nat.le_trans hk.size hb.size,fun k o ho hc=>(hb.block k (Array.getElem?_eq_some_iff.1 ho).1).trans (hk.same k o ho hc)⟩
theorem HSt.keeps {w0 : World} {l gn gr gy gb gs : Nat} {AX : Option Addr} {c0_0 n0 : Nat} {aA : Int} {AY : Option Addr} {cB : Nat} {lB : List S48} {a0_3 aC : Int} {now : List Int} {W W' : World} (st : HSt W w0 l gn gr gy gb gs AX c0_0 n0 aA AY cB lB a0_3 aC now) (hk : zqp W W') : HSt W' w0 l gn gr gy gb gs AX c0_0 n0 aA AY cB lB a0_3 aC now:=
 ⟨hk.same _ _ st.bn rfl,hk.same _ _ st.br rfl,hk.same _ _ st.by_ rfl,hk.same _ _ st.bb rfl,hk.same _ _ st.bs rfl,st.old.trans hk,st.gr0,st.cap⟩
theorem HSt.store {w0 : World} {l gn gr gy gb gs : Nat} {AX : Option Addr} {c0_0 n0 : Nat} {aA : Int} {AY : Option Addr} {cB : Nat} {lB : List S48} {a0_3 aC : Int} {now : List Int} {W : World} (st : HSt W w0 l gn gr gy gb gs AX c0_0 n0 aA AY cB lB a0_3 aC now) (i : Nat) (h : Int) : HSt (W.setCell ⟨gr,i,none⟩ (.int .i64 h)) w0 l gn gr gy gb gs AX c0_0 n0 aA AY cB lB a0_3 aC (now.set i h):=
 ⟨by rw [List.length_set];exact zjr (p:=⟨gr,i,none⟩) st.bn (zxy st.bn st.br (by decide)) _,by refine (blk_set st.br i _).trans ?_;simp [List.map_set],zjr (p:=⟨gr,i,none⟩) st.by_ (zxy st.by_ st.br (by decide)) _,zjr (p:=⟨gr,i,none⟩) st.bb (zxy st.bb st.br (by decide)) _,zjr (p:=⟨gr,i,none⟩) st.bs (zxy st.bs st.br (by decide)) _,
  zqp.set_ st.old st.gr0 i _,st.gr0,by rw [List.length_set];exact st.cap⟩
theorem set_end_no (w0 : World) (l gn gr gy gb gs : Nat) (AX : Option Addr) (c0_0 n0 : Nat) (aA : Int) (AY : Option Addr) (cB : Nat) (lB : List S48) (a0_3 aC : Int) (now : List Int) (left : Int) (hl : 0 < left) (n : Nat) (W : World) (st : HSt W w0 l gn gr gy gb gs AX c0_0 n0 aA AY cB lB a0_3 aC now) :
 CallsIn Fence.wide n Tryz.prog 112 #[.int .i64 now.length,.int .i64 left,.pointer (some ⟨gn,0,none⟩),.pointer (some ⟨gy,0,none⟩),.pointer (some ⟨gb,0,none⟩),.pointer (some ⟨gs,0,none⟩)] W fun e W'=>e = .returned (.bool true)∧Below W.heap.size W W':=by
 have hd0 : decide (0 < left) = true:=decide_eq_true hl
 have hcap:=st.cap
 have c0:=(zqe st.bn 0).trans rfl
 refine callsIn_of_wp Tryz.func112 rfl trivial ?_ rfl
 simp only [Tryz.ntmps112,List.size_toArray,List.length_cons,List.length_nil,Nat.reduceAdd,Nat.reduceSub,Array.replicate_succ,Array.replicate_zero,List.push_toArray,List.append_toArray,List.nil_append,List.cons_append]
 have c1:=(zqe st.by_ 0).trans rfl
 gi_wp2
 gi_region_with (first | refine ⟨trivial,?_⟩ | refine ⟨fun _ _=>trivial,?_⟩)
 all_goals gi_wp2
 all_goals go_ret
 all_goals exact ⟨rfl,(by repeat (first | exact Below.refl _ _ | apply zqa | apply zwc))⟩
theorem oneWay {e : Ending} {A1 A2 B1 : Prop} (h : (e = .returned (.bool true)∧A1∧A2)∨(e = .returned (.bool false)∧B1)) : ∃ bb,e = .returned (.bool bb)∧(match bb with | true=>A1∧A2 | false=>B1):=h.elim (fun ⟨a,b⟩=>⟨true,a,b⟩) (fun ⟨a,b⟩=>⟨false,a,b⟩)
theorem rowC {W : World} {gr : Nat} {now : List Int} (hb : W.heap[gr]? = some (.cells (now.map (Value.int .i64)).toArray 3 (0,0))) (hc : now.length≤9223372036854775807) : (Kd.int .i64).C W (some ⟨gr,0,none⟩) now.length now:=by
 refine ⟨rfl,hc,fun hn=>⟨_,rfl,fun j p hj=>⟨[.int .i64 p],rfl,rfl,?_⟩⟩⟩
 intro i u hu
 cases i with
 | succ i=>simp at hu
 | zero =>
  have hu : Value.int .i64 p = u:=by simpa using hu
  subst hu
  have ha : (Addr.add ⟨gr,0,none⟩ (j * (Kd.int .i64).sz + 0)) = ⟨gr,j,none⟩:=by
   show Addr.add ⟨gr,0,none⟩ (j * 1 + 0) = _
   simp [Addr.add]
   try (intro h;omega)
  rw [ha]
  refine (zqe hb j).trans ?_
  simp [hj]
theorem set_end_yes (w0 : World) (l gn gr gy gb gs : Nat) (AX : Option Addr) (c0_0 n0 : Nat) (aA : Int) (AY : Option Addr) (cB : Nat) (lB : List S48) (a0_3 aC : Int) (J Jx : List HX→World→Prop) (Bd : Nat) (hJ : zvk Bd J) (m : Nat) (hY : ∀ pre x W1,J pre W1→hOk Bd lB.length x W1→YieldAt Fence.wide m Tryz.prog l (hEnc x) W1 fun e W'=>(e = .returned (.bool true)∧J (pre ++ [x]) W'∧zqp W1 W')∨(e = .returned (.bool false)∧Jx (pre ++ [x]) W'))
 (hgr : Bd≤gr) (now : List Int) (left : Int) (hl : ¬ 0 < left) (hnl : now.length < 17592186044416) (hP : now.length = lB.length∧∀ z ∈ now,0≤z∧z≤40) (n : Nat) (pre : List HX) (W : World) (st : HSt W w0 l gn gr gy gb gs AX c0_0 n0 aA AY cB lB a0_3 aC now) (hj : J pre W) :
 CallsIn Fence.wide n Tryz.prog 112 #[.int .i64 now.length,.int .i64 left,.pointer (some ⟨gn,0,none⟩),.pointer (some ⟨gy,0,none⟩),.pointer (some ⟨gb,0,none⟩),.pointer (some ⟨gs,0,none⟩)] W fun e W'=>(e = .returned (.bool true)∧zqp W W'∧∃ x : HX,x.1 = now∧J (pre ++ [x]) W')∨(e = .returned (.bool false)∧∃ x : HX,x.1 = now∧Jx (pre ++ [x]) W'):=by
 have HP:=am hP
 clear hP
 have hd0 : decide (0 < left) = false:=decide_eq_false hl
 have hcap:=st.cap
 have c0:=(zqe st.bn 0).trans rfl
 have c1:=(zqe st.by_ 0).trans rfl
 have HD:=am (zw1 (Below.refl W.heap.size W))
 have HC:=am (sl_Clone_int.calls (some ⟨gr,0,none⟩) now.length now now W.drew (kC (rowC st.br st.cap) HD.out) (Nat.le_refl _) (if_pos hnl))
 have HJ1:=am (hJ.below hj HD.out)
 have HGR:=am (show Bd≤W.drew.heap.size from Nat.le_trans hgr (Nat.le_of_lt (Array.getElem?_eq_some_iff.1 st.br).1))
 refine callsIn_of_wp Tryz.func112 rfl trivial ?_ rfl
 simp only [Tryz.ntmps112,List.size_toArray,List.length_cons,List.length_nil,Nat.reduceAdd,Nat.reduceSub,Array.replicate_succ,Array.replicate_zero,List.push_toArray,List.append_toArray,List.nil_append,List.cons_append]
 gi_wp2
 gi_region_with (first | (refine ⟨trivial,fun h=>Bool.noConfusion h,?_⟩;refine (callsIn_wide.2 HC.out).mono ?_;rintro e w1 ⟨v1,rfl,hr,hb⟩;obtain ⟨Ax,cx,rfl,hlx,hcx⟩:=Kd.R_reads hr;have hy1:=hY pre (now,Ax,cx) w1 (hJ.below HJ1.out hb) ⟨HP.out,hlx,hcx,Kd.R_lower hr HGR.out⟩;obtain ⟨fn,tmps,assign,body,hy,hR⟩:=hAny rfl (n - 1) hy1;dsimp only [hEnc] at hy;have c2 : w1.cell? ⟨gy,0,none⟩ = some (.func (.yield l) #[] #[]):=(zqe (zqh (zqj st.by_) hb) 0).trans rfl) | (refine hR.mono ?_;intro e W2 hh;obtain ⟨bb,rfl,hres⟩:=oneWay hh) | (refine ⟨fun _ _=>trivial,fun h=>Bool.noConfusion h,?_⟩;refine hR.mono ?_;intro e W2 hh;obtain ⟨bb,rfl,hres⟩:=oneWay hh) | (refine ⟨fun h=>Bool.noConfusion h,?_⟩;refine hR.mono ?_;intro e W2 hh;obtain ⟨bb,rfl,hres⟩:=oneWay hh))
 all_goals gi_wp2
 all_goals go_ret
 all_goals (cases bb with | false=>exact .inr ⟨rfl,_,rfl,hres⟩ | true=>exact .inl ⟨rfl,((zqp.of_below HD.out).trans (zqp.of_below hb)).trans hres.2,_,rfl,hres.1⟩)
end
end Go.Proofs.YtnnmnhpeblhiiaaGreatDoor.C

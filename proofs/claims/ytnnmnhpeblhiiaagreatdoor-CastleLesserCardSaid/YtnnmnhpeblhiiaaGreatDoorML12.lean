/- A part of the proof: the walks of the functions that it reaches. TIGHT. -/
import Derived.Test.YtnnmnhpeblhiiaaGreatDoorML11
set_option linter.unusedSimpArgs false
set_option linter.unusedVariables false
namespace Go.Proofs.YtnnmnhpeblhiiaaGreatDoor.C
open Go.RowKit Go.Proofs.YtnnmnhpeblhiiaaGreatDoorW.PrintWords Go.Proofs.YtnnmnhpeblhiiaaGreatDoorW.PrintLast Go.Proofs.YtnnmnhpeblhiiaaGreatDoorW.PrintMore
set_option maxHeartbeats 16000000
set_option maxRecDepth 100000
section
attribute [local go_sem] zwa zq9 zwf zwe
mutual
def q4_Heights.l0 : Nat→List Int→Int→List (S126)→Int→List (S48)→Int→Int→Option (Bool)
 | 0,_,_,_,_,_,_,_=>none
 | k + 1,x1,x5,x125000,x125001,x125002,x125003,x125004=>if x5 < (x1.length : Int) then (q4_Heights.j1 k x1 x5 (decide (x5 < (x125002.length : Int))) x125000 x125001 x125002 x125003 x125004) else (q4_Heights.j1 k x1 x5 false x125000 x125001 x125002 x125003 x125004)
def q4_Heights.j1 : Nat→List Int→Int→Bool→List (S126)→Int→List (S48)→Int→Int→Option (Bool)
 | 0,_,_,_,_,_,_,_,_=>none
 | k + 1,x1,x5,x16,x125000,x125001,x125002,x125003,x125004=>if x16 = true then (if 0≤x5 then (if x5 < (x1.length : Int) then ((q4_Height.f (rd x1 x5)).bind fun t126=>(if t126 = true then (if x5 < (x125002.length : Int) then ((q4_far.f (rd x1 x5) ((zql x125002 x5).f1)).bind fun t129=>(if t129 > 2 then (some false) else (q4_Heights.l0 k x1 (wrap64 (x5 + 1)) x125000 x125001 x125002 x125003 x125004))) else (none)) else (some false))) else (none)) else (none)) else (some ((x1.length : Int) == (x125002.length : Int)))
end
def q4_Heights.f (k : Nat) (lA : List (S126)) (aA : Int) (lB : List (S48)) (a0_3 : Int) (aC : Int) (l1 : List Int) : Option (Bool):=q4_Heights.l0 k l1 0 lA aA lB a0_3 aC
def q4_Heights.T4 : Bool × List (List Nat × List Nat):=(true,[([],[]),([],[]),([0,1],[0,1]),([2],[2]),([3],[3]),([4],[4]),([5,4],[5]),([6],[6]),([6],[6]),([7,8,6],[6,7,8]),([9,6],[6,9]),([6],[6]),([11,6],[6,11]),([6],[6]),([12,13,6],[6,12,13]),([14,6],[6,14]),([15,6],[6,15]),([10,16,6,6],[6,10,16]),([17,6],[6,17]),([6,18],[6,18])])
def q4_Heights.B4 : List Nat:=[0,0,3,7,15,31,63,127,127,511,1023,127,2175,127,14463,30847,63615,131071,262143,524287]
theorem q4_Heights.tab4 : rtab .any (opsOf Tryz.f18 4) = q4_Heights.T4:=by kernel_rfl
theorem q4_Heights.bits4 : zv3 q4_Heights.T4.2 q4_Heights.B4 = true:=by kernel_rfl
theorem q4_Heights.calls (k : Nat) (AX : Option Addr) (c0_0 : Nat) (lA : List (S126)) (aA : Int) (AY : Option Addr) (cB : Nat) (lB : List (S48)) (a0_3 : Int) (aC : Int) (A1 : Option Addr) (c1 : Nat) (l1 : List Int) (r : Bool) (w : World) (hra : Kd.C k126 w AX lA.length lA) (hc0_0 : lA.length≤c0_0) (hrb : Kd.C k48 w AY lB.length lB) (hcb : lB.length≤cB) (hr1 : Kd.C (Kd.int .i64) w A1 l1.length l1) (hc1 : l1.length≤c1) (h : q4_Heights.f k lA aA lB a0_3 aC l1 = some r) :
 Calls Tryz.prog 18 #[.agg #[.slice AX lA.length c0_0,.int .i64 aA,.slice AY lB.length cB,.int .i64 a0_3,.int .i64 aC],.slice A1 l1.length c1] w fun e w'=>e = .returned (.bool r)∧Below w.heap.size w w':=by
 have hu27:=Tryz.underlying27
 have HRA:=am hra
 have HCA:=am hc0_0
 clear hra hc0_0
 have HRB:=am hrb
 have HCB:=am hcb
 clear hrb hcb
 have HR1:=am hr1
 have HC1:=am hc1
 clear hr1 hc1
 have HB:=am (Below.refl w.heap.size w)
 have H : (q4_Heights.l0 k l1 0 lA aA lB a0_3 aC) = some r:=h
 clear h
 replace H':=am H
 go_enter Tryz.func18,Tryz.ntmps18
 go_wp2_with (first | ((refine zqn (N:=2) rfl ?_);(try (refine zqu (by rfl) ?_;dsimp only));refine zqm rfl (N:=2) rfl (cs:=#[.slice AX lA.length c0_0,.int .i64 aA,.slice AY lB.length cB,.int .i64 a0_3,.int .i64 aC]) (t:=27) ?hr ?_;(case hr=>go_simp;try rfl);intro gb124 hg w3 hbox hb;have BK124:=am (hbox);have GW124:=am (zqq (HB.out) hg);have GE124:=am (zqq (HB.out) hg);replace HB:=am (zqb (HB.out) hb);clear hb hbox hg))
 go_loopg [5] k (fun kq v5 w'=>∃ (x5_1 : Int),v5 = .int .i64 x5_1∧zqk (q4_Heights.l0 kq l1 x5_1 lA aA lB a0_3 aC = some r)∧zqk (kq≤k)∧zqk (w'.heap[gb124]? = some (.cells #[(.slice AX lA.length c0_0),.int .i64 aA,(.slice AY lB.length cB),.int .i64 a0_3,.int .i64 aC] 27 (0,0)))∧zqk (Below w.heap.size w w'))
 case atStart=>exact ⟨(0),(by first | rfl | (simp;done) | (simp [*];done)),H',⟨Nat.le_refl _⟩,⟨BK124.out⟩,⟨HB.out⟩⟩
 case round =>
  clear H'
  obtain ⟨x5_1,rfl,HA,HK1,BK124,HB⟩:=hrel
  cases gk with
  | zero=>exact absurd HA.out (by simp [q4_Heights.l0])
  | succ k1 =>
   have H:=HA.out
   clear HA
   simp only [q4_Heights.l0] at H
   have HC4:=am H
   clear H
   go_upto_region 2 with (fail)
   go_cut [16] (fun v16 wc=>∃ (kq : Nat) (x16_3 : Bool),v16 = .bool x16_3∧zqk (q4_Heights.j1 kq l1 x5_1 x16_3 lA aA lB a0_3 aC = some r)∧zqk (kq≤k1)∧zqk (wc.heap[gb124]? = some (.cells #[(.slice AX lA.length c0_0),.int .i64 aA,(.slice AY lB.length cB),.int .i64 a0_3,.int .i64 aC] 27 (0,0)))∧zqk (Below w.heap.size w wc))
   case first =>
    have H:=HC4.out
    clear HC4
    by_cases c5 : x5_1 < (l1.length : Int)
    case neg =>
     rw [if_neg c5] at H
     have c5b0 : decide (x5_1 < (l1.length : Int)) = false:=decide_eq_false c5
     clear c5
     (first | rw [c5b0] | (simp only [i64_w,i32_w];rw [c5b0]) | skip)
     replace H':=am H
     go_wp2
     go_meet
     case rel=>exact ⟨_,(false),(by first | rfl | (simp;done) | (simp [*];done)),H',⟨by have:=HK1.out;first | omega | exact Nat.le_refl _⟩,⟨BK124.out⟩,⟨HB.out⟩⟩
    rw [if_pos c5] at H
    have c5b0 : decide (x5_1 < (l1.length : Int)) = true:=decide_eq_true c5
    clear c5
    (first | rw [c5b0] | (simp only [i64_w,i32_w];rw [c5b0]) | skip)
    replace H':=am H
    obtain ⟨hcz6_0,hcz6_1,hcz6_2,hcz6_3,hcz6_4⟩:=cO5 BK124.out
    go_wp2
    go_meet
    case rel=>exact ⟨_,(decide (x5_1 < (lB.length : Int))),(by first | rfl | (simp;done) | (simp [*];done)),H',⟨by have:=HK1.out;first | omega | exact Nat.le_refl _⟩,⟨BK124.out⟩,⟨HB.out⟩⟩
   case rest =>
    clear HC4
    obtain ⟨kq,x16_3,rfl,HA,HJ3,BK124,HB⟩:=hcut
    cases kq with
    | zero=>exact absurd HA.out (by simp [q4_Heights.j1])
    | succ kj3 =>
     have H:=HA.out
     clear HA
     simp only [q4_Heights.j1] at H
     by_cases c7 : x16_3 = true
     case neg =>
      replace c7:=Bool.eq_false_iff.mpr c7
      subst c7
      replace H : (some ((l1.length : Int) == (lB.length : Int))) = some r:=by rw [if_neg (show ¬ (false = true) by decide)] at H;exact H
      obtain rfl:=Option.some.inj H
      obtain ⟨hcz20_0,hcz20_1,hcz20_2,hcz20_3,hcz20_4⟩:=cO5 BK124.out
      go_wp2
      go_ret
      exact ⟨by first | rfl | (simp [*]<;>rfl),HB.out⟩
     subst c7
     replace H : (if 0≤x5_1 then (if x5_1 < (l1.length : Int) then ((q4_Height.f (rd l1 x5_1)).bind fun t126=>(if t126 = true then (if x5_1 < (lB.length : Int) then ((q4_far.f (rd l1 x5_1) ((zql lB x5_1).f1)).bind fun t129=>(if t129 > 2 then (some false) else (q4_Heights.l0 kj3 l1 (wrap64 (x5_1 + 1)) lA aA lB a0_3 aC))) else (none)) else (some false))) else (none)) else (none)) = some r:=by rw [if_pos rfl] at H;exact H
     by_cases c8 : 0≤x5_1
     case neg =>
      rw [if_neg c8] at H
      exact absurd H (by simp)
     rw [if_pos c8] at H
     have c8b0 : decide (0≤x5_1) = true:=decide_eq_true c8
     clear c8
     by_cases c9 : x5_1 < (l1.length : Int)
     case neg =>
      rw [if_neg c9] at H
      exact absurd H (by simp)
     rw [if_pos c9] at H
     have c9b0 : decide (x5_1 < (l1.length : Int)) = true:=decide_eq_true c9
     clear c9
     replace H:=obm H
     obtain ⟨t126,A100,H⟩:=H
     replace H : (if t126 = true then (if x5_1 < (lB.length : Int) then ((q4_far.f (rd l1 x5_1) ((zql lB x5_1).f1)).bind fun t129=>(if t129 > 2 then (some false) else (q4_Heights.l0 kj3 l1 (wrap64 (x5_1 + 1)) lA aA lB a0_3 aC))) else (none)) else (some false)) = some r:=H
     have A10:=am A100
     clear A100
     by_cases c11 : t126 = true
     case neg =>
      replace c11:=Bool.eq_false_iff.mpr c11
      subst c11
      replace H : (some false) = some r:=by rw [if_neg (show ¬ (false = true) by decide)] at H;exact H
      obtain rfl:=Option.some.inj H
      try go_wp2
      replace BK124:=am (zqj BK124.out)
      replace HB:=am (zwc HB.out)
      have p125 : 0≤(x5_1 : Int):=of_decide_eq_true (by assumption)
      have q125 : x5_1 < (l1.length : Int):=of_decide_eq_true (by assumption)
      obtain ⟨ad125,e125,hx125_0⟩:=Kd.at_int HR1.out x5_1 p125 q125
      have hw125_0:=hx125_0
      cases e125
      replace hx125_0:=(HB.out.cell (wbl hx125_0)).trans hx125_0
      replace p125:=eq_true p125
      replace q125:=eq_true q125
      refine zbe (n:=20) (S:=fun w'=>w'.cell? (ad125.add (x5_1).toNat) = some (.int .i64 (rd l1 x5_1))) (ds:=[]) (ba 20 0) (by kernel_rfl) rfl rfl (((HB.out.cell (wbl hw125_0)).trans hw125_0)) (fun hHeld=>?_);refine zve q4_Heights.tab4 q4_Heights.bits4 (fun HT_ HW_=>?_)
      generalize wc.drew = w19 at BK124 HB hx125_0 hHeld ⊢
      refine pure_ (i:=0) (N:=some 19) (v:=?_) (a':=?_) (ba 20 1) rfl rfl (zqs HT_.out (by kernel_rfl)) (fun _ _ _ h=>h) (Or.inl ⟨by rfl,?_⟩) ?_ ?_
      rotate_left
      ·intro w'
       go_simp
       with_reducible rfl
      rotate_left
      ·simp only [Act.put,NRM]
       rfl
      refine pure_ (i:=1) (N:=some 20) (v:=?_) (a':=?_) (ba 20 3) rfl rfl (zqs HT_.out (by kernel_rfl)) (fun _ _ _ h=>h) (Or.inl ⟨by rfl,?_⟩) ?_ ?_
      rotate_left
      ·intro w'
       go_simp
       with_reducible rfl
      rotate_left
      ·simp only [Act.put,NRM]
       rfl
      refine pure_ (i:=2) (N:=some 21) (v:=?_) (a':=?_) (ba 20 7) rfl rfl (zqs HT_.out (by kernel_rfl)) (fun _ _ _ h=>h) (Or.inl ⟨by rfl,?_⟩) ?_ ?_
      rotate_left
      ·intro w'
       go_simp
       with_reducible rfl
      rotate_left
      ·simp only [Act.put,NRM]
       rfl
      refine take_ (i:=3) (N:=some 22) (v:=?_) (a':=?_) (ba 20 15) rfl rfl (zq8 HT_.out HW_.out (by kernel_rfl)) (fun _ _ _ h=>h) (Or.inl ⟨by rfl,?_⟩) hHeld ?_ ?_
      rotate_left
      ·intro w' s0
       go_simp
       with_reducible rfl
      rotate_left
      ·simp only [Act.put,NRM]
       rfl
      refine one_ (i:=4) (N:=some 23) (ba 20 31) rfl rfl (zxw HT_.out (by kernel_rfl)) (by decide) (fun K hK=>?_)
      refine goes_ Tryz.func39 (by kernel_rfl) rfl #[.int .i64 (rd l1 x5_1)] (by rfl) rfl rfl (by (try simp only [List.map_toArray,List.map_cons,List.map_nil]);first | done | rfl | (simp only [List.length_drop,List.length_take];rfl)) ?_
      with_reducible refine (q4_Height.calls (rd l1 x5_1) false _ A10.out).mono ?_
      rintro e w' ⟨rfl,⟨nd,rfl⟩⟩
      refine ⟨_,rfl,?_⟩
      refine hK.out _ _ (((HB.out.cell (wbl hw125_0)).trans hw125_0)) (fun hHeld=>?_)
      clear hK K
      refine norm_ (a':=?_) ?_ ?_
      rotate_left
      ·show Act.put _ (some 23) _ = _
       simp only [Act.put,NRM]
       rfl
      refine pure_ (i:=5) (N:=some 24) (v:=?_) (a':=?_) (ba 20 63) rfl rfl (zqs HT_.out (by kernel_rfl)) (fun _ _ _ h=>h) (Or.inl ⟨by rfl,?_⟩) ?_ ?_
      rotate_left
      ·intro w'
       go_simp
       with_reducible rfl
      rotate_left
      ·simp only [Act.put,NRM]
       rfl
      refine pure_ (i:=6) (N:=some 25) (v:=?_) (a':=?_) (ba 20 127) rfl rfl (zqs HT_.out (by kernel_rfl)) (fun _ _ _ h=>h) (Or.inl ⟨by rfl,?_⟩) ?_ ?_
      rotate_left
      ·intro w'
       go_simp
       with_reducible rfl
      rotate_left
      ·simp only [Act.put,NRM]
       rfl
      refine pure_ (i:=7) (N:=some 26) (v:=undef) (a':=?_) (ba 20 255) rfl rfl (zqs HT_.out (by kernel_rfl)) (fun _ _ _ h=>h) (Or.inr ⟨by rfl,rfl⟩) ?_ ?_
      rotate_left
      ·simp only [Act.put,NRM]
       rfl
      refine pure_ (i:=8) (N:=some 27) (v:=undef) (a':=?_) (ba 20 511) rfl rfl (zqs HT_.out (by kernel_rfl)) (fun _ _ _ h=>h) (Or.inr ⟨by rfl,rfl⟩) ?_ ?_
      rotate_left
      ·simp only [Act.put,NRM]
       rfl
      refine pure_ (i:=9) (N:=some 28) (v:=undef) (a':=?_) (ba 20 1023) rfl rfl (zqs HT_.out (by kernel_rfl)) (fun _ _ _ h=>h) (Or.inr ⟨by rfl,rfl⟩) ?_ ?_
      rotate_left
      ·simp only [Act.put,NRM]
       rfl
      refine pure_ (i:=10) (N:=some 29) (v:=undef) (a':=?_) (ba 20 2047) rfl rfl (zqs HT_.out (by kernel_rfl)) (fun _ _ _ h=>h) (Or.inr ⟨by rfl,rfl⟩) ?_ ?_
      rotate_left
      ·simp only [Act.put,NRM]
       rfl
      refine pure_ (i:=11) (N:=some 30) (v:=undef) (a':=?_) (ba 20 4095) rfl rfl (zqs HT_.out (by kernel_rfl)) (fun _ _ _ h=>h) (Or.inr ⟨by rfl,rfl⟩) ?_ ?_
      rotate_left
      ·simp only [Act.put,NRM]
       rfl
      refine pure_ (i:=12) (N:=some 31) (v:=undef) (a':=?_) (ba 20 8191) rfl rfl (zqs HT_.out (by kernel_rfl)) (fun _ _ _ h=>h) (Or.inr ⟨by rfl,rfl⟩) ?_ ?_
      rotate_left
      ·simp only [Act.put,NRM]
       rfl
      refine pure_ (i:=13) (N:=some 32) (v:=undef) (a':=?_) (ba 20 16383) rfl rfl (zqs HT_.out (by kernel_rfl)) (fun _ _ _ h=>h) (Or.inr ⟨by rfl,rfl⟩) ?_ ?_
      rotate_left
      ·simp only [Act.put,NRM]
       rfl
      refine pure_ (i:=14) (N:=some 33) (v:=undef) (a':=?_) (ba 20 32767) rfl rfl (zqs HT_.out (by kernel_rfl)) (fun _ _ _ h=>h) (Or.inr ⟨by rfl,rfl⟩) ?_ ?_
      rotate_left
      ·simp only [Act.put,NRM]
       rfl
      refine pure_ (i:=15) (N:=some 34) (v:=undef) (a':=?_) (ba 20 65535) rfl rfl (zqs HT_.out (by kernel_rfl)) (fun _ _ _ h=>h) (Or.inr ⟨by rfl,rfl⟩) ?_ ?_
      rotate_left
      ·simp only [Act.put,NRM]
       rfl
      refine pure_ (i:=16) (N:=some 35) (v:=undef) (a':=?_) (ba 20 131071) rfl rfl (zqs HT_.out (by kernel_rfl)) (fun _ _ _ h=>h) (Or.inr ⟨by rfl,rfl⟩) ?_ ?_
      rotate_left
      ·simp only [Act.put,NRM]
       rfl
      refine pure_ (i:=17) (N:=some 36) (v:=undef) (a':=?_) (ba 20 262143) rfl rfl (zqs HT_.out (by kernel_rfl)) (fun _ _ _ h=>h) (Or.inr ⟨by rfl,rfl⟩) ?_ ?_
      rotate_left
      ·simp only [Act.put,NRM]
       rfl
      refine pure_ (i:=18) (N:=some 37) (v:=undef) (a':=?_) (ba 20 524287) rfl rfl (zqs HT_.out (by kernel_rfl)) (fun _ _ _ h=>h) (Or.inr ⟨by rfl,rfl⟩) ?_ ?_
      rotate_left
      ·simp only [Act.put,NRM]
       rfl
      refine pure_ (i:=19) (N:=some 38) (v:=?_) (a':=?_) (ba 20 1048575) rfl rfl (zqs HT_.out (by kernel_rfl)) (fun _ _ _ h=>h) (Or.inl ⟨by rfl,?_⟩) ?_ ?_
      rotate_left
      ·intro w'
       go_simp
       with_reducible rfl
      rotate_left
      ·simp only [Act.put,NRM]
       rfl
      refine done_ (zx4 HT_.out (by kernel_rfl)) ?_
      try go_wp2
      go_ret
      exact ⟨by first | rfl | (simp [*]<;>rfl),zqa HB.out _⟩
     subst c11
     replace H : (if x5_1 < (lB.length : Int) then ((q4_far.f (rd l1 x5_1) ((zql lB x5_1).f1)).bind fun t129=>(if t129 > 2 then (some false) else (q4_Heights.l0 kj3 l1 (wrap64 (x5_1 + 1)) lA aA lB a0_3 aC))) else (none)) = some r:=by rw [if_pos rfl] at H;exact H
     by_cases c12 : x5_1 < (lB.length : Int)
     case neg =>
      rw [if_neg c12] at H
      exact absurd H (by simp)
     rw [if_pos c12] at H
     have c12b0 : decide (x5_1 < (lB.length : Int)) = true:=decide_eq_true c12
     clear c12
     replace H:=obm H
     obtain ⟨t129,A130,H⟩:=H
     replace H : (if t129 > 2 then (some false) else (q4_Heights.l0 kj3 l1 (wrap64 (x5_1 + 1)) lA aA lB a0_3 aC)) = some r:=H
     have A13:=am A130
     clear A130
     by_cases c14 : t129 > 2
     ·rw [if_pos c14] at H
      have c14b0 : decide (2 < t129) = true:=decide_eq_true c14
      clear c14
      obtain rfl:=Option.some.inj H
      try go_wp2
      replace BK124:=am (zqj BK124.out)
      replace HB:=am (zwc HB.out)
      have p125 : 0≤(x5_1 : Int):=of_decide_eq_true (by assumption)
      have q125 : x5_1 < (l1.length : Int):=of_decide_eq_true (by assumption)
      obtain ⟨ad125,e125,hx125_0⟩:=Kd.at_int HR1.out x5_1 p125 q125
      have hw125_0:=hx125_0
      cases e125
      replace hx125_0:=(HB.out.cell (wbl hx125_0)).trans hx125_0
      replace p125:=eq_true p125
      replace q125:=eq_true q125
      have p127 : 0≤(x5_1 : Int):=of_decide_eq_true (by assumption)
      have q127 : x5_1 < (l1.length : Int):=of_decide_eq_true (by assumption)
      obtain ⟨ad127,e127,hx127_0⟩:=Kd.at_int HR1.out x5_1 p127 q127
      have hw127_0:=hx127_0
      obtain rfl : ad125 = ad127:=(by injection e127)
      replace hx127_0:=(HB.out.cell (wbl hx127_0)).trans hx127_0
      replace p127:=eq_true p127
      replace q127:=eq_true q127
      have p128 : 0≤(x5_1 : Int):=of_decide_eq_true (by assumption)
      have q128 : x5_1 < (lB.length : Int):=of_decide_eq_true (by assumption)
      obtain ⟨ad128,e128,hx128_0,hx128_1⟩:=zvi HRB.out x5_1 p128 q128
      have hw128_1:=hx128_1
      have hw128_0:=hx128_0
      cases e128
      replace hx128_0:=(HB.out.cell (wbl hx128_0)).trans hx128_0
      replace hx128_1:=(HB.out.cell (wbl hx128_1)).trans hx128_1
      replace p128:=eq_true p128
      replace q128:=eq_true q128
      refine zbe (n:=20) (S:=fun w'=>w'.cell? ⟨gb124,0,none⟩ = some (.slice AX lA.length c0_0)∧w'.cell? ⟨gb124,1,none⟩ = some (.int .i64 aA)∧w'.cell? ⟨gb124,2,none⟩ = some (.slice (some ad128) lB.length cB)∧w'.cell? ⟨gb124,3,none⟩ = some (.int .i64 a0_3)∧w'.cell? ⟨gb124,4,none⟩ = some (.int .i64 aC)∧w'.cell? (ad125.add (x5_1).toNat) = some (.int .i64 (rd l1 x5_1))∧w'.cell? (ad125.add (x5_1).toNat) = some (.int .i64 (rd l1 x5_1))∧w'.cell? (ad128.add ((x5_1).toNat * 2)) = some (.int .i64 ((zql lB x5_1).f0))∧w'.cell? ⟨(ad128.add ((x5_1).toNat * 2)).block,(ad128.add ((x5_1).toNat * 2)).off + 1,none⟩ = some (.int .i64 ((zql lB x5_1).f1))) (ds:=[]) (ba 20 0) (by kernel_rfl) rfl rfl ⟨(zqe BK124.out 0).trans rfl,(zqe BK124.out 1).trans rfl,(zqe BK124.out 2).trans rfl,(zqe BK124.out 3).trans rfl,(zqe BK124.out 4).trans rfl,((HB.out.cell (wbl hw125_0)).trans hw125_0),((HB.out.cell (wbl hw127_0)).trans hw127_0),((HB.out.cell (wbl hw128_0)).trans hw128_0),((HB.out.cell (wbl hw128_1)).trans hw128_1)⟩ (fun hHeld=>?_);refine zve q4_Heights.tab4 q4_Heights.bits4 (fun HT_ HW_=>?_)
      generalize wc.drew = w15 at BK124 HB hx125_0 hx127_0 hx128_0 hx128_1 hHeld ⊢
      refine pure_ (i:=0) (N:=some 19) (v:=?_) (a':=?_) (ba 20 1) rfl rfl (zqs HT_.out (by kernel_rfl)) (fun _ _ _ h=>h) (Or.inl ⟨by rfl,?_⟩) ?_ ?_
      rotate_left
      ·intro w'
       go_simp
       with_reducible rfl
      rotate_left
      ·simp only [Act.put,NRM]
       rfl
      refine pure_ (i:=1) (N:=some 20) (v:=?_) (a':=?_) (ba 20 3) rfl rfl (zqs HT_.out (by kernel_rfl)) (fun _ _ _ h=>h) (Or.inl ⟨by rfl,?_⟩) ?_ ?_
      rotate_left
      ·intro w'
       go_simp
       with_reducible rfl
      rotate_left
      ·simp only [Act.put,NRM]
       rfl
      refine pure_ (i:=2) (N:=some 21) (v:=?_) (a':=?_) (ba 20 7) rfl rfl (zqs HT_.out (by kernel_rfl)) (fun _ _ _ h=>h) (Or.inl ⟨by rfl,?_⟩) ?_ ?_
      rotate_left
      ·intro w'
       go_simp
       with_reducible rfl
      rotate_left
      ·simp only [Act.put,NRM]
       rfl
      refine take_ (i:=3) (N:=some 22) (v:=?_) (a':=?_) (ba 20 15) rfl rfl (zq8 HT_.out HW_.out (by kernel_rfl)) (fun _ _ _ h=>h) (Or.inl ⟨by rfl,?_⟩) hHeld ?_ ?_
      rotate_left
      ·rintro w' ⟨s0,s1,s2,s3,s4,s5,s6,s7,s8⟩
       go_simp
       with_reducible rfl
      rotate_left
      ·simp only [Act.put,NRM]
       rfl
      refine one_ (i:=4) (N:=some 23) (ba 20 31) rfl rfl (zxw HT_.out (by kernel_rfl)) (by decide) (fun K hK=>?_)
      refine goes_ Tryz.func39 (by kernel_rfl) rfl #[.int .i64 (rd l1 x5_1)] (by rfl) rfl rfl (by (try simp only [List.map_toArray,List.map_cons,List.map_nil]);first | done | rfl | (simp only [List.length_drop,List.length_take];rfl)) ?_
      with_reducible refine (q4_Height.calls (rd l1 x5_1) true _ A10.out).mono ?_
      rintro e w' ⟨rfl,⟨nd,rfl⟩⟩
      refine ⟨_,rfl,?_⟩
      refine hK.out _ _ ⟨(zqe BK124.out 0).trans rfl,(zqe BK124.out 1).trans rfl,(zqe BK124.out 2).trans rfl,(zqe BK124.out 3).trans rfl,(zqe BK124.out 4).trans rfl,((HB.out.cell (wbl hw125_0)).trans hw125_0),((HB.out.cell (wbl hw127_0)).trans hw127_0),((HB.out.cell (wbl hw128_0)).trans hw128_0),((HB.out.cell (wbl hw128_1)).trans hw128_1)⟩ (fun hHeld=>?_)
      clear hK K
      refine norm_ (a':=?_) ?_ ?_
      rotate_left
      ·show Act.put _ (some 23) _ = _
       simp only [Act.put,NRM]
       rfl
      refine pure_ (i:=5) (N:=some 24) (v:=?_) (a':=?_) (ba 20 63) rfl rfl (zqs HT_.out (by kernel_rfl)) (fun _ _ _ h=>h) (Or.inl ⟨by rfl,?_⟩) ?_ ?_
      rotate_left
      ·intro w'
       go_simp
       with_reducible rfl
      rotate_left
      ·simp only [Act.put,NRM]
       rfl
      refine pure_ (i:=6) (N:=some 25) (v:=?_) (a':=?_) (ba 20 127) rfl rfl (zqs HT_.out (by kernel_rfl)) (fun _ _ _ h=>h) (Or.inl ⟨by rfl,?_⟩) ?_ ?_
      rotate_left
      ·intro w'
       go_simp
       with_reducible rfl
      rotate_left
      ·simp only [Act.put,NRM]
       rfl
      refine pure_ (i:=7) (N:=some 26) (v:=?_) (a':=?_) (ba 20 255) rfl rfl (zqs HT_.out (by kernel_rfl)) (fun _ _ _ h=>h) (Or.inl ⟨by rfl,?_⟩) ?_ ?_
      rotate_left
      ·intro w'
       go_simp
       with_reducible rfl
      rotate_left
      ·simp only [Act.put,NRM]
       rfl
      refine pure_ (i:=8) (N:=some 27) (v:=?_) (a':=?_) (ba 20 511) rfl rfl (zqs HT_.out (by kernel_rfl)) (fun _ _ _ h=>h) (Or.inl ⟨by rfl,?_⟩) ?_ ?_
      rotate_left
      ·intro w'
       go_simp
       with_reducible rfl
      rotate_left
      ·simp only [Act.put,NRM]
       rfl
      refine pure_ (i:=9) (N:=some 28) (v:=?_) (a':=?_) (ba 20 1023) rfl rfl (zqs HT_.out (by kernel_rfl)) (fun _ _ _ h=>h) (Or.inl ⟨by rfl,?_⟩) ?_ ?_
      rotate_left
      ·intro w'
       go_simp
       with_reducible rfl
      rotate_left
      ·simp only [Act.put,NRM]
       rfl
      refine pure_ (i:=11) (N:=some 30) (v:=?_) (a':=?_) (ba 20 3071) rfl rfl (zqs HT_.out (by kernel_rfl)) (fun _ _ _ h=>h) (Or.inl ⟨by rfl,?_⟩) ?_ ?_
      rotate_left
      ·intro w'
       go_simp
       with_reducible rfl
      rotate_left
      ·simp only [Act.put,NRM]
       rfl
      refine pure_ (i:=13) (N:=some 32) (v:=?_) (a':=?_) (ba 20 11263) rfl rfl (zqs HT_.out (by kernel_rfl)) (fun _ _ _ h=>h) (Or.inl ⟨by rfl,?_⟩) ?_ ?_
      rotate_left
      ·intro w'
       go_simp
       with_reducible rfl
      rotate_left
      ·simp only [Act.put,NRM]
       rfl
      refine take_ (i:=10) (N:=some 29) (v:=?_) (a':=?_) (ba 20 12287) rfl rfl (zq8 HT_.out HW_.out (by kernel_rfl)) (fun _ _ _ h=>h) (Or.inl ⟨by rfl,?_⟩) hHeld ?_ ?_
      rotate_left
      ·rintro w' ⟨s0,s1,s2,s3,s4,s5,s6,s7,s8⟩
       go_simp
       with_reducible rfl
      rotate_left
      ·simp only [Act.put,NRM]
       rfl
      refine take_ (i:=12) (N:=some 31) (v:=?_) (a':=?_) (ba 20 16383) rfl rfl (zq8 HT_.out HW_.out (by kernel_rfl)) (fun _ _ _ h=>h) (Or.inl ⟨by rfl,?_⟩) hHeld ?_ ?_
      rotate_left
      ·rintro w' ⟨s0,s1,s2,s3,s4,s5,s6,s7,s8⟩
       go_simp
       with_reducible rfl
      rotate_left
      ·simp only [Act.put,NRM]
       rfl
      refine pure_ (i:=14) (N:=some 33) (v:=?_) (a':=?_) (ba 20 32767) rfl rfl (zqs HT_.out (by kernel_rfl)) (fun _ _ _ h=>h) (Or.inl ⟨by rfl,?_⟩) ?_ ?_
      rotate_left
      ·intro w'
       go_simp
       with_reducible rfl
      rotate_left
      ·simp only [Act.put,NRM]
       rfl
      refine pure_ (i:=15) (N:=some 34) (v:=?_) (a':=?_) (ba 20 65535) rfl rfl (zqs HT_.out (by kernel_rfl)) (fun _ _ _ h=>h) (Or.inl ⟨by rfl,?_⟩) ?_ ?_
      rotate_left
      ·intro w'
       go_simp
       with_reducible rfl
      rotate_left
      ·simp only [Act.put,NRM]
       rfl
      refine take_ (i:=16) (N:=some 35) (v:=?_) (a':=?_) (ba 20 131071) rfl rfl (zq8 HT_.out HW_.out (by kernel_rfl)) (fun _ _ _ h=>h) (Or.inl ⟨by rfl,?_⟩) hHeld ?_ ?_
      rotate_left
      ·rintro w' ⟨s0,s1,s2,s3,s4,s5,s6,s7,s8⟩
       go_simp
       with_reducible rfl
      rotate_left
      ·simp only [Act.put,NRM]
       rfl
      refine one_ (i:=17) (N:=some 36) (ba 20 262143) rfl rfl (zxw HT_.out (by kernel_rfl)) (by decide) (fun K hK=>?_)
      refine goes_ Tryz.func56 (by kernel_rfl) rfl #[.int .i64 (rd l1 x5_1),.int .i64 ((zql lB x5_1).f1)] (by rfl) rfl rfl (by (try simp only [List.map_toArray,List.map_cons,List.map_nil]);first | done | rfl | (simp only [List.length_drop,List.length_take];rfl)) ?_
      with_reducible refine (q4_far.calls (rd l1 x5_1) ((zql lB x5_1).f1) t129 _ A13.out).mono ?_
      rintro e w16 ⟨rfl,hb⟩
      refine ⟨_,rfl,?_⟩
      replace BK124:=(kmv hb BK124)
      replace HB:=am (zqb (zqa HB.out _) hb)
      (try clear hb)
      (try clear hb2)
      (try clear hk)
      (try clear hi)
      refine hK.out _ _ ⟨(zqe BK124.out 0).trans rfl,(zqe BK124.out 1).trans rfl,(zqe BK124.out 2).trans rfl,(zqe BK124.out 3).trans rfl,(zqe BK124.out 4).trans rfl,((HB.out.cell (wbl hw125_0)).trans hw125_0),((HB.out.cell (wbl hw127_0)).trans hw127_0),((HB.out.cell (wbl hw128_0)).trans hw128_0),((HB.out.cell (wbl hw128_1)).trans hw128_1)⟩ (fun hHeld=>?_)
      clear hK K
      refine norm_ (a':=?_) ?_ ?_
      rotate_left
      ·show Act.put _ (some 36) _ = _
       simp only [Act.put,NRM]
       rfl
      refine pure_ (i:=18) (N:=some 37) (v:=?_) (a':=?_) (ba 20 524287) rfl rfl (zqs HT_.out (by kernel_rfl)) (fun _ _ _ h=>h) (Or.inl ⟨by rfl,?_⟩) ?_ ?_
      rotate_left
      ·intro w'
       go_simp
       with_reducible rfl
      rotate_left
      ·simp only [Act.put,NRM]
       rfl
      refine pure_ (i:=19) (N:=some 38) (v:=?_) (a':=?_) (ba 20 1048575) rfl rfl (zqs HT_.out (by kernel_rfl)) (fun _ _ _ h=>h) (Or.inl ⟨by rfl,?_⟩) ?_ ?_
      rotate_left
      ·intro w'
       go_simp
       with_reducible rfl
      rotate_left
      ·simp only [Act.put,NRM]
       rfl
      refine done_ (zx4 HT_.out (by kernel_rfl)) ?_
      try go_wp2
      go_ret
      exact ⟨by first | rfl | (simp [*]<;>rfl),HB.out⟩
     ·rw [if_neg c14] at H
      have c14b0 : decide (2 < t129) = false:=decide_eq_false c14
      clear c14
      replace H':=am H
      try go_wp2
      replace BK124:=am (zqj BK124.out)
      replace HB:=am (zwc HB.out)
      have p125 : 0≤(x5_1 : Int):=of_decide_eq_true (by assumption)
      have q125 : x5_1 < (l1.length : Int):=of_decide_eq_true (by assumption)
      obtain ⟨ad125,e125,hx125_0⟩:=Kd.at_int HR1.out x5_1 p125 q125
      have hw125_0:=hx125_0
      cases e125
      replace hx125_0:=(HB.out.cell (wbl hx125_0)).trans hx125_0
      replace p125:=eq_true p125
      replace q125:=eq_true q125
      have p127 : 0≤(x5_1 : Int):=of_decide_eq_true (by assumption)
      have q127 : x5_1 < (l1.length : Int):=of_decide_eq_true (by assumption)
      obtain ⟨ad127,e127,hx127_0⟩:=Kd.at_int HR1.out x5_1 p127 q127
      have hw127_0:=hx127_0
      obtain rfl : ad125 = ad127:=(by injection e127)
      replace hx127_0:=(HB.out.cell (wbl hx127_0)).trans hx127_0
      replace p127:=eq_true p127
      replace q127:=eq_true q127
      have p128 : 0≤(x5_1 : Int):=of_decide_eq_true (by assumption)
      have q128 : x5_1 < (lB.length : Int):=of_decide_eq_true (by assumption)
      obtain ⟨ad128,e128,hx128_0,hx128_1⟩:=zvi HRB.out x5_1 p128 q128
      have hw128_1:=hx128_1
      have hw128_0:=hx128_0
      cases e128
      replace hx128_0:=(HB.out.cell (wbl hx128_0)).trans hx128_0
      replace hx128_1:=(HB.out.cell (wbl hx128_1)).trans hx128_1
      replace p128:=eq_true p128
      replace q128:=eq_true q128
      refine zbe (n:=20) (S:=fun w'=>w'.cell? ⟨gb124,0,none⟩ = some (.slice AX lA.length c0_0)∧w'.cell? ⟨gb124,1,none⟩ = some (.int .i64 aA)∧w'.cell? ⟨gb124,2,none⟩ = some (.slice (some ad128) lB.length cB)∧w'.cell? ⟨gb124,3,none⟩ = some (.int .i64 a0_3)∧w'.cell? ⟨gb124,4,none⟩ = some (.int .i64 aC)∧w'.cell? (ad125.add (x5_1).toNat) = some (.int .i64 (rd l1 x5_1))∧w'.cell? (ad125.add (x5_1).toNat) = some (.int .i64 (rd l1 x5_1))∧w'.cell? (ad128.add ((x5_1).toNat * 2)) = some (.int .i64 ((zql lB x5_1).f0))∧w'.cell? ⟨(ad128.add ((x5_1).toNat * 2)).block,(ad128.add ((x5_1).toNat * 2)).off + 1,none⟩ = some (.int .i64 ((zql lB x5_1).f1))) (ds:=[]) (ba 20 0) (by kernel_rfl) rfl rfl ⟨(zqe BK124.out 0).trans rfl,(zqe BK124.out 1).trans rfl,(zqe BK124.out 2).trans rfl,(zqe BK124.out 3).trans rfl,(zqe BK124.out 4).trans rfl,((HB.out.cell (wbl hw125_0)).trans hw125_0),((HB.out.cell (wbl hw127_0)).trans hw127_0),((HB.out.cell (wbl hw128_0)).trans hw128_0),((HB.out.cell (wbl hw128_1)).trans hw128_1)⟩ (fun hHeld=>?_);refine zve q4_Heights.tab4 q4_Heights.bits4 (fun HT_ HW_=>?_)
      generalize wc.drew = w17 at BK124 HB hx125_0 hx127_0 hx128_0 hx128_1 hHeld ⊢
      refine pure_ (i:=0) (N:=some 19) (v:=?_) (a':=?_) (ba 20 1) rfl rfl (zqs HT_.out (by kernel_rfl)) (fun _ _ _ h=>h) (Or.inl ⟨by rfl,?_⟩) ?_ ?_
      rotate_left
      ·intro w'
       go_simp
       with_reducible rfl
      rotate_left
      ·simp only [Act.put,NRM]
       rfl
      refine pure_ (i:=1) (N:=some 20) (v:=?_) (a':=?_) (ba 20 3) rfl rfl (zqs HT_.out (by kernel_rfl)) (fun _ _ _ h=>h) (Or.inl ⟨by rfl,?_⟩) ?_ ?_
      rotate_left
      ·intro w'
       go_simp
       with_reducible rfl
      rotate_left
      ·simp only [Act.put,NRM]
       rfl
      refine pure_ (i:=2) (N:=some 21) (v:=?_) (a':=?_) (ba 20 7) rfl rfl (zqs HT_.out (by kernel_rfl)) (fun _ _ _ h=>h) (Or.inl ⟨by rfl,?_⟩) ?_ ?_
      rotate_left
      ·intro w'
       go_simp
       with_reducible rfl
      rotate_left
      ·simp only [Act.put,NRM]
       rfl
      refine take_ (i:=3) (N:=some 22) (v:=?_) (a':=?_) (ba 20 15) rfl rfl (zq8 HT_.out HW_.out (by kernel_rfl)) (fun _ _ _ h=>h) (Or.inl ⟨by rfl,?_⟩) hHeld ?_ ?_
      rotate_left
      ·rintro w' ⟨s0,s1,s2,s3,s4,s5,s6,s7,s8⟩
       go_simp
       with_reducible rfl
      rotate_left
      ·simp only [Act.put,NRM]
       rfl
      refine one_ (i:=4) (N:=some 23) (ba 20 31) rfl rfl (zxw HT_.out (by kernel_rfl)) (by decide) (fun K hK=>?_)
      refine goes_ Tryz.func39 (by kernel_rfl) rfl #[.int .i64 (rd l1 x5_1)] (by rfl) rfl rfl (by (try simp only [List.map_toArray,List.map_cons,List.map_nil]);first | done | rfl | (simp only [List.length_drop,List.length_take];rfl)) ?_
      with_reducible refine (q4_Height.calls (rd l1 x5_1) true _ A10.out).mono ?_
      rintro e w' ⟨rfl,⟨nd,rfl⟩⟩
      refine ⟨_,rfl,?_⟩
      refine hK.out _ _ ⟨(zqe BK124.out 0).trans rfl,(zqe BK124.out 1).trans rfl,(zqe BK124.out 2).trans rfl,(zqe BK124.out 3).trans rfl,(zqe BK124.out 4).trans rfl,((HB.out.cell (wbl hw125_0)).trans hw125_0),((HB.out.cell (wbl hw127_0)).trans hw127_0),((HB.out.cell (wbl hw128_0)).trans hw128_0),((HB.out.cell (wbl hw128_1)).trans hw128_1)⟩ (fun hHeld=>?_)
      clear hK K
      refine norm_ (a':=?_) ?_ ?_
      rotate_left
      ·show Act.put _ (some 23) _ = _
       simp only [Act.put,NRM]
       rfl
      refine pure_ (i:=5) (N:=some 24) (v:=?_) (a':=?_) (ba 20 63) rfl rfl (zqs HT_.out (by kernel_rfl)) (fun _ _ _ h=>h) (Or.inl ⟨by rfl,?_⟩) ?_ ?_
      rotate_left
      ·intro w'
       go_simp
       with_reducible rfl
      rotate_left
      ·simp only [Act.put,NRM]
       rfl
      refine pure_ (i:=6) (N:=some 25) (v:=?_) (a':=?_) (ba 20 127) rfl rfl (zqs HT_.out (by kernel_rfl)) (fun _ _ _ h=>h) (Or.inl ⟨by rfl,?_⟩) ?_ ?_
      rotate_left
      ·intro w'
       go_simp
       with_reducible rfl
      rotate_left
      ·simp only [Act.put,NRM]
       rfl
      refine pure_ (i:=7) (N:=some 26) (v:=?_) (a':=?_) (ba 20 255) rfl rfl (zqs HT_.out (by kernel_rfl)) (fun _ _ _ h=>h) (Or.inl ⟨by rfl,?_⟩) ?_ ?_
      rotate_left
      ·intro w'
       go_simp
       with_reducible rfl
      rotate_left
      ·simp only [Act.put,NRM]
       rfl
      refine pure_ (i:=8) (N:=some 27) (v:=?_) (a':=?_) (ba 20 511) rfl rfl (zqs HT_.out (by kernel_rfl)) (fun _ _ _ h=>h) (Or.inl ⟨by rfl,?_⟩) ?_ ?_
      rotate_left
      ·intro w'
       go_simp
       with_reducible rfl
      rotate_left
      ·simp only [Act.put,NRM]
       rfl
      refine pure_ (i:=9) (N:=some 28) (v:=?_) (a':=?_) (ba 20 1023) rfl rfl (zqs HT_.out (by kernel_rfl)) (fun _ _ _ h=>h) (Or.inl ⟨by rfl,?_⟩) ?_ ?_
      rotate_left
      ·intro w'
       go_simp
       with_reducible rfl
      rotate_left
      ·simp only [Act.put,NRM]
       rfl
      refine pure_ (i:=11) (N:=some 30) (v:=?_) (a':=?_) (ba 20 3071) rfl rfl (zqs HT_.out (by kernel_rfl)) (fun _ _ _ h=>h) (Or.inl ⟨by rfl,?_⟩) ?_ ?_
      rotate_left
      ·intro w'
       go_simp
       with_reducible rfl
      rotate_left
      ·simp only [Act.put,NRM]
       rfl
      refine pure_ (i:=13) (N:=some 32) (v:=?_) (a':=?_) (ba 20 11263) rfl rfl (zqs HT_.out (by kernel_rfl)) (fun _ _ _ h=>h) (Or.inl ⟨by rfl,?_⟩) ?_ ?_
      rotate_left
      ·intro w'
       go_simp
       with_reducible rfl
      rotate_left
      ·simp only [Act.put,NRM]
       rfl
      refine take_ (i:=10) (N:=some 29) (v:=?_) (a':=?_) (ba 20 12287) rfl rfl (zq8 HT_.out HW_.out (by kernel_rfl)) (fun _ _ _ h=>h) (Or.inl ⟨by rfl,?_⟩) hHeld ?_ ?_
      rotate_left
      ·rintro w' ⟨s0,s1,s2,s3,s4,s5,s6,s7,s8⟩
       go_simp
       with_reducible rfl
      rotate_left
      ·simp only [Act.put,NRM]
       rfl
      refine take_ (i:=12) (N:=some 31) (v:=?_) (a':=?_) (ba 20 16383) rfl rfl (zq8 HT_.out HW_.out (by kernel_rfl)) (fun _ _ _ h=>h) (Or.inl ⟨by rfl,?_⟩) hHeld ?_ ?_
      rotate_left
      ·rintro w' ⟨s0,s1,s2,s3,s4,s5,s6,s7,s8⟩
       go_simp
       with_reducible rfl
      rotate_left
      ·simp only [Act.put,NRM]
       rfl
      refine pure_ (i:=14) (N:=some 33) (v:=?_) (a':=?_) (ba 20 32767) rfl rfl (zqs HT_.out (by kernel_rfl)) (fun _ _ _ h=>h) (Or.inl ⟨by rfl,?_⟩) ?_ ?_
      rotate_left
      ·intro w'
       go_simp
       with_reducible rfl
      rotate_left
      ·simp only [Act.put,NRM]
       rfl
      refine pure_ (i:=15) (N:=some 34) (v:=?_) (a':=?_) (ba 20 65535) rfl rfl (zqs HT_.out (by kernel_rfl)) (fun _ _ _ h=>h) (Or.inl ⟨by rfl,?_⟩) ?_ ?_
      rotate_left
      ·intro w'
       go_simp
       with_reducible rfl
      rotate_left
      ·simp only [Act.put,NRM]
       rfl
      refine take_ (i:=16) (N:=some 35) (v:=?_) (a':=?_) (ba 20 131071) rfl rfl (zq8 HT_.out HW_.out (by kernel_rfl)) (fun _ _ _ h=>h) (Or.inl ⟨by rfl,?_⟩) hHeld ?_ ?_
      rotate_left
      ·rintro w' ⟨s0,s1,s2,s3,s4,s5,s6,s7,s8⟩
       go_simp
       with_reducible rfl
      rotate_left
      ·simp only [Act.put,NRM]
       rfl
      refine one_ (i:=17) (N:=some 36) (ba 20 262143) rfl rfl (zxw HT_.out (by kernel_rfl)) (by decide) (fun K hK=>?_)
      refine goes_ Tryz.func56 (by kernel_rfl) rfl #[.int .i64 (rd l1 x5_1),.int .i64 ((zql lB x5_1).f1)] (by rfl) rfl rfl (by (try simp only [List.map_toArray,List.map_cons,List.map_nil]);first | done | rfl | (simp only [List.length_drop,List.length_take];rfl)) ?_
      with_reducible refine (q4_far.calls (rd l1 x5_1) ((zql lB x5_1).f1) t129 _ A13.out).mono ?_
      rintro e w18 ⟨rfl,hb⟩
      refine ⟨_,rfl,?_⟩
      replace BK124:=(kmv hb BK124)
      replace HB:=am (zqb (zqa HB.out _) hb)
      (try clear hb)
      (try clear hb2)
      (try clear hk)
      (try clear hi)
      refine hK.out _ _ ⟨(zqe BK124.out 0).trans rfl,(zqe BK124.out 1).trans rfl,(zqe BK124.out 2).trans rfl,(zqe BK124.out 3).trans rfl,(zqe BK124.out 4).trans rfl,((HB.out.cell (wbl hw125_0)).trans hw125_0),((HB.out.cell (wbl hw127_0)).trans hw127_0),((HB.out.cell (wbl hw128_0)).trans hw128_0),((HB.out.cell (wbl hw128_1)).trans hw128_1)⟩ (fun hHeld=>?_)
      clear hK K
      refine norm_ (a':=?_) ?_ ?_
      rotate_left
      ·show Act.put _ (some 36) _ = _
       simp only [Act.put,NRM]
       rfl
      refine pure_ (i:=18) (N:=some 37) (v:=?_) (a':=?_) (ba 20 524287) rfl rfl (zqs HT_.out (by kernel_rfl)) (fun _ _ _ h=>h) (Or.inl ⟨by rfl,?_⟩) ?_ ?_
      rotate_left
      ·intro w'
       go_simp
       with_reducible rfl
      rotate_left
      ·simp only [Act.put,NRM]
       rfl
      refine pure_ (i:=19) (N:=some 38) (v:=?_) (a':=?_) (ba 20 1048575) rfl rfl (zqs HT_.out (by kernel_rfl)) (fun _ _ _ h=>h) (Or.inl ⟨by rfl,?_⟩) ?_ ?_
      rotate_left
      ·intro w'
       go_simp
       with_reducible rfl
      rotate_left
      ·simp only [Act.put,NRM]
       rfl
      refine done_ (zx4 HT_.out (by kernel_rfl)) ?_
      try go_wp2
      go_roundg kj3
      case measure=>have:=HK1.out;have:=HJ3.out;omega
      case rel=>exact ⟨(wrap64 (x5_1 + 1)),(by first | rfl | (simp;done) | (simp [*];done)),H',⟨by have:=HK1.out;have:=HJ3.out;omega⟩,⟨BK124.out⟩,⟨HB.out⟩⟩
def ca_in.f (a0 : Int) (a1 : Int) (a2 : Int) : Option (Bool):=if a0 ≥ a1 then (some (decide (a0≤a2))) else (some false)
theorem ca_in.calls (a0 : Int) (a1 : Int) (a2 : Int) (r : Bool) (w : World) (h : ca_in.f a0 a1 a2 = some r) :
 Calls Tryz.prog 79 #[.int .i64 a0,.int .i64 a1,.int .i64 a2] w fun e w'=>e = .returned (.bool r)∧zqt w w':=by
 have H : (if a0 ≥ a1 then (some (decide (a0≤a2))) else (some false)) = some r:=h
 clear h
 by_cases c4 : a0 ≥ a1
 ·rw [if_pos c4] at H
  have c4b0 : decide (a1≤a0) = true:=decide_eq_true c4
  clear c4
  obtain rfl:=Option.some.inj H
  go_enter Tryz.func79,Tryz.ntmps79
  go_wp2
  go_ret
  exact ⟨by first | rfl | (simp;done) | (simp [*];done),by repeat (first | exact zqt.refl _ | apply zqt.step)⟩
 ·rw [if_neg c4] at H
  have c4b0 : decide (a1≤a0) = false:=decide_eq_false c4
  clear c4
  obtain rfl:=Option.some.inj H
  go_enter Tryz.func79,Tryz.ntmps79
  go_wp2
  go_ret
  exact ⟨by first | rfl | (simp;done) | (simp [*];done),by repeat (first | exact zqt.refl _ | apply zqt.step)⟩
def ca_isFlow.f (a0 : Int) : Option (Bool):=(ca_in.f a0 0 10000).bind fun t137=>(some t137)
theorem ca_isFlow.calls (a0 : Int) (r : Bool) (w : World) (h : ca_isFlow.f a0 = some r) :
 Calls Tryz.prog 67 #[.int .i64 a0] w fun e w'=>e = .returned (.bool r)∧zqt w w':=by
 have H : ((ca_in.f a0 0 10000).bind fun t137=>(some t137)) = some r:=h
 clear h
 replace H:=obm H
 obtain ⟨t137,A20,H⟩:=H
 replace H : (some t137) = some r:=H
 have A2:=am A20
 clear A20
 obtain rfl:=Option.some.inj H
 go_enter Tryz.func67,Tryz.ntmps67
 go_wp2_with (first | ((with_reducible refine zqo (f:=79) rfl ?_);refine zq3 (some 4) rfl rfl Tryz.func79 (by kernel_rfl) rfl #[.int .i64 a0,.int .i64 0,.int .i64 10000] rfl (by (try simp only [List.map_toArray,List.map_cons,List.map_nil]);first | done | rfl | (simp only [List.length_drop,List.length_take];rfl)) ?_;(with_reducible refine (ca_in.calls a0 0 10000 t137 _ A2.out).mono ?_);rintro e w' ⟨rfl,⟨nd,rfl⟩⟩;refine ⟨_,rfl,?_⟩))
 go_ret
 exact ⟨by first | rfl | (simp;done) | (simp [*];done),by repeat (first | exact zqt.refl _ | apply zqt.step)⟩
def nz_in.f (a0 : Int) (a1 : Int) (a2 : Int) : Option (Bool):=if a0 ≥ a1 then (some (decide (a0≤a2))) else (some false)
theorem nz_in.calls (a0 : Int) (a1 : Int) (a2 : Int) (r : Bool) (w : World) (h : nz_in.f a0 a1 a2 = some r) :
 Calls Tryz.prog 135 #[.int .i64 a0,.int .i64 a1,.int .i64 a2] w fun e w'=>e = .returned (.bool r)∧zqt w w':=by
 have H : (if a0 ≥ a1 then (some (decide (a0≤a2))) else (some false)) = some r:=h
 clear h
 by_cases c4 : a0 ≥ a1
 ·rw [if_pos c4] at H
  have c4b0 : decide (a1≤a0) = true:=decide_eq_true c4
  clear c4
  obtain rfl:=Option.some.inj H
  go_enter Tryz.func135,Tryz.ntmps135
  go_wp2
  go_ret
  exact ⟨by first | rfl | (simp;done) | (simp [*];done),by repeat (first | exact zqt.refl _ | apply zqt.step)⟩
 ·rw [if_neg c4] at H
  have c4b0 : decide (a1≤a0) = false:=decide_eq_false c4
  clear c4
  obtain rfl:=Option.some.inj H
  go_enter Tryz.func135,Tryz.ntmps135
  go_wp2
  go_ret
  exact ⟨by first | rfl | (simp;done) | (simp [*];done),by repeat (first | exact zqt.refl _ | apply zqt.step)⟩
def nz_isTable_1.f (a0_0 : Int) (aA : Int) (a0_2 : Int) : Option (Bool):=(nz_in.f a0_0 1 60).bind fun t1054=>(if t1054 = true then ((nz_in.f aA 1 60).bind fun t1055=>(if t1055 = true then ((nz_in.f a0_2 1 1000).bind fun t1056=>(some (!t1056))) else (some true))) else (some true))
theorem nz_isTable_1.calls (a0_0 : Int) (aA : Int) (a0_2 : Int) (r : Bool) (w : World) (h : nz_isTable_1.f a0_0 aA a0_2 = some r) :
 Calls Tryz.prog 137 #[.agg #[.int .i64 a0_0,.int .i64 aA,.int .i64 a0_2]] w fun e w'=>e = .returned (.bool r)∧Below w.heap.size w w':=by
 have hu126:=Tryz.underlying126
 have HB:=am (Below.refl w.heap.size w)
 have H : ((nz_in.f a0_0 1 60).bind fun t1054=>(if t1054 = true then ((nz_in.f aA 1 60).bind fun t1055=>(if t1055 = true then ((nz_in.f a0_2 1 1000).bind fun t1056=>(some (!t1056))) else (some true))) else (some true))) = some r:=h
 clear h
 replace H:=obm H
 obtain ⟨t1054,A20,H⟩:=H
 replace H : (if t1054 = true then ((nz_in.f aA 1 60).bind fun t1055=>(if t1055 = true then ((nz_in.f a0_2 1 1000).bind fun t1056=>(some (!t1056))) else (some true))) else (some true)) = some r:=H
 have A2:=am A20
 clear A20
 by_cases c3 : t1054 = true
 case neg =>
  replace c3:=Bool.eq_false_iff.mpr c3
  subst c3
  replace H : (some true) = some r:=by rw [if_neg (show ¬ (false = true) by decide)] at H;exact H
  obtain rfl:=Option.some.inj H
  go_enter Tryz.func137,Tryz.ntmps137
  go_wp2_with (first | ((refine zqn (N:=1) rfl ?_);refine zqm rfl (N:=1) rfl (cs:=#[.int .i64 a0_0,.int .i64 aA,.int .i64 a0_2]) (t:=126) ?hr ?_;(case hr=>go_simp;try rfl);intro gb1053 hg w11 hbox hb;have BK1053:=am (hbox);have GW1053:=am (zqq (HB.out) hg);have GE1053:=am (zqq (HB.out) hg);replace HB:=am (zqb (HB.out) hb);clear hb hbox hg;obtain ⟨hcz12_0,hcz12_1,hcz12_2⟩:=cO3 BK1053.out) | ((with_reducible refine zqo (f:=135) rfl ?_);refine zq3 (some 5) rfl rfl Tryz.func135 (by kernel_rfl) rfl #[.int .i64 a0_0,.int .i64 1,.int .i64 60] rfl (by (try simp only [List.map_toArray,List.map_cons,List.map_nil]);first | done | rfl | (simp only [List.length_drop,List.length_take];rfl)) ?_;(with_reducible refine (nz_in.calls a0_0 1 60 false _ A2.out).mono ?_);rintro e w' ⟨rfl,⟨nd,rfl⟩⟩;refine ⟨_,rfl,?_⟩))
  go_ret
  exact ⟨by first | rfl | (simp [*]<;>rfl),zqa HB.out _⟩
 subst c3
 replace H : ((nz_in.f aA 1 60).bind fun t1055=>(if t1055 = true then ((nz_in.f a0_2 1 1000).bind fun t1056=>(some (!t1056))) else (some true))) = some r:=by rw [if_pos rfl] at H;exact H
 replace H:=obm H
 obtain ⟨t1055,A40,H⟩:=H
 replace H : (if t1055 = true then ((nz_in.f a0_2 1 1000).bind fun t1056=>(some (!t1056))) else (some true)) = some r:=H
 have A4:=am A40
 clear A40
 by_cases c5 : t1055 = true
 case neg =>
  replace c5:=Bool.eq_false_iff.mpr c5
  subst c5
  replace H : (some true) = some r:=by rw [if_neg (show ¬ (false = true) by decide)] at H;exact H
  obtain rfl:=Option.some.inj H
  go_enter Tryz.func137,Tryz.ntmps137
  go_wp2_with (first | ((refine zqn (N:=1) rfl ?_);refine zqm rfl (N:=1) rfl (cs:=#[.int .i64 a0_0,.int .i64 aA,.int .i64 a0_2]) (t:=126) ?hr ?_;(case hr=>go_simp;try rfl);intro gb1053 hg w9 hbox hb;have BK1053:=am (hbox);have GW1053:=am (zqq (HB.out) hg);have GE1053:=am (zqq (HB.out) hg);replace HB:=am (zqb (HB.out) hb);clear hb hbox hg;obtain ⟨hcz10_0,hcz10_1,hcz10_2⟩:=cO3 BK1053.out) | ((with_reducible refine zqo (f:=135) rfl ?_);refine zq3 (some 5) rfl rfl Tryz.func135 (by kernel_rfl) rfl #[.int .i64 a0_0,.int .i64 1,.int .i64 60] rfl (by (try simp only [List.map_toArray,List.map_cons,List.map_nil]);first | done | rfl | (simp only [List.length_drop,List.length_take];rfl)) ?_;(with_reducible refine (nz_in.calls a0_0 1 60 true _ A2.out).mono ?_);rintro e w' ⟨rfl,⟨nd,rfl⟩⟩;refine ⟨_,rfl,?_⟩) | (go_at_call 135;(with_reducible refine (nz_in.calls aA 1 60 false _ A4.out).mono ?_);rintro e w' ⟨rfl,⟨nd,rfl⟩⟩))
  go_ret
  exact ⟨by first | rfl | (simp [*]<;>rfl),zqa HB.out _⟩
 subst c5
 replace H : ((nz_in.f a0_2 1 1000).bind fun t1056=>(some (!t1056))) = some r:=by rw [if_pos rfl] at H;exact H
 replace H:=obm H
 obtain ⟨t1056,A60,H⟩:=H
 replace H : (some (!t1056)) = some r:=H
 have A6:=am A60
 clear A60
 obtain rfl:=Option.some.inj H
 go_enter Tryz.func137,Tryz.ntmps137
 go_wp2_with (first | ((refine zqn (N:=1) rfl ?_);refine zqm rfl (N:=1) rfl (cs:=#[.int .i64 a0_0,.int .i64 aA,.int .i64 a0_2]) (t:=126) ?hr ?_;(case hr=>go_simp;try rfl);intro gb1053 hg w7 hbox hb;have BK1053:=am (hbox);have GW1053:=am (zqq (HB.out) hg);have GE1053:=am (zqq (HB.out) hg);replace HB:=am (zqb (HB.out) hb);clear hb hbox hg;obtain ⟨hcz8_0,hcz8_1,hcz8_2⟩:=cO3 BK1053.out) | ((with_reducible refine zqo (f:=135) rfl ?_);refine zq3 (some 5) rfl rfl Tryz.func135 (by kernel_rfl) rfl #[.int .i64 a0_0,.int .i64 1,.int .i64 60] rfl (by (try simp only [List.map_toArray,List.map_cons,List.map_nil]);first | done | rfl | (simp only [List.length_drop,List.length_take];rfl)) ?_;(with_reducible refine (nz_in.calls a0_0 1 60 true _ A2.out).mono ?_);rintro e w' ⟨rfl,⟨nd,rfl⟩⟩;refine ⟨_,rfl,?_⟩) | (go_at_call 135;(with_reducible refine (nz_in.calls aA 1 60 true _ A4.out).mono ?_);rintro e w' ⟨rfl,⟨nd,rfl⟩⟩) | (go_at_call 135;(with_reducible refine (nz_in.calls a0_2 1 1000 t1056 _ A6.out).mono ?_);rintro e w' ⟨rfl,⟨nd,rfl⟩⟩))
 go_ret
 exact ⟨by first | rfl | (simp [*]<;>rfl),zqa HB.out _⟩
end
def zbn (q : S126→Option Bool) (w : World) (xs : List S126) : Prop:=∀ (x : S126) (b : Bool) (W : World) ,x ∈ xs→q x = some b→Below w.heap.size w W→
 Calls Tryz.prog 137 #[.agg #[.int .i64 x.f0,.int .i64 x.f1,.int .i64 x.f2]] W fun e W'=>e = .returned (.bool b)∧Below W.heap.size W W'
theorem idx_isTable (q : S126→Option Bool) (A : Option Addr) (c : Nat) (xs : List S126) (r : Int) (w : World) (hr : Kd.C k126 w A xs.length xs) (hp : zbn q w xs) (h : idxM q xs 0 = some r) :
 Calls Tryz.prog 146 #[.slice A xs.length c,.func (.func 137) #[] #[]] w fun e w'=>e = .returned (.int .i64 r)∧Below w.heap.size w w':=by
 have huE:=Tryz.underlying126
 have HR:=am hr
 have HP:=am hp
 have HQ:=am (show idxM q (xs.drop (0 : Int).toNat) 0 = some r from h)
 have hm : xs.length≤9223372036854775807:=Kd.C_max hr
 clear hr hp h
 go_enter Tryz.func146,Tryz.ntmps146
 go_wp2
 go_loopw [5,8] (fun v5 v8 w'=>∃ i : Int,0≤i∧i≤xs.length∧v8 = .int .i64 i∧zqk (idxM q (xs.drop i.toNat) i = some r)∧zqk (Below w.heap.size w w')) (fun _ v8 _=>xs.length - (intOf v8).toNat)
 case atStart=>exact ⟨0,by omega,by omega,rfl,HQ,⟨Below.refl _ _⟩⟩
 case round =>
  clear HQ
  obtain ⟨i,p1,hi,rfl,HQ,HB⟩:=hrel
  by_cases hlt : i < (xs.length : Int)
  case neg =>
   go_wp2
   go_ret
   exact ⟨zwi (zbp (by omega) HQ.out),HB.out⟩
  obtain ⟨ad,e1,hx0,hx1,hx2⟩:=zkx HR.out i p1 hlt
  cases e1
  replace hx0:=(HB.out.cell (wbl hx0)).trans hx0
  replace hx1:=(HB.out.cell (wbl hx1)).trans hx1
  replace hx2:=(HB.out.cell (wbl hx2)).trans hx2
  rcases zjd z126 p1 hlt HQ.out with ⟨hq,he⟩ | ⟨hq,hn⟩
  ·have H1:=am hq
   have X1:=am (zwz z126 p1 hlt)
   have H2:=am he
   clear hq he
   go_wp2_with (go_at_call 137;refine (HP.out (xs.getD i.toNat z126) _ _ X1.out H1.out HB.out).mono ?_;rintro e W' ⟨rfl,hb⟩)
   go_ret
   exact ⟨zwi H2.out,zq0 HB.out HB.out.size hb⟩
  ·have H1:=am hq
   have X1:=am (zwz z126 p1 hlt)
   have H2:=am hn
   clear hq hn
   go_wp2_with (go_at_call 137;refine (HP.out (xs.getD i.toNat z126) _ _ X1.out H1.out HB.out).mono ?_;rintro e W' ⟨rfl,hb⟩)
   go_roundw
   case rel=>exact ⟨i + 1,by omega,by omega,by go_num,H2,⟨zq0 HB.out HB.out.size hb⟩⟩
   case measure=>simp [intOf];omega
theorem any_isTable (q : S126→Option Bool) (A : Option Addr) (c : Nat) (xs : List S126) (r : Bool) (w : World) (hr : Kd.C k126 w A xs.length xs) (hp : zbn q w xs) (h : anyM q xs = some r) :
 Calls Tryz.prog 136 #[.slice A xs.length c,.func (.func 137) #[] #[]] w fun e w'=>e = .returned (.bool r)∧Below w.heap.size w w':=by
 obtain ⟨j,hj,hd⟩:=zvg q xs 0 r (by omega) h
 have H1:=am hj
 have H2:=am hd
 have HR:=am hr
 have HP:=am hp
 clear hr hp h hj hd
 go_enter Tryz.func136,Tryz.ntmps136
 go_wp2_with (go_at_call 146;refine (idx_isTable q _ _ xs j _ HR.out HP.out H1.out).mono ?_;rintro e W' ⟨rfl,hb⟩)
 go_ret
 exact ⟨zvu H2.out,hb⟩
def cf_isTable.f (l0 : List S126) : Option Bool:=anyM (fun x=>nz_isTable_1.f x.f0 x.f1 x.f2) l0
theorem cf_isTable.calls (A0 : Option Addr) (c0 : Nat) (l0 : List S126) (r : Bool) (w : World) (hr0 : Kd.C k126 w A0 l0.length l0) (hc0 : l0.length≤c0) (h : cf_isTable.f l0 = some r) :
 Calls Tryz.prog 136 #[.slice A0 l0.length c0,.func (.func 137) #[] #[]] w fun e w'=>e = .returned (.bool r)∧Below w.heap.size w w':=
 any_isTable (fun x=>nz_isTable_1.f x.f0 x.f1 x.f2) A0 c0 l0 r w hr0 (fun x b W hx hq hb=>(nz_isTable_1.calls _ _ _ b W hq).mono fun e W' ⟨he,hd⟩=>⟨he,hd⟩) h
section
attribute [local go_sem] zwa zq9 zwf zwe
def nz_isTable.f (lA : List (S126)) (aA : Int) : Option (Bool):=(nz_in.f (lA.length : Int) 1 12).bind fun t132=>(if t132 = true then ((nz_in.f aA 0 100).bind fun t133=>(if t133 = true then ((cf_isTable.f lA).bind fun t134=>(some (!t134))) else (some false))) else (some false))
theorem nz_isTable.calls (AX : Option Addr) (c0_0 : Nat) (lA : List (S126)) (aA : Int) (r : Bool) (w : World) (hra : Kd.C k126 w AX lA.length lA) (hc0_0 : lA.length≤c0_0) (h : nz_isTable.f lA aA = some r) :
 Calls Tryz.prog 127 #[.agg #[.slice AX lA.length c0_0,.int .i64 aA]] w fun e w'=>e = .returned (.bool r)∧Below w.heap.size w w':=by
 have hu24:=Tryz.underlying24
 have HRA:=am hra
 have HCA:=am hc0_0
 clear hra hc0_0
 have HB:=am (Below.refl w.heap.size w)
 have H : ((nz_in.f (lA.length : Int) 1 12).bind fun t132=>(if t132 = true then ((nz_in.f aA 0 100).bind fun t133=>(if t133 = true then ((cf_isTable.f lA).bind fun t134=>(some (!t134))) else (some false))) else (some false))) = some r:=h
 clear h
 replace H:=obm H
 obtain ⟨t132,A20,H⟩:=H
 replace H : (if t132 = true then ((nz_in.f aA 0 100).bind fun t133=>(if t133 = true then ((cf_isTable.f lA).bind fun t134=>(some (!t134))) else (some false))) else (some false)) = some r:=H
 have A2:=am A20
 clear A20
 by_cases c3 : t132 = true
 case neg =>
  replace c3:=Bool.eq_false_iff.mpr c3
  subst c3
  replace H : (some false) = some r:=by rw [if_neg (show ¬ (false = true) by decide)] at H;exact H
  obtain rfl:=Option.some.inj H
  go_enter Tryz.func127,Tryz.ntmps127
  go_wp2_with (first | ((refine zqn (N:=1) rfl ?_);refine zqm rfl (N:=1) rfl (cs:=#[.slice AX lA.length c0_0,.int .i64 aA]) (t:=24) ?hr ?_;(case hr=>go_simp;try rfl);intro gb131 hg w12 hbox hb;have BK131:=am (hbox);have GW131:=am (zqq (HB.out) hg);have GE131:=am (zqq (HB.out) hg);replace HB:=am (zqb (HB.out) hb);clear hb hbox hg;obtain ⟨hcz13_0,hcz13_1⟩:=cO2 BK131.out) | ((with_reducible refine zqo (f:=135) rfl ?_);refine zq3 (some 6) rfl rfl Tryz.func135 (by kernel_rfl) rfl #[.int .i64 (lA.length : Int),.int .i64 1,.int .i64 12] rfl (by (try simp only [List.map_toArray,List.map_cons,List.map_nil]);first | done | rfl | (simp only [List.length_drop,List.length_take];rfl)) ?_;(refine (nz_in.calls (lA.length : Int) 1 12 false _ A2.out).mono ?_);rintro e w' ⟨rfl,⟨nd,rfl⟩⟩;refine ⟨_,rfl,?_⟩))
  go_ret
  exact ⟨by first | rfl | (simp [*]<;>rfl),zqa HB.out _⟩
 subst c3
 replace H : ((nz_in.f aA 0 100).bind fun t133=>(if t133 = true then ((cf_isTable.f lA).bind fun t134=>(some (!t134))) else (some false))) = some r:=by rw [if_pos rfl] at H;exact H
 replace H:=obm H
 obtain ⟨t133,A40,H⟩:=H
 replace H : (if t133 = true then ((cf_isTable.f lA).bind fun t134=>(some (!t134))) else (some false)) = some r:=H
 have A4:=am A40
 clear A40
 by_cases c5 : t133 = true
 case neg =>
  replace c5:=Bool.eq_false_iff.mpr c5
  subst c5
  replace H : (some false) = some r:=by rw [if_neg (show ¬ (false = true) by decide)] at H;exact H
  obtain rfl:=Option.some.inj H
  go_enter Tryz.func127,Tryz.ntmps127
  go_wp2_with (first | ((refine zqn (N:=1) rfl ?_);refine zqm rfl (N:=1) rfl (cs:=#[.slice AX lA.length c0_0,.int .i64 aA]) (t:=24) ?hr ?_;(case hr=>go_simp;try rfl);intro gb131 hg w10 hbox hb;have BK131:=am (hbox);have GW131:=am (zqq (HB.out) hg);have GE131:=am (zqq (HB.out) hg);replace HB:=am (zqb (HB.out) hb);clear hb hbox hg;obtain ⟨hcz11_0,hcz11_1⟩:=cO2 BK131.out) | ((with_reducible refine zqo (f:=135) rfl ?_);refine zq3 (some 6) rfl rfl Tryz.func135 (by kernel_rfl) rfl #[.int .i64 (lA.length : Int),.int .i64 1,.int .i64 12] rfl (by (try simp only [List.map_toArray,List.map_cons,List.map_nil]);first | done | rfl | (simp only [List.length_drop,List.length_take];rfl)) ?_;(refine (nz_in.calls (lA.length : Int) 1 12 true _ A2.out).mono ?_);rintro e w' ⟨rfl,⟨nd,rfl⟩⟩;refine ⟨_,rfl,?_⟩) | (go_at_call 135;(refine (nz_in.calls aA 0 100 false _ A4.out).mono ?_);rintro e w' ⟨rfl,⟨nd,rfl⟩⟩))
  go_ret
  exact ⟨by first | rfl | (simp [*]<;>rfl),zqa HB.out _⟩
 subst c5
 replace H : ((cf_isTable.f lA).bind fun t134=>(some (!t134))) = some r:=by rw [if_pos rfl] at H;exact H
 replace H:=obm H
 obtain ⟨t134,A60,H⟩:=H
 replace H : (some (!t134)) = some r:=H
 have A6:=am A60
 clear A60
 obtain rfl:=Option.some.inj H
 go_enter Tryz.func127,Tryz.ntmps127
 go_wp2_with (first | ((refine zqn (N:=1) rfl ?_);refine zqm rfl (N:=1) rfl (cs:=#[.slice AX lA.length c0_0,.int .i64 aA]) (t:=24) ?hr ?_;(case hr=>go_simp;try rfl);intro gb131 hg w7 hbox hb;have BK131:=am (hbox);have GW131:=am (zqq (HB.out) hg);have GE131:=am (zqq (HB.out) hg);replace HB:=am (zqb (HB.out) hb);clear hb hbox hg;obtain ⟨hcz8_0,hcz8_1⟩:=cO2 BK131.out) | ((with_reducible refine zqo (f:=135) rfl ?_);refine zq3 (some 6) rfl rfl Tryz.func135 (by kernel_rfl) rfl #[.int .i64 (lA.length : Int),.int .i64 1,.int .i64 12] rfl (by (try simp only [List.map_toArray,List.map_cons,List.map_nil]);first | done | rfl | (simp only [List.length_drop,List.length_take];rfl)) ?_;(refine (nz_in.calls (lA.length : Int) 1 12 true _ A2.out).mono ?_);rintro e w' ⟨rfl,⟨nd,rfl⟩⟩;refine ⟨_,rfl,?_⟩) | (go_at_call 135;(refine (nz_in.calls aA 0 100 true _ A4.out).mono ?_);rintro e w' ⟨rfl,⟨nd,rfl⟩⟩) | (go_at_call 136;(refine (cf_isTable.calls _ _ lA  t134 _ ?side1 ?side2 A6.out).mono ?_);(case side1=>repeat (first | exact (kC HRA.out (zqa HB.out _)) | (with_reducible refine Kd.C_alloc ?_ _) | (with_reducible refine Kd.C_drewN ?_ _) | (with_reducible refine Kd.C_drew ?_)));(case side2=>exact HCA.out);rintro e w9 ⟨rfl,hb⟩;replace BK131:=(kmv hb BK131);replace HB:=am (zqb (zqa HB.out _) hb);(try clear hb);(try clear hb2);(try clear hk);(try clear hi)))
 go_ret
 exact ⟨by first | rfl | (simp [*]<;>rfl),HB.out⟩
def nz_sum.l0 : Nat→Int→List Int→Int→Int→Option (Int)
 | 0,_,_,_,_=>none
 | k + 1,x3,x6,x7,x8=>if x8 < x7 then (if 0≤x8 then (if x8 < (x6.length : Int) then (nz_sum.l0 k (wrap64 (x3 + (rd x6 x8))) x6 x7 (wrap64 (x8 + 1))) else (none)) else (none)) else (some x3)
def nz_sum.f (k : Nat) (l0 : List Int) : Option (Int):=nz_sum.l0 k 0 l0 (l0.length : Int) 0
theorem nz_sum.calls (k : Nat) (A0 : Option Addr) (c0 : Nat) (l0 : List Int) (r : Int) (w : World) (hr0 : Kd.C (Kd.int .i64) w A0 l0.length l0) (hc0 : l0.length≤c0) (h : nz_sum.f k l0 = some r) :
 Calls Tryz.prog 141 #[.slice A0 l0.length c0] w fun e w'=>e = .returned (.int .i64 r)∧zqt w w':=by
 have HR0:=am hr0
 have HC0:=am hc0
 clear hr0 hc0
 have H : (nz_sum.l0 k 0 l0 (l0.length : Int) 0) = some r:=h
 clear h
 replace H':=am H
 go_enter Tryz.func141,Tryz.ntmps141
 go_wp2
 go_loopg [3,8] k (fun kq v3 v8 w'=>∃ (x3_1 : Int) (x8_1 : Int),v3 = .int .i64 x3_1∧v8 = .int .i64 x8_1∧zqk (nz_sum.l0 kq x3_1 l0 (l0.length : Int) x8_1 = some r)∧zqk (kq≤k)∧zqt w w')
 case atStart=>exact ⟨(0),(0),(by first | rfl | (simp;done) | (simp [*];done)),(by first | rfl | (simp;done) | (simp [*];done)),H',⟨Nat.le_refl _⟩,by repeat (first | exact zqt.refl _ | apply zqt.step)⟩
 case round =>
  clear H'
  obtain ⟨x3_1,x8_1,rfl,rfl,HA,HK1,⟨m1,rfl⟩⟩:=hrel
  cases gk with
  | zero=>exact absurd HA.out (by simp [nz_sum.l0])
  | succ k1 =>
   have H:=HA.out
   clear HA
   simp only [nz_sum.l0] at H
   by_cases c2 : x8_1 < (l0.length : Int)
   case neg =>
    rw [if_neg c2] at H
    have c2b0 : decide (x8_1 < (l0.length : Int)) = false:=decide_eq_false c2
    clear c2
    obtain rfl:=Option.some.inj H
    go_wp2
    go_ret
    exact ⟨by first | rfl | (simp;done) | (simp [*];done),by repeat (first | exact zqt.refl _ | apply zqt.step)⟩
   rw [if_pos c2] at H
   have c2b0 : decide (x8_1 < (l0.length : Int)) = true:=decide_eq_true c2
   clear c2
   by_cases c3 : 0≤x8_1
   case neg =>
    rw [if_neg c3] at H
    exact absurd H (by simp)
   rw [if_pos c3] at H
   have c3b0 : decide (0≤x8_1) = true:=decide_eq_true c3
   clear c3
   by_cases c4 : x8_1 < (l0.length : Int)
   case neg =>
    rw [if_neg c4] at H
    exact absurd H (by simp)
   rw [if_pos c4] at H
   have c4b0 : decide (x8_1 < (l0.length : Int)) = true:=decide_eq_true c4
   clear c4
   replace H':=am H
   have p143 : 0≤(x8_1 : Int):=of_decide_eq_true (by assumption)
   have q143 : x8_1 < (l0.length : Int):=of_decide_eq_true (by assumption)
   obtain ⟨ad143,e143,hx143_0⟩:=Kd.at_int HR0.out x8_1 p143 q143
   cases e143
   replace p143:=eq_true p143
   replace q143:=eq_true q143
   go_wp2
   go_roundg k1
   case measure=>have:=HK1.out;omega
   case rel=>exact ⟨(wrap64 (x3_1 + (rd l0 x8_1))),(wrap64 (x8_1 + 1)),(by first | rfl | (simp;done) | (simp [*];done)),(by first | rfl | (simp;done) | (simp [*];done)),H',⟨by have:=HK1.out;omega⟩,by repeat (first | exact zqt.refl _ | apply zqt.step)⟩
end
end Go.Proofs.YtnnmnhpeblhiiaaGreatDoor.C

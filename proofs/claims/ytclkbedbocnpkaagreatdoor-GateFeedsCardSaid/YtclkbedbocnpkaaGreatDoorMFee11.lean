/- A part of the proof: the walks of the functions that it reaches. TIGHT. -/
import Derived.Test.YtclkbedbocnpkaaGreatDoorMFee10
set_option linter.unusedVariables false
set_option linter.unusedSimpArgs false
namespace Go.Proofs.YtclkbedbocnpkaaGreatDoor.C
open Go.RowKit Go.Proofs.YtclkbedbocnpkaaGreatDoorW.PrintWords Go.Proofs.YtclkbedbocnpkaaGreatDoorW.PrintLast Go.Proofs.YtclkbedbocnpkaaGreatDoorW.PrintMore
set_option linter.unusedVariables false
set_option linter.unusedSimpArgs false
set_option maxHeartbeats 16000000
set_option maxRecDepth 100000
mutual
def q8_Feeds.l0 : Nat→List Int→List Int→Int→List (S37)→List (S65)→Option (Bool)
 | 0,_,_,_,_,_=>none
 | k + 1,x1,x2,x7,x285000,x285001=>if x7 < (x2.length : Int) then (if 0≤x7 then (if x7 < (x285001.length : Int) then (if (rd x2 x7) > ((rd_T65 x285001 x7).f2) then (some false) else ((q8_Open.f k x285000 x285001 x1 x7).bind fun t287=>(if t287 = true then (q8_Feeds.l0 k x1 x2 (wrap64 (x7 + 1)) x285000 x285001) else (if (rd x2 x7) = 0 then (q8_Feeds.l0 k x1 x2 (wrap64 (x7 + 1)) x285000 x285001) else (some false))))) else (none)) else (none)) else (q8_Feeds.l1 k x2 0 x285000 x285001)
def q8_Feeds.l1 : Nat→List Int→Int→List (S37)→List (S65)→Option (Bool)
 | 0,_,_,_,_=>none
 | k + 1,x2,x8,x285000,x285001=>if x8 < (x285000.length : Int) then (if 0≤x8 then (q8_Feeds.l2 k x2 x8 (wrap64 (((rd_T37 x285000 x8).f0.f0) - ((rd_T37 x285000 x8).f1))) 0 x285000 x285001) else (none)) else (some true)
def q8_Feeds.l2 : Nat→List Int→Int→Int→Int→List (S37)→List (S65)→Option (Bool)
 | 0,_,_,_,_,_,_=>none
 | k + 1,x2,x8,x9,x10,x285000,x285001=>if x10 < (x2.length : Int) then (if 0≤x10 then (if x10 < (x285001.length : Int) then (if ((rd_T65 x285001 x10).f1) = x8 then (if ((rd_T65 x285001 x10).f0) = x8 then (q8_Feeds.l2 k x2 x8 (wrap64 ((wrap64 (x9 + (rd x2 x10))) - (rd x2 x10))) (wrap64 (x10 + 1)) x285000 x285001) else (q8_Feeds.l2 k x2 x8 (wrap64 (x9 + (rd x2 x10))) (wrap64 (x10 + 1)) x285000 x285001)) else (if ((rd_T65 x285001 x10).f0) = x8 then (q8_Feeds.l2 k x2 x8 (wrap64 (x9 - (rd x2 x10))) (wrap64 (x10 + 1)) x285000 x285001) else (q8_Feeds.l2 k x2 x8 x9 (wrap64 (x10 + 1)) x285000 x285001))) else (none)) else (none)) else (if x9 < 0 then (some false) else (q8_Feeds.l1 k x2 (wrap64 (x8 + 1)) x285000 x285001))
end
def q8_Feeds.f (k : Nat) (l0_0 : List (S37)) (l0_1 : List (S65)) (l1 : List Int) (l2 : List Int) : Option (Bool):=q8_Feeds.l0 k l1 l2 0 l0_0 l0_1
def q8_Feeds.T4 : Bool × List (List Nat × List Nat):=(true,[([],[]),([],[]),([0,1],[0,1]),([2],[2]),([],[]),([4],[4]),([],[]),([5,6],[5,6]),([7],[7]),([8],[8]),([3,9],[3,9]),([10],[10]),([11],[11]),([11],[11]),([11],[11]),([12,13,14,11,11],[11,12,13,14]),([15,11],[11,15]),([16,15,11],[11,16]),([17],[17]),([17],[17]),([18,19,17],[17,18,19]),([20,17],[17,20]),([21,17],[17,21]),([17,22,11],[11,17,22]),([11,23],[11,23])])
def q8_Feeds.B4 : List Nat:=[0,0,3,7,0,16,0,112,240,496,1023,2047,4095,4095,4095,32767,65535,131071,262143,262143,1048575,2097151,4194303,8388607,16777215]
theorem q8_Feeds.tab4 : rtab .any (opsOf Tryz.f20 4) = q8_Feeds.T4:=by kernel_rfl
theorem q8_Feeds.bits4 : waitsOk q8_Feeds.T4.2 q8_Feeds.B4 = true:=by kernel_rfl
def q8_Feeds.T9 : Bool × List (List Nat × List Nat):=(true,[([],[]),([0],[0]),([],[]),([1,2],[1,2]),([3],[3]),([4],[4]),([5],[5]),([],[]),([7],[7]),([],[]),([8,9],[8,9]),([10],[10]),([11],[11]),([6,12],[6,12]),([13,0,1,2,3,4,5,6,7,8,9,10,11,12,13],[13])])
def q8_Feeds.B9 : List Nat:=[0,1,0,7,15,31,63,0,128,0,896,1920,3968,8191,16383]
theorem q8_Feeds.tab9 : rtab .any (opsOf Tryz.f20 9) = q8_Feeds.T9:=by kernel_rfl
theorem q8_Feeds.bits9 : waitsOk q8_Feeds.T9.2 q8_Feeds.B9 = true:=by kernel_rfl
theorem q8_Feeds.calls (k : Nat) (A0_0 : Option Addr) (c0_0 : Nat) (l0_0 : List (S37)) (A0_1 : Option Addr) (c0_1 : Nat) (l0_1 : List (S65)) (A1 : Option Addr) (c1 : Nat) (l1 : List Int) (A2 : Option Addr) (c2 : Nat) (l2 : List Int) (r : Bool) (w : World) (hr0_0 : Kd.C k37 w A0_0 l0_0.length l0_0) (hc0_0 : l0_0.length≤c0_0) (hr0_1 : Kd.C k65 w A0_1 l0_1.length l0_1) (hc0_1 : l0_1.length≤c0_1) (hr1 : Kd.C (Kd.int .i64) w A1 l1.length l1) (hc1 : l1.length≤c1) (hr2 : Kd.C (Kd.int .i64) w A2 l2.length l2) (hc2 : l2.length≤c2) (h : q8_Feeds.f k l0_0 l0_1 l1 l2 = some r) :
 Calls Tryz.prog 20 #[.agg #[.slice A0_0 l0_0.length c0_0,.slice A0_1 l0_1.length c0_1],.slice A1 l1.length c1,.slice A2 l2.length c2] w fun e w'=>e = .returned (.bool r)∧Below w.heap.size w w':=by
 have hu25:=Tryz.underlying25
 have HR0_0:=am hr0_0
 have HC0_0:=am hc0_0
 clear hr0_0 hc0_0
 have HR0_1:=am hr0_1
 have HC0_1:=am hc0_1
 clear hr0_1 hc0_1
 have HR1:=am hr1
 have HC1:=am hc1
 clear hr1 hc1
 have HR2:=am hr2
 have HC2:=am hc2
 clear hr2 hc2
 have HB:=am (Below.refl w.heap.size w)
 have H : (q8_Feeds.l0 k l1 l2 0 l0_0 l0_1) = some r:=h
 clear h
 replace H':=am H
 go_enter Tryz.func20,Tryz.ntmps20
 go_wp2_with (first | ((refine ga_dst (N:=3) rfl ?_);refine box_event rfl (N:=3) rfl (cs:=#[.slice A0_0 l0_0.length c0_0,.slice A0_1 l0_1.length c0_1]) (t:=25) ?hr ?_;(case hr=>go_simp;try rfl);intro gb284 hg w4 hbox hb;have BK284:=am (hbox);have GW284:=am (ge_new (HB.out) hg);have GE284:=am (ge_new (HB.out) hg);replace HB:=am (below_step (HB.out) hb);clear hb hbox hg))
 go_loopg [7] k (fun kq v7 w'=>∃ (x7_1 : Int),v7 = .int .i64 x7_1∧Aside0 (q8_Feeds.l0 kq l1 l2 x7_1 l0_0 l0_1 = some r)∧Aside0 (kq≤k)∧Aside0 (w'.heap[gb284]? = some (.cells #[(.slice A0_0 l0_0.length c0_0),(.slice A0_1 l0_1.length c0_1)] 25 (0,0)))∧Aside0 (Below w.heap.size w w'))
 case atStart=>exact ⟨(0),(by first | rfl | (simp;done) | (simp [*];done)),H',⟨Nat.le_refl _⟩,⟨BK284.out⟩,⟨HB.out⟩⟩
 case round =>
  clear H'
  obtain ⟨x7_1,rfl,HA,HK1,BK284,HB⟩:=hrel
  cases gk with
  | zero=>exact absurd HA.out (by simp [q8_Feeds.l0])
  | succ k1 =>
   have H:=HA.out
   clear HA
   simp only [q8_Feeds.l0] at H
   by_cases c5 : x7_1 < (l2.length : Int)
   case neg =>
    rw [if_neg c5] at H
    have c5b0 : decide (x7_1 < (l2.length : Int)) = false:=decide_eq_false c5
    clear c5
    replace H':=am H
    go_wp2
    go_loopg [8] k1 (fun kq v8 w'=>∃ (x8_2 : Int),v8 = .int .i64 x8_2∧Aside0 (q8_Feeds.l1 kq l2 x8_2 l0_0 l0_1 = some r)∧Aside0 (kq≤k1)∧Aside0 (w'.heap[gb284]? = some (.cells #[(.slice A0_0 l0_0.length c0_0),(.slice A0_1 l0_1.length c0_1)] 25 (0,0)))∧Aside0 (Below w.heap.size w w'))
    case atStart=>exact ⟨(0),(by first | rfl | (simp;done) | (simp [*];done)),H',⟨Nat.le_refl _⟩,⟨BK284.out⟩,⟨HB.out⟩⟩
    case round =>
     clear H'
     obtain ⟨x8_2,rfl,HA,HK2,BK284,HB⟩:=hrel
     cases gk with
     | zero=>exact absurd HA.out (by simp [q8_Feeds.l1])
     | succ k2 =>
      have H:=HA.out
      clear HA
      simp only [q8_Feeds.l1] at H
      by_cases c19 : x8_2 < (l0_0.length : Int)
      case neg =>
       rw [if_neg c19] at H
       have c19b0 : decide (x8_2 < (l0_0.length : Int)) = false:=decide_eq_false c19
       clear c19
       obtain rfl:=Option.some.inj H
       obtain ⟨hcz34_0,hcz34_1⟩:=cO2 BK284.out
       go_wp2
       go_ret
       exact ⟨by first | rfl | (simp [*]<;>rfl),HB.out⟩
      rw [if_pos c19] at H
      have c19b0 : decide (x8_2 < (l0_0.length : Int)) = true:=decide_eq_true c19
      clear c19
      by_cases c20 : 0≤x8_2
      case neg =>
       rw [if_neg c20] at H
       exact absurd H (by simp)
      rw [if_pos c20] at H
      have c20b0 : decide (0≤x8_2) = true:=decide_eq_true c20
      clear c20
      replace H':=am H
      obtain ⟨hcz21_0,hcz21_1⟩:=cO2 BK284.out
      try go_wp2
      replace BK284:=am (blk_drew BK284.out)
      replace HB:=am (below_drew1 HB.out)
      have p289 : 0≤(x8_2 : Int):=of_decide_eq_true (by assumption)
      have q289 : x8_2 < (l0_0.length : Int):=of_decide_eq_true (by assumption)
      obtain ⟨ad289,e289,hx289_0,hx289_1,hx289_2⟩:=at_T37 HR0_0.out x8_2 p289 q289
      have hw289_2:=hx289_2
      have hw289_1:=hx289_1
      have hw289_0:=hx289_0
      cases e289
      replace hx289_0:=(HB.out.cell (wbl hx289_0)).trans hx289_0
      replace hx289_1:=(HB.out.cell (wbl hx289_1)).trans hx289_1
      replace hx289_2:=(HB.out.cell (wbl hx289_2)).trans hx289_2
      replace p289:=eq_true p289
      replace q289:=eq_true q289
      have p290 : 0≤(x8_2 : Int):=of_decide_eq_true (by assumption)
      have q290 : x8_2 < (l0_0.length : Int):=of_decide_eq_true (by assumption)
      obtain ⟨ad290,e290,hx290_0,hx290_1,hx290_2⟩:=at_T37 HR0_0.out x8_2 p290 q290
      have hw290_2:=hx290_2
      have hw290_1:=hx290_1
      have hw290_0:=hx290_0
      obtain rfl : ad289 = ad290:=(by injection e290)
      replace hx290_0:=(HB.out.cell (wbl hx290_0)).trans hx290_0
      replace hx290_1:=(HB.out.cell (wbl hx290_1)).trans hx290_1
      replace hx290_2:=(HB.out.cell (wbl hx290_2)).trans hx290_2
      replace p290:=eq_true p290
      replace q290:=eq_true q290
      refine start_ (n:=15) (S:=fun w'=>w'.cell? ⟨gb284,0,none⟩ = some (.slice (some ad289) l0_0.length c0_0)∧w'.cell? ⟨gb284,1,none⟩ = some (.slice A0_1 l0_1.length c0_1)∧w'.cell? (ad289.add ((x8_2).toNat * 3)) = some (.int .i64 ((rd_T37 l0_0 x8_2).f0.f0))∧w'.cell? ⟨(ad289.add ((x8_2).toNat * 3)).block,(ad289.add ((x8_2).toNat * 3)).off + 1,none⟩ = some (.int .i64 ((rd_T37 l0_0 x8_2).f0.f1))∧w'.cell? ⟨(ad289.add ((x8_2).toNat * 3)).block,(ad289.add ((x8_2).toNat * 3)).off + 2,none⟩ = some (.int .i64 ((rd_T37 l0_0 x8_2).f1))∧w'.cell? (ad289.add ((x8_2).toNat * 3)) = some (.int .i64 ((rd_T37 l0_0 x8_2).f0.f0))∧w'.cell? ⟨(ad289.add ((x8_2).toNat * 3)).block,(ad289.add ((x8_2).toNat * 3)).off + 1,none⟩ = some (.int .i64 ((rd_T37 l0_0 x8_2).f0.f1))∧w'.cell? ⟨(ad289.add ((x8_2).toNat * 3)).block,(ad289.add ((x8_2).toNat * 3)).off + 2,none⟩ = some (.int .i64 ((rd_T37 l0_0 x8_2).f1))) (ds:=[]) (ba 15 0) (by kernel_rfl) rfl rfl ⟨(blk_cell BK284.out 0).trans rfl,(blk_cell BK284.out 1).trans rfl,((HB.out.cell (wbl hw289_0)).trans hw289_0),((HB.out.cell (wbl hw289_1)).trans hw289_1),((HB.out.cell (wbl hw289_2)).trans hw289_2),((HB.out.cell (wbl hw290_0)).trans hw290_0),((HB.out.cell (wbl hw290_1)).trans hw290_1),((HB.out.cell (wbl hw290_2)).trans hw290_2)⟩ (fun hHeld=>?_);refine with_tabW q8_Feeds.tab9 q8_Feeds.bits9 (fun HT_ HW_=>?_)
      generalize wr.drew = w22 at BK284 HB hx289_0 hx289_1 hx289_2 hx290_0 hx290_1 hx290_2 hHeld ⊢
      refine pure_ (i:=0) (N:=some 49) (v:=?_) (a':=?_) (ba 15 1) rfl rfl (any_of HT_.out (by kernel_rfl)) (fun _ _ _ h=>h) (Or.inl ⟨by rfl,?_⟩) ?_ ?_
      rotate_left
      ·intro w'
       go_simp
       with_reducible rfl
      rotate_left
      ·simp only [Act.put,NRM]
       rfl
      refine pure_ (i:=2) (N:=some 51) (v:=?_) (a':=?_) (ba 15 5) rfl rfl (any_of HT_.out (by kernel_rfl)) (fun _ _ _ h=>h) (Or.inl ⟨by rfl,?_⟩) ?_ ?_
      rotate_left
      ·intro w'
       go_simp
       with_reducible rfl
      rotate_left
      ·simp only [Act.put,NRM]
       rfl
      refine pure_ (i:=7) (N:=some 56) (v:=?_) (a':=?_) (ba 15 133) rfl rfl (any_of HT_.out (by kernel_rfl)) (fun _ _ _ h=>h) (Or.inl ⟨by rfl,?_⟩) ?_ ?_
      rotate_left
      ·intro w'
       go_simp
       with_reducible rfl
      rotate_left
      ·simp only [Act.put,NRM]
       rfl
      refine pure_ (i:=9) (N:=some 58) (v:=?_) (a':=?_) (ba 15 645) rfl rfl (any_of HT_.out (by kernel_rfl)) (fun _ _ _ h=>h) (Or.inl ⟨by rfl,?_⟩) ?_ ?_
      rotate_left
      ·intro w'
       go_simp
       with_reducible rfl
      rotate_left
      ·simp only [Act.put,NRM]
       rfl
      refine take_ (i:=1) (N:=some 50) (v:=?_) (a':=?_) (ba 15 647) rfl rfl (take_ofW HT_.out HW_.out (by kernel_rfl)) (fun _ _ _ h=>h) (Or.inl ⟨by rfl,?_⟩) hHeld ?_ ?_
      rotate_left
      ·rintro w' ⟨s0,s1,s2,s3,s4,s5,s6,s7⟩
       go_simp
       with_reducible rfl
      rotate_left
      ·simp only [Act.put,NRM]
       rfl
      refine pure_ (i:=3) (N:=some 52) (v:=?_) (a':=?_) (ba 15 655) rfl rfl (any_of HT_.out (by kernel_rfl)) (fun _ _ _ h=>h) (Or.inl ⟨by rfl,?_⟩) ?_ ?_
      rotate_left
      ·intro w'
       go_simp
       with_reducible rfl
      rotate_left
      ·simp only [Act.put,NRM]
       rfl
      refine pure_ (i:=4) (N:=some 53) (v:=?_) (a':=?_) (ba 15 671) rfl rfl (any_of HT_.out (by kernel_rfl)) (fun _ _ _ h=>h) (Or.inl ⟨by rfl,?_⟩) ?_ ?_
      rotate_left
      ·intro w'
       go_simp
       with_reducible rfl
      rotate_left
      ·simp only [Act.put,NRM]
       rfl
      refine pure_ (i:=5) (N:=some 54) (v:=?_) (a':=?_) (ba 15 703) rfl rfl (any_of HT_.out (by kernel_rfl)) (fun _ _ _ h=>h) (Or.inl ⟨by rfl,?_⟩) ?_ ?_
      rotate_left
      ·intro w'
       go_simp
       with_reducible rfl
      rotate_left
      ·simp only [Act.put,NRM]
       rfl
      refine take_ (i:=6) (N:=some 55) (v:=?_) (a':=?_) (ba 15 767) rfl rfl (take_ofW HT_.out HW_.out (by kernel_rfl)) (fun _ _ _ h=>h) (Or.inl ⟨by rfl,?_⟩) hHeld ?_ ?_
      rotate_left
      ·rintro w' ⟨s0,s1,s2,s3,s4,s5,s6,s7⟩
       go_simp
       with_reducible rfl
      rotate_left
      ·simp only [Act.put,NRM]
       rfl
      refine take_ (i:=8) (N:=some 57) (v:=?_) (a':=?_) (ba 15 1023) rfl rfl (take_ofW HT_.out HW_.out (by kernel_rfl)) (fun _ _ _ h=>h) (Or.inl ⟨by rfl,?_⟩) hHeld ?_ ?_
      rotate_left
      ·rintro w' ⟨s0,s1,s2,s3,s4,s5,s6,s7⟩
       go_simp
       with_reducible rfl
      rotate_left
      ·simp only [Act.put,NRM]
       rfl
      refine pure_ (i:=10) (N:=some 59) (v:=?_) (a':=?_) (ba 15 2047) rfl rfl (any_of HT_.out (by kernel_rfl)) (fun _ _ _ h=>h) (Or.inl ⟨by rfl,?_⟩) ?_ ?_
      rotate_left
      ·intro w'
       go_simp
       with_reducible rfl
      rotate_left
      ·simp only [Act.put,NRM]
       rfl
      refine pure_ (i:=11) (N:=some 60) (v:=?_) (a':=?_) (ba 15 4095) rfl rfl (any_of HT_.out (by kernel_rfl)) (fun _ _ _ h=>h) (Or.inl ⟨by rfl,?_⟩) ?_ ?_
      rotate_left
      ·intro w'
       go_simp
       with_reducible rfl
      rotate_left
      ·simp only [Act.put,NRM]
       rfl
      refine take_ (i:=12) (N:=some 61) (v:=?_) (a':=?_) (ba 15 8191) rfl rfl (take_ofW HT_.out HW_.out (by kernel_rfl)) (fun _ _ _ h=>h) (Or.inl ⟨by rfl,?_⟩) hHeld ?_ ?_
      rotate_left
      ·rintro w' ⟨s0,s1,s2,s3,s4,s5,s6,s7⟩
       go_simp
       with_reducible rfl
      rotate_left
      ·simp only [Act.put,NRM]
       rfl
      refine pure_ (i:=13) (N:=some 62) (v:=?_) (a':=?_) (ba 15 16383) rfl rfl (any_of HT_.out (by kernel_rfl)) (fun _ _ _ h=>h) (Or.inl ⟨by rfl,?_⟩) ?_ ?_
      rotate_left
      ·intro w'
       go_simp
       with_reducible rfl
      rotate_left
      ·simp only [Act.put,NRM]
       rfl
      refine pure_ (i:=14) (N:=some 9) (v:=?_) (a':=?_) (ba 15 32767) rfl rfl (any_of HT_.out (by kernel_rfl)) (fun _ _ _ h=>h) (Or.inl ⟨by rfl,?_⟩) ?_ ?_
      rotate_left
      ·intro w'
       go_simp
       with_reducible rfl
      rotate_left
      ·simp only [Act.put,NRM]
       rfl
      refine done_ (done_of HT_.out (by kernel_rfl)) ?_
      try go_wp2
      go_loopg [9,10] k2 (fun kq v9 v10 w'=>∃ (x9_3 : Int) (x10_3 : Int),v9 = .int .i64 x9_3∧v10 = .int .i64 x10_3∧Aside0 (q8_Feeds.l2 kq l2 x8_2 x9_3 x10_3 l0_0 l0_1 = some r)∧Aside0 (kq≤k2)∧Aside0 (w'.heap[gb284]? = some (.cells #[(.slice (some ad289) l0_0.length c0_0),(.slice A0_1 l0_1.length c0_1)] 25 (0,0)))∧Aside0 (Below w.heap.size w w'))
      case atStart=>exact ⟨(wrap64 (((rd_T37 l0_0 x8_2).f0.f0) - ((rd_T37 l0_0 x8_2).f1))),(0),(by first | rfl | (simp;done) | (simp [*];done)),(by first | rfl | (simp;done) | (simp [*];done)),H',⟨Nat.le_refl _⟩,⟨BK284.out⟩,⟨HB.out⟩⟩
      case round =>
       clear H'
       obtain ⟨x9_3,x10_3,rfl,rfl,HA,HK3,BK284,HB⟩:=hrel
       cases gk with
       | zero=>exact absurd HA.out (by simp [q8_Feeds.l2])
       | succ k3 =>
        have H:=HA.out
        clear HA
        simp only [q8_Feeds.l2] at H
        by_cases c23 : x10_3 < (l2.length : Int)
        case neg =>
         rw [if_neg c23] at H
         have c23b0 : decide (x10_3 < (l2.length : Int)) = false:=decide_eq_false c23
         clear c23
         by_cases c33 : x9_3 < 0
         ·rw [if_pos c33] at H
          have c33b0 : decide (x9_3 < 0) = true:=decide_eq_true c33
          clear c33
          obtain rfl:=Option.some.inj H
          go_wp2
          go_ret
          exact ⟨by first | rfl | (simp [*]<;>rfl),HB.out⟩
         ·rw [if_neg c33] at H
          have c33b0 : decide (x9_3 < 0) = false:=decide_eq_false c33
          clear c33
          replace H':=am H
          go_wp2
          go_roundg k3
          case measure=>have:=HK1.out;have:=HK2.out;have:=HK3.out;omega
          case rel=>exact ⟨(wrap64 (x8_2 + 1)),(by first | rfl | (simp;done) | (simp [*];done)),H',⟨by have:=HK1.out;have:=HK2.out;have:=HK3.out;omega⟩,⟨BK284.out⟩,⟨HB.out⟩⟩
        rw [if_pos c23] at H
        have c23b0 : decide (x10_3 < (l2.length : Int)) = true:=decide_eq_true c23
        clear c23
        by_cases c24 : 0≤x10_3
        case neg =>
         rw [if_neg c24] at H
         exact absurd H (by simp)
        rw [if_pos c24] at H
        have c24b0 : decide (0≤x10_3) = true:=decide_eq_true c24
        clear c24
        by_cases c25 : x10_3 < (l0_1.length : Int)
        case neg =>
         rw [if_neg c25] at H
         exact absurd H (by simp)
        rw [if_pos c25] at H
        have c25b0 : decide (x10_3 < (l0_1.length : Int)) = true:=decide_eq_true c25
        clear c25
        by_cases c26 : ((rd_T65 l0_1 x10_3).f1) = x8_2
        case neg =>
         rw [if_neg c26] at H
         have c26b0 : (((rd_T65 l0_1 x10_3).f1) == x8_2) = false:=beq_eq_false_iff_ne.mpr c26
         have c26b1 : (((rd_T65 l0_1 x10_3).f1) != x8_2) = true:=bne_iff_ne.mpr c26
         by_cases c30 : ((rd_T65 l0_1 x10_3).f0) = x8_2
         case neg =>
          rw [if_neg c30] at H
          have c30b0 : (((rd_T65 l0_1 x10_3).f0) == x8_2) = false:=beq_eq_false_iff_ne.mpr c30
          have c30b1 : (((rd_T65 l0_1 x10_3).f0) != x8_2) = true:=bne_iff_ne.mpr c30
          replace H':=am H
          obtain ⟨hcz32_0,hcz32_1⟩:=cO2 BK284.out
          have p291 : 0≤(x10_3 : Int):=of_decide_eq_true (by assumption)
          have q291 : x10_3 < (l0_1.length : Int):=of_decide_eq_true (by assumption)
          obtain ⟨ad291,e291,hx291_0,hx291_1,hx291_2,hx291_3⟩:=at_T65 HR0_1.out x10_3 p291 q291
          cases e291
          replace hx291_0:=(HB.out.cell (wbl hx291_0)).trans hx291_0
          replace hx291_1:=(HB.out.cell (wbl hx291_1)).trans hx291_1
          replace hx291_2:=(HB.out.cell (wbl hx291_2)).trans hx291_2
          replace hx291_3:=(HB.out.cell (wbl hx291_3)).trans hx291_3
          replace p291:=eq_true p291
          replace q291:=eq_true q291
          have p295 : 0≤(x10_3 : Int):=of_decide_eq_true (by assumption)
          have q295 : x10_3 < (l0_1.length : Int):=of_decide_eq_true (by assumption)
          obtain ⟨ad295,e295,hx295_0,hx295_1,hx295_2,hx295_3⟩:=at_T65 HR0_1.out x10_3 p295 q295
          obtain rfl : ad291 = ad295:=(by injection e295)
          replace hx295_0:=(HB.out.cell (wbl hx295_0)).trans hx295_0
          replace hx295_1:=(HB.out.cell (wbl hx295_1)).trans hx295_1
          replace hx295_2:=(HB.out.cell (wbl hx295_2)).trans hx295_2
          replace hx295_3:=(HB.out.cell (wbl hx295_3)).trans hx295_3
          replace p295:=eq_true p295
          replace q295:=eq_true q295
          go_wp2
          go_roundg k3
          case measure=>have:=HK1.out;have:=HK2.out;have:=HK3.out;omega
          case rel=>exact ⟨(x9_3),(wrap64 (x10_3 + 1)),(by first | rfl | (simp;done) | (simp [*];done)),(by first | rfl | (simp;done) | (simp [*];done)),H',⟨by have:=HK1.out;have:=HK2.out;have:=HK3.out;omega⟩,⟨BK284.out⟩,⟨HB.out⟩⟩
         rw [if_pos c30] at H
         have c30b0 : (((rd_T65 l0_1 x10_3).f0) == x8_2) = true:=beq_iff_eq.mpr c30
         have c30b1 : (((rd_T65 l0_1 x10_3).f0) != x8_2) = false:=bne_eq_false_iff_eq.mpr c30
         clear c30
         replace H':=am H
         obtain ⟨hcz31_0,hcz31_1⟩:=cO2 BK284.out
         have p291 : 0≤(x10_3 : Int):=of_decide_eq_true (by assumption)
         have q291 : x10_3 < (l0_1.length : Int):=of_decide_eq_true (by assumption)
         obtain ⟨ad291,e291,hx291_0,hx291_1,hx291_2,hx291_3⟩:=at_T65 HR0_1.out x10_3 p291 q291
         cases e291
         replace hx291_0:=(HB.out.cell (wbl hx291_0)).trans hx291_0
         replace hx291_1:=(HB.out.cell (wbl hx291_1)).trans hx291_1
         replace hx291_2:=(HB.out.cell (wbl hx291_2)).trans hx291_2
         replace hx291_3:=(HB.out.cell (wbl hx291_3)).trans hx291_3
         replace p291:=eq_true p291
         replace q291:=eq_true q291
         have p295 : 0≤(x10_3 : Int):=of_decide_eq_true (by assumption)
         have q295 : x10_3 < (l0_1.length : Int):=of_decide_eq_true (by assumption)
         obtain ⟨ad295,e295,hx295_0,hx295_1,hx295_2,hx295_3⟩:=at_T65 HR0_1.out x10_3 p295 q295
         obtain rfl : ad291 = ad295:=(by injection e295)
         replace hx295_0:=(HB.out.cell (wbl hx295_0)).trans hx295_0
         replace hx295_1:=(HB.out.cell (wbl hx295_1)).trans hx295_1
         replace hx295_2:=(HB.out.cell (wbl hx295_2)).trans hx295_2
         replace hx295_3:=(HB.out.cell (wbl hx295_3)).trans hx295_3
         replace p295:=eq_true p295
         replace q295:=eq_true q295
         have p296 : 0≤(x10_3 : Int):=of_decide_eq_true (by assumption)
         have q296 : x10_3 < (l2.length : Int):=of_decide_eq_true (by assumption)
         obtain ⟨ad296,e296,hx296_0⟩:=Kd.at_int HR2.out x10_3 p296 q296
         cases e296
         replace hx296_0:=(HB.out.cell (wbl hx296_0)).trans hx296_0
         replace p296:=eq_true p296
         replace q296:=eq_true q296
         go_wp2
         go_roundg k3
         case measure=>have:=HK1.out;have:=HK2.out;have:=HK3.out;omega
         case rel=>exact ⟨(wrap64 (x9_3 - (rd l2 x10_3))),(wrap64 (x10_3 + 1)),(by first | rfl | (simp;done) | (simp [*];done)),(by first | rfl | (simp;done) | (simp [*];done)),H',⟨by have:=HK1.out;have:=HK2.out;have:=HK3.out;omega⟩,⟨BK284.out⟩,⟨HB.out⟩⟩
        rw [if_pos c26] at H
        have c26b0 : (((rd_T65 l0_1 x10_3).f1) == x8_2) = true:=beq_iff_eq.mpr c26
        have c26b1 : (((rd_T65 l0_1 x10_3).f1) != x8_2) = false:=bne_eq_false_iff_eq.mpr c26
        clear c26
        by_cases c27 : ((rd_T65 l0_1 x10_3).f0) = x8_2
        case neg =>
         rw [if_neg c27] at H
         have c27b0 : (((rd_T65 l0_1 x10_3).f0) == x8_2) = false:=beq_eq_false_iff_ne.mpr c27
         have c27b1 : (((rd_T65 l0_1 x10_3).f0) != x8_2) = true:=bne_iff_ne.mpr c27
         replace H':=am H
         obtain ⟨hcz29_0,hcz29_1⟩:=cO2 BK284.out
         have p291 : 0≤(x10_3 : Int):=of_decide_eq_true (by assumption)
         have q291 : x10_3 < (l0_1.length : Int):=of_decide_eq_true (by assumption)
         obtain ⟨ad291,e291,hx291_0,hx291_1,hx291_2,hx291_3⟩:=at_T65 HR0_1.out x10_3 p291 q291
         cases e291
         replace hx291_0:=(HB.out.cell (wbl hx291_0)).trans hx291_0
         replace hx291_1:=(HB.out.cell (wbl hx291_1)).trans hx291_1
         replace hx291_2:=(HB.out.cell (wbl hx291_2)).trans hx291_2
         replace hx291_3:=(HB.out.cell (wbl hx291_3)).trans hx291_3
         replace p291:=eq_true p291
         replace q291:=eq_true q291
         have p292 : 0≤(x10_3 : Int):=of_decide_eq_true (by assumption)
         have q292 : x10_3 < (l2.length : Int):=of_decide_eq_true (by assumption)
         obtain ⟨ad292,e292,hx292_0⟩:=Kd.at_int HR2.out x10_3 p292 q292
         cases e292
         replace hx292_0:=(HB.out.cell (wbl hx292_0)).trans hx292_0
         replace p292:=eq_true p292
         replace q292:=eq_true q292
         have p293 : 0≤(x10_3 : Int):=of_decide_eq_true (by assumption)
         have q293 : x10_3 < (l0_1.length : Int):=of_decide_eq_true (by assumption)
         obtain ⟨ad293,e293,hx293_0,hx293_1,hx293_2,hx293_3⟩:=at_T65 HR0_1.out x10_3 p293 q293
         obtain rfl : ad291 = ad293:=(by injection e293)
         replace hx293_0:=(HB.out.cell (wbl hx293_0)).trans hx293_0
         replace hx293_1:=(HB.out.cell (wbl hx293_1)).trans hx293_1
         replace hx293_2:=(HB.out.cell (wbl hx293_2)).trans hx293_2
         replace hx293_3:=(HB.out.cell (wbl hx293_3)).trans hx293_3
         replace p293:=eq_true p293
         replace q293:=eq_true q293
         go_wp2
         go_roundg k3
         case measure=>have:=HK1.out;have:=HK2.out;have:=HK3.out;omega
         case rel=>exact ⟨(wrap64 (x9_3 + (rd l2 x10_3))),(wrap64 (x10_3 + 1)),(by first | rfl | (simp;done) | (simp [*];done)),(by first | rfl | (simp;done) | (simp [*];done)),H',⟨by have:=HK1.out;have:=HK2.out;have:=HK3.out;omega⟩,⟨BK284.out⟩,⟨HB.out⟩⟩
        rw [if_pos c27] at H
        have c27b0 : (((rd_T65 l0_1 x10_3).f0) == x8_2) = true:=beq_iff_eq.mpr c27
        have c27b1 : (((rd_T65 l0_1 x10_3).f0) != x8_2) = false:=bne_eq_false_iff_eq.mpr c27
        clear c27
        replace H':=am H
        obtain ⟨hcz28_0,hcz28_1⟩:=cO2 BK284.out
        have p291 : 0≤(x10_3 : Int):=of_decide_eq_true (by assumption)
        have q291 : x10_3 < (l0_1.length : Int):=of_decide_eq_true (by assumption)
        obtain ⟨ad291,e291,hx291_0,hx291_1,hx291_2,hx291_3⟩:=at_T65 HR0_1.out x10_3 p291 q291
        cases e291
        replace hx291_0:=(HB.out.cell (wbl hx291_0)).trans hx291_0
        replace hx291_1:=(HB.out.cell (wbl hx291_1)).trans hx291_1
        replace hx291_2:=(HB.out.cell (wbl hx291_2)).trans hx291_2
        replace hx291_3:=(HB.out.cell (wbl hx291_3)).trans hx291_3
        replace p291:=eq_true p291
        replace q291:=eq_true q291
        have p292 : 0≤(x10_3 : Int):=of_decide_eq_true (by assumption)
        have q292 : x10_3 < (l2.length : Int):=of_decide_eq_true (by assumption)
        obtain ⟨ad292,e292,hx292_0⟩:=Kd.at_int HR2.out x10_3 p292 q292
        cases e292
        replace hx292_0:=(HB.out.cell (wbl hx292_0)).trans hx292_0
        replace p292:=eq_true p292
        replace q292:=eq_true q292
        have p293 : 0≤(x10_3 : Int):=of_decide_eq_true (by assumption)
        have q293 : x10_3 < (l0_1.length : Int):=of_decide_eq_true (by assumption)
        obtain ⟨ad293,e293,hx293_0,hx293_1,hx293_2,hx293_3⟩:=at_T65 HR0_1.out x10_3 p293 q293
        obtain rfl : ad291 = ad293:=(by injection e293)
        replace hx293_0:=(HB.out.cell (wbl hx293_0)).trans hx293_0
        replace hx293_1:=(HB.out.cell (wbl hx293_1)).trans hx293_1
        replace hx293_2:=(HB.out.cell (wbl hx293_2)).trans hx293_2
        replace hx293_3:=(HB.out.cell (wbl hx293_3)).trans hx293_3
        replace p293:=eq_true p293
        replace q293:=eq_true q293
        have p294 : 0≤(x10_3 : Int):=of_decide_eq_true (by assumption)
        have q294 : x10_3 < (l2.length : Int):=of_decide_eq_true (by assumption)
        obtain ⟨ad294,e294,hx294_0⟩:=Kd.at_int HR2.out x10_3 p294 q294
        obtain rfl : ad292 = ad294:=(by injection e294)
        replace hx294_0:=(HB.out.cell (wbl hx294_0)).trans hx294_0
        replace p294:=eq_true p294
        replace q294:=eq_true q294
        go_wp2
        go_roundg k3
        case measure=>have:=HK1.out;have:=HK2.out;have:=HK3.out;omega
        case rel=>exact ⟨(wrap64 ((wrap64 (x9_3 + (rd l2 x10_3))) - (rd l2 x10_3))),(wrap64 (x10_3 + 1)),(by first | rfl | (simp;done) | (simp [*];done)),(by first | rfl | (simp;done) | (simp [*];done)),H',⟨by have:=HK1.out;have:=HK2.out;have:=HK3.out;omega⟩,⟨BK284.out⟩,⟨HB.out⟩⟩
   rw [if_pos c5] at H
   have c5b0 : decide (x7_1 < (l2.length : Int)) = true:=decide_eq_true c5
   clear c5
   by_cases c6 : 0≤x7_1
   case neg =>
    rw [if_neg c6] at H
    exact absurd H (by simp)
   rw [if_pos c6] at H
   have c6b0 : decide (0≤x7_1) = true:=decide_eq_true c6
   clear c6
   by_cases c7 : x7_1 < (l0_1.length : Int)
   case neg =>
    rw [if_neg c7] at H
    exact absurd H (by simp)
   rw [if_pos c7] at H
   have c7b0 : decide (x7_1 < (l0_1.length : Int)) = true:=decide_eq_true c7
   clear c7
   by_cases c8 : (rd l2 x7_1) > ((rd_T65 l0_1 x7_1).f2)
   ·rw [if_pos c8] at H
    have c8b0 : decide (((rd_T65 l0_1 x7_1).f2) < (rd l2 x7_1)) = true:=decide_eq_true c8
    clear c8
    obtain rfl:=Option.some.inj H
    try go_wp2
    replace BK284:=am (blk_drew BK284.out)
    replace HB:=am (below_drew1 HB.out)
    have p285 : 0≤(x7_1 : Int):=of_decide_eq_true (by assumption)
    have q285 : x7_1 < (l2.length : Int):=of_decide_eq_true (by assumption)
    obtain ⟨ad285,e285,hx285_0⟩:=Kd.at_int HR2.out x7_1 p285 q285
    have hw285_0:=hx285_0
    cases e285
    replace hx285_0:=(HB.out.cell (wbl hx285_0)).trans hx285_0
    replace p285:=eq_true p285
    replace q285:=eq_true q285
    have p286 : 0≤(x7_1 : Int):=of_decide_eq_true (by assumption)
    have q286 : x7_1 < (l0_1.length : Int):=of_decide_eq_true (by assumption)
    obtain ⟨ad286,e286,hx286_0,hx286_1,hx286_2,hx286_3⟩:=at_T65 HR0_1.out x7_1 p286 q286
    have hw286_3:=hx286_3
    have hw286_2:=hx286_2
    have hw286_1:=hx286_1
    have hw286_0:=hx286_0
    cases e286
    replace hx286_0:=(HB.out.cell (wbl hx286_0)).trans hx286_0
    replace hx286_1:=(HB.out.cell (wbl hx286_1)).trans hx286_1
    replace hx286_2:=(HB.out.cell (wbl hx286_2)).trans hx286_2
    replace hx286_3:=(HB.out.cell (wbl hx286_3)).trans hx286_3
    replace p286:=eq_true p286
    replace q286:=eq_true q286
    refine start_ (n:=25) (S:=fun w'=>w'.cell? ⟨gb284,0,none⟩ = some (.slice A0_0 l0_0.length c0_0)∧w'.cell? ⟨gb284,1,none⟩ = some (.slice (some ad286) l0_1.length c0_1)∧w'.cell? (ad285.add (x7_1).toNat) = some (.int .i64 (rd l2 x7_1))∧w'.cell? (ad286.add ((x7_1).toNat * 4)) = some (.int .i64 ((rd_T65 l0_1 x7_1).f0))∧w'.cell? ⟨(ad286.add ((x7_1).toNat * 4)).block,(ad286.add ((x7_1).toNat * 4)).off + 1,none⟩ = some (.int .i64 ((rd_T65 l0_1 x7_1).f1))∧w'.cell? ⟨(ad286.add ((x7_1).toNat * 4)).block,(ad286.add ((x7_1).toNat * 4)).off + 2,none⟩ = some (.int .i64 ((rd_T65 l0_1 x7_1).f2))∧w'.cell? ⟨(ad286.add ((x7_1).toNat * 4)).block,(ad286.add ((x7_1).toNat * 4)).off + 3,none⟩ = some (.bool ((rd_T65 l0_1 x7_1).f3))) (ds:=[]) (ba 25 0) (by kernel_rfl) rfl rfl ⟨(blk_cell BK284.out 0).trans rfl,(blk_cell BK284.out 1).trans rfl,((HB.out.cell (wbl hw285_0)).trans hw285_0),((HB.out.cell (wbl hw286_0)).trans hw286_0),((HB.out.cell (wbl hw286_1)).trans hw286_1),((HB.out.cell (wbl hw286_2)).trans hw286_2),((HB.out.cell (wbl hw286_3)).trans hw286_3)⟩ (fun hHeld=>?_);refine with_tabW q8_Feeds.tab4 q8_Feeds.bits4 (fun HT_ HW_=>?_)
    generalize wr.drew = w9 at BK284 HB hx285_0 hx286_0 hx286_1 hx286_2 hx286_3 hHeld ⊢
    refine pure_ (i:=0) (N:=some 17) (v:=?_) (a':=?_) (ba 25 1) rfl rfl (any_of HT_.out (by kernel_rfl)) (fun _ _ _ h=>h) (Or.inl ⟨by rfl,?_⟩) ?_ ?_
    rotate_left
    ·intro w'
     go_simp
     with_reducible rfl
    rotate_left
    ·simp only [Act.put,NRM]
     rfl
    refine pure_ (i:=1) (N:=some 18) (v:=?_) (a':=?_) (ba 25 3) rfl rfl (any_of HT_.out (by kernel_rfl)) (fun _ _ _ h=>h) (Or.inl ⟨by rfl,?_⟩) ?_ ?_
    rotate_left
    ·intro w'
     go_simp
     with_reducible rfl
    rotate_left
    ·simp only [Act.put,NRM]
     rfl
    refine pure_ (i:=2) (N:=some 19) (v:=?_) (a':=?_) (ba 25 7) rfl rfl (any_of HT_.out (by kernel_rfl)) (fun _ _ _ h=>h) (Or.inl ⟨by rfl,?_⟩) ?_ ?_
    rotate_left
    ·intro w'
     go_simp
     with_reducible rfl
    rotate_left
    ·simp only [Act.put,NRM]
     rfl
    refine pure_ (i:=4) (N:=some 21) (v:=?_) (a':=?_) (ba 25 23) rfl rfl (any_of HT_.out (by kernel_rfl)) (fun _ _ _ h=>h) (Or.inl ⟨by rfl,?_⟩) ?_ ?_
    rotate_left
    ·intro w'
     go_simp
     with_reducible rfl
    rotate_left
    ·simp only [Act.put,NRM]
     rfl
    refine pure_ (i:=6) (N:=some 23) (v:=?_) (a':=?_) (ba 25 87) rfl rfl (any_of HT_.out (by kernel_rfl)) (fun _ _ _ h=>h) (Or.inl ⟨by rfl,?_⟩) ?_ ?_
    rotate_left
    ·intro w'
     go_simp
     with_reducible rfl
    rotate_left
    ·simp only [Act.put,NRM]
     rfl
    refine take_ (i:=3) (N:=some 20) (v:=?_) (a':=?_) (ba 25 95) rfl rfl (take_ofW HT_.out HW_.out (by kernel_rfl)) (fun _ _ _ h=>h) (Or.inl ⟨by rfl,?_⟩) hHeld ?_ ?_
    rotate_left
    ·rintro w' ⟨s0,s1,s2,s3,s4,s5,s6⟩
     go_simp
     with_reducible rfl
    rotate_left
    ·simp only [Act.put,NRM]
     rfl
    refine take_ (i:=5) (N:=some 22) (v:=?_) (a':=?_) (ba 25 127) rfl rfl (take_ofW HT_.out HW_.out (by kernel_rfl)) (fun _ _ _ h=>h) (Or.inl ⟨by rfl,?_⟩) hHeld ?_ ?_
    rotate_left
    ·rintro w' ⟨s0,s1,s2,s3,s4,s5,s6⟩
     go_simp
     with_reducible rfl
    rotate_left
    ·simp only [Act.put,NRM]
     rfl
    refine pure_ (i:=7) (N:=some 24) (v:=?_) (a':=?_) (ba 25 255) rfl rfl (any_of HT_.out (by kernel_rfl)) (fun _ _ _ h=>h) (Or.inl ⟨by rfl,?_⟩) ?_ ?_
    rotate_left
    ·intro w'
     go_simp
     with_reducible rfl
    rotate_left
    ·simp only [Act.put,NRM]
     rfl
    refine pure_ (i:=8) (N:=some 25) (v:=?_) (a':=?_) (ba 25 511) rfl rfl (any_of HT_.out (by kernel_rfl)) (fun _ _ _ h=>h) (Or.inl ⟨by rfl,?_⟩) ?_ ?_
    rotate_left
    ·intro w'
     go_simp
     with_reducible rfl
    rotate_left
    ·simp only [Act.put,NRM]
     rfl
    refine take_ (i:=9) (N:=some 26) (v:=?_) (a':=?_) (ba 25 1023) rfl rfl (take_ofW HT_.out HW_.out (by kernel_rfl)) (fun _ _ _ h=>h) (Or.inl ⟨by rfl,?_⟩) hHeld ?_ ?_
    rotate_left
    ·rintro w' ⟨s0,s1,s2,s3,s4,s5,s6⟩
     go_simp
     with_reducible rfl
    rotate_left
    ·simp only [Act.put,NRM]
     rfl
    refine pure_ (i:=10) (N:=some 27) (v:=?_) (a':=?_) (ba 25 2047) rfl rfl (any_of HT_.out (by kernel_rfl)) (fun _ _ _ h=>h) (Or.inl ⟨by rfl,?_⟩) ?_ ?_
    rotate_left
    ·intro w'
     go_simp
     with_reducible rfl
    rotate_left
    ·simp only [Act.put,NRM]
     rfl
    refine pure_ (i:=11) (N:=some 28) (v:=?_) (a':=?_) (ba 25 4095) rfl rfl (any_of HT_.out (by kernel_rfl)) (fun _ _ _ h=>h) (Or.inl ⟨by rfl,?_⟩) ?_ ?_
    rotate_left
    ·intro w'
     go_simp
     with_reducible rfl
    rotate_left
    ·simp only [Act.put,NRM]
     rfl
    refine pure_ (i:=12) (N:=some 29) (v:=undef) (a':=?_) (ba 25 8191) rfl rfl (any_of HT_.out (by kernel_rfl)) (fun _ _ _ h=>h) (Or.inr ⟨by rfl,rfl⟩) ?_ ?_
    rotate_left
    ·simp only [Act.put,NRM]
     rfl
    refine pure_ (i:=13) (N:=some 30) (v:=undef) (a':=?_) (ba 25 16383) rfl rfl (any_of HT_.out (by kernel_rfl)) (fun _ _ _ h=>h) (Or.inr ⟨by rfl,rfl⟩) ?_ ?_
    rotate_left
    ·simp only [Act.put,NRM]
     rfl
    refine pure_ (i:=14) (N:=some 31) (v:=undef) (a':=?_) (ba 25 32767) rfl rfl (any_of HT_.out (by kernel_rfl)) (fun _ _ _ h=>h) (Or.inr ⟨by rfl,rfl⟩) ?_ ?_
    rotate_left
    ·simp only [Act.put,NRM]
     rfl
    refine pure_ (i:=15) (N:=some 32) (v:=undef) (a':=?_) (ba 25 65535) rfl rfl (any_of HT_.out (by kernel_rfl)) (fun _ _ _ h=>h) (Or.inr ⟨by rfl,rfl⟩) ?_ ?_
    rotate_left
    ·simp only [Act.put,NRM]
     rfl
    refine pure_ (i:=16) (N:=some 33) (v:=undef) (a':=?_) (ba 25 131071) rfl rfl (any_of HT_.out (by kernel_rfl)) (fun _ _ _ h=>h) (Or.inr ⟨by rfl,rfl⟩) ?_ ?_
    rotate_left
    ·simp only [Act.put,NRM]
     rfl
    refine pure_ (i:=17) (N:=some 34) (v:=undef) (a':=?_) (ba 25 262143) rfl rfl (any_of HT_.out (by kernel_rfl)) (fun _ _ _ h=>h) (Or.inr ⟨by rfl,rfl⟩) ?_ ?_
    rotate_left
    ·simp only [Act.put,NRM]
     rfl
    refine pure_ (i:=18) (N:=some 35) (v:=undef) (a':=?_) (ba 25 524287) rfl rfl (any_of HT_.out (by kernel_rfl)) (fun _ _ _ h=>h) (Or.inr ⟨by rfl,rfl⟩) ?_ ?_
    rotate_left
    ·simp only [Act.put,NRM]
     rfl
    refine pure_ (i:=19) (N:=some 36) (v:=undef) (a':=?_) (ba 25 1048575) rfl rfl (any_of HT_.out (by kernel_rfl)) (fun _ _ _ h=>h) (Or.inr ⟨by rfl,rfl⟩) ?_ ?_
    rotate_left
    ·simp only [Act.put,NRM]
     rfl
    refine pure_ (i:=20) (N:=some 37) (v:=undef) (a':=?_) (ba 25 2097151) rfl rfl (any_of HT_.out (by kernel_rfl)) (fun _ _ _ h=>h) (Or.inr ⟨by rfl,rfl⟩) ?_ ?_
    rotate_left
    ·simp only [Act.put,NRM]
     rfl
    refine pure_ (i:=21) (N:=some 38) (v:=undef) (a':=?_) (ba 25 4194303) rfl rfl (any_of HT_.out (by kernel_rfl)) (fun _ _ _ h=>h) (Or.inr ⟨by rfl,rfl⟩) ?_ ?_
    rotate_left
    ·simp only [Act.put,NRM]
     rfl
    refine pure_ (i:=22) (N:=some 39) (v:=undef) (a':=?_) (ba 25 8388607) rfl rfl (any_of HT_.out (by kernel_rfl)) (fun _ _ _ h=>h) (Or.inr ⟨by rfl,rfl⟩) ?_ ?_
    rotate_left
    ·simp only [Act.put,NRM]
     rfl
    refine pure_ (i:=23) (N:=some 40) (v:=undef) (a':=?_) (ba 25 16777215) rfl rfl (any_of HT_.out (by kernel_rfl)) (fun _ _ _ h=>h) (Or.inr ⟨by rfl,rfl⟩) ?_ ?_
    rotate_left
    ·simp only [Act.put,NRM]
     rfl
    refine pure_ (i:=24) (N:=some 41) (v:=?_) (a':=?_) (ba 25 33554431) rfl rfl (any_of HT_.out (by kernel_rfl)) (fun _ _ _ h=>h) (Or.inl ⟨by rfl,?_⟩) ?_ ?_
    rotate_left
    ·intro w'
     go_simp
     with_reducible rfl
    rotate_left
    ·simp only [Act.put,NRM]
     rfl
    refine done_ (done_of HT_.out (by kernel_rfl)) ?_
    try go_wp2
    go_ret
    exact ⟨by first | rfl | (simp [*]<;>rfl),HB.out⟩
   ·rw [if_neg c8] at H
    have c8b0 : decide (((rd_T65 l0_1 x7_1).f2) < (rd l2 x7_1)) = false:=decide_eq_false c8
    clear c8
    replace H:=obm H
    obtain ⟨t287,A100,H⟩:=H
    replace H : (if t287 = true then (q8_Feeds.l0 k1 l1 l2 (wrap64 (x7_1 + 1)) l0_0 l0_1) else (if (rd l2 x7_1) = 0 then (q8_Feeds.l0 k1 l1 l2 (wrap64 (x7_1 + 1)) l0_0 l0_1) else (some false))) = some r:=H
    have A10:=am A100
    clear A100
    by_cases c11 : t287 = true
    ·subst c11
     replace H : (q8_Feeds.l0 k1 l1 l2 (wrap64 (x7_1 + 1)) l0_0 l0_1) = some r:=by rw [if_pos rfl] at H;exact H
     replace H':=am H
     try go_wp2
     replace BK284:=am (blk_drew BK284.out)
     replace HB:=am (below_drew1 HB.out)
     have p285 : 0≤(x7_1 : Int):=of_decide_eq_true (by assumption)
     have q285 : x7_1 < (l2.length : Int):=of_decide_eq_true (by assumption)
     obtain ⟨ad285,e285,hx285_0⟩:=Kd.at_int HR2.out x7_1 p285 q285
     have hw285_0:=hx285_0
     cases e285
     replace hx285_0:=(HB.out.cell (wbl hx285_0)).trans hx285_0
     replace p285:=eq_true p285
     replace q285:=eq_true q285
     have p286 : 0≤(x7_1 : Int):=of_decide_eq_true (by assumption)
     have q286 : x7_1 < (l0_1.length : Int):=of_decide_eq_true (by assumption)
     obtain ⟨ad286,e286,hx286_0,hx286_1,hx286_2,hx286_3⟩:=at_T65 HR0_1.out x7_1 p286 q286
     have hw286_3:=hx286_3
     have hw286_2:=hx286_2
     have hw286_1:=hx286_1
     have hw286_0:=hx286_0
     cases e286
     replace hx286_0:=(HB.out.cell (wbl hx286_0)).trans hx286_0
     replace hx286_1:=(HB.out.cell (wbl hx286_1)).trans hx286_1
     replace hx286_2:=(HB.out.cell (wbl hx286_2)).trans hx286_2
     replace hx286_3:=(HB.out.cell (wbl hx286_3)).trans hx286_3
     replace p286:=eq_true p286
     replace q286:=eq_true q286
     refine start_ (n:=25) (S:=fun w'=>w'.cell? ⟨gb284,0,none⟩ = some (.slice A0_0 l0_0.length c0_0)∧w'.cell? ⟨gb284,1,none⟩ = some (.slice (some ad286) l0_1.length c0_1)∧w'.cell? (ad285.add (x7_1).toNat) = some (.int .i64 (rd l2 x7_1))∧w'.cell? (ad286.add ((x7_1).toNat * 4)) = some (.int .i64 ((rd_T65 l0_1 x7_1).f0))∧w'.cell? ⟨(ad286.add ((x7_1).toNat * 4)).block,(ad286.add ((x7_1).toNat * 4)).off + 1,none⟩ = some (.int .i64 ((rd_T65 l0_1 x7_1).f1))∧w'.cell? ⟨(ad286.add ((x7_1).toNat * 4)).block,(ad286.add ((x7_1).toNat * 4)).off + 2,none⟩ = some (.int .i64 ((rd_T65 l0_1 x7_1).f2))∧w'.cell? ⟨(ad286.add ((x7_1).toNat * 4)).block,(ad286.add ((x7_1).toNat * 4)).off + 3,none⟩ = some (.bool ((rd_T65 l0_1 x7_1).f3))) (ds:=[]) (ba 25 0) (by kernel_rfl) rfl rfl ⟨(blk_cell BK284.out 0).trans rfl,(blk_cell BK284.out 1).trans rfl,((HB.out.cell (wbl hw285_0)).trans hw285_0),((HB.out.cell (wbl hw286_0)).trans hw286_0),((HB.out.cell (wbl hw286_1)).trans hw286_1),((HB.out.cell (wbl hw286_2)).trans hw286_2),((HB.out.cell (wbl hw286_3)).trans hw286_3)⟩ (fun hHeld=>?_);refine with_tabW q8_Feeds.tab4 q8_Feeds.bits4 (fun HT_ HW_=>?_)
     generalize wr.drew = w12 at BK284 HB hx285_0 hx286_0 hx286_1 hx286_2 hx286_3 hHeld ⊢
     refine pure_ (i:=0) (N:=some 17) (v:=?_) (a':=?_) (ba 25 1) rfl rfl (any_of HT_.out (by kernel_rfl)) (fun _ _ _ h=>h) (Or.inl ⟨by rfl,?_⟩) ?_ ?_
     rotate_left
     ·intro w'
      go_simp
      with_reducible rfl
     rotate_left
     ·simp only [Act.put,NRM]
      rfl
     refine pure_ (i:=1) (N:=some 18) (v:=?_) (a':=?_) (ba 25 3) rfl rfl (any_of HT_.out (by kernel_rfl)) (fun _ _ _ h=>h) (Or.inl ⟨by rfl,?_⟩) ?_ ?_
     rotate_left
     ·intro w'
      go_simp
      with_reducible rfl
     rotate_left
     ·simp only [Act.put,NRM]
      rfl
     refine pure_ (i:=2) (N:=some 19) (v:=?_) (a':=?_) (ba 25 7) rfl rfl (any_of HT_.out (by kernel_rfl)) (fun _ _ _ h=>h) (Or.inl ⟨by rfl,?_⟩) ?_ ?_
     rotate_left
     ·intro w'
      go_simp
      with_reducible rfl
     rotate_left
     ·simp only [Act.put,NRM]
      rfl
     refine pure_ (i:=4) (N:=some 21) (v:=?_) (a':=?_) (ba 25 23) rfl rfl (any_of HT_.out (by kernel_rfl)) (fun _ _ _ h=>h) (Or.inl ⟨by rfl,?_⟩) ?_ ?_
     rotate_left
     ·intro w'
      go_simp
      with_reducible rfl
     rotate_left
     ·simp only [Act.put,NRM]
      rfl
     refine pure_ (i:=6) (N:=some 23) (v:=?_) (a':=?_) (ba 25 87) rfl rfl (any_of HT_.out (by kernel_rfl)) (fun _ _ _ h=>h) (Or.inl ⟨by rfl,?_⟩) ?_ ?_
     rotate_left
     ·intro w'
      go_simp
      with_reducible rfl
     rotate_left
     ·simp only [Act.put,NRM]
      rfl
     refine take_ (i:=3) (N:=some 20) (v:=?_) (a':=?_) (ba 25 95) rfl rfl (take_ofW HT_.out HW_.out (by kernel_rfl)) (fun _ _ _ h=>h) (Or.inl ⟨by rfl,?_⟩) hHeld ?_ ?_
     rotate_left
     ·rintro w' ⟨s0,s1,s2,s3,s4,s5,s6⟩
      go_simp
      with_reducible rfl
     rotate_left
     ·simp only [Act.put,NRM]
      rfl
     refine take_ (i:=5) (N:=some 22) (v:=?_) (a':=?_) (ba 25 127) rfl rfl (take_ofW HT_.out HW_.out (by kernel_rfl)) (fun _ _ _ h=>h) (Or.inl ⟨by rfl,?_⟩) hHeld ?_ ?_
     rotate_left
     ·rintro w' ⟨s0,s1,s2,s3,s4,s5,s6⟩
      go_simp
      with_reducible rfl
     rotate_left
     ·simp only [Act.put,NRM]
      rfl
     refine pure_ (i:=7) (N:=some 24) (v:=?_) (a':=?_) (ba 25 255) rfl rfl (any_of HT_.out (by kernel_rfl)) (fun _ _ _ h=>h) (Or.inl ⟨by rfl,?_⟩) ?_ ?_
     rotate_left
     ·intro w'
      go_simp
      with_reducible rfl
     rotate_left
     ·simp only [Act.put,NRM]
      rfl
     refine pure_ (i:=8) (N:=some 25) (v:=?_) (a':=?_) (ba 25 511) rfl rfl (any_of HT_.out (by kernel_rfl)) (fun _ _ _ h=>h) (Or.inl ⟨by rfl,?_⟩) ?_ ?_
     rotate_left
     ·intro w'
      go_simp
      with_reducible rfl
     rotate_left
     ·simp only [Act.put,NRM]
      rfl
     refine take_ (i:=9) (N:=some 26) (v:=?_) (a':=?_) (ba 25 1023) rfl rfl (take_ofW HT_.out HW_.out (by kernel_rfl)) (fun _ _ _ h=>h) (Or.inl ⟨by rfl,?_⟩) hHeld ?_ ?_
     rotate_left
     ·rintro w' ⟨s0,s1,s2,s3,s4,s5,s6⟩
      go_simp
      with_reducible rfl
     rotate_left
     ·simp only [Act.put,NRM]
      rfl
     refine pure_ (i:=10) (N:=some 27) (v:=?_) (a':=?_) (ba 25 2047) rfl rfl (any_of HT_.out (by kernel_rfl)) (fun _ _ _ h=>h) (Or.inl ⟨by rfl,?_⟩) ?_ ?_
     rotate_left
     ·intro w'
      go_simp
      with_reducible rfl
     rotate_left
     ·simp only [Act.put,NRM]
      rfl
     refine pure_ (i:=11) (N:=some 28) (v:=?_) (a':=?_) (ba 25 4095) rfl rfl (any_of HT_.out (by kernel_rfl)) (fun _ _ _ h=>h) (Or.inl ⟨by rfl,?_⟩) ?_ ?_
     rotate_left
     ·intro w'
      go_simp
      with_reducible rfl
     rotate_left
     ·simp only [Act.put,NRM]
      rfl
     refine pure_ (i:=13) (N:=some 30) (v:=?_) (a':=?_) (ba 25 12287) rfl rfl (any_of HT_.out (by kernel_rfl)) (fun _ _ _ h=>h) (Or.inl ⟨by rfl,?_⟩) ?_ ?_
     rotate_left
     ·intro w'
      go_simp
      with_reducible rfl
     rotate_left
     ·simp only [Act.put,NRM]
      rfl
     refine pure_ (i:=14) (N:=some 31) (v:=?_) (a':=?_) (ba 25 28671) rfl rfl (any_of HT_.out (by kernel_rfl)) (fun _ _ _ h=>h) (Or.inl ⟨by rfl,?_⟩) ?_ ?_
     rotate_left
     ·intro w'
      go_simp
      with_reducible rfl
     rotate_left
     ·simp only [Act.put,NRM]
      rfl
     refine take_ (i:=12) (N:=some 29) (v:=?_) (a':=?_) (ba 25 32767) rfl rfl (take_ofW HT_.out HW_.out (by kernel_rfl)) (fun _ _ _ h=>h) (Or.inl ⟨by rfl,?_⟩) hHeld ?_ ?_
     rotate_left
     ·rintro w' ⟨s0,s1,s2,s3,s4,s5,s6⟩
      go_simp
      with_reducible rfl
     rotate_left
     ·simp only [Act.put,NRM]
      rfl
     refine one_ (i:=15) (N:=some 32) (ba 25 65535) rfl rfl (one_of HT_.out (by kernel_rfl)) (by decide) (fun K hK=>?_)
     refine goes_ Tryz.func64 (by kernel_rfl) rfl #[.agg #[.slice A0_0 l0_0.length c0_0,.slice (some ad286) l0_1.length c0_1],.slice A1 l1.length c1,.int .i64 x7_1] (by rfl) rfl rfl (by (try simp only [List.map_toArray,List.map_cons,List.map_nil]);first | done | rfl | (simp only [List.length_drop,List.length_take];rfl)) ?_
     with_reducible refine (q8_Open.calls k1 _ _ l0_0 _ _ l0_1 _ _ l1 x7_1 true _ ?side1 ?side2 ?side3 ?side4 ?side5 ?side6 A10.out).mono ?_
     (case side1=>exact kC HR0_0.out HB.out)
     (case side2=>exact HC0_0.out)
     (case side3=>exact kC HR0_1.out HB.out)
     (case side4=>exact HC0_1.out)
     (case side5=>exact kC HR1.out HB.out)
     (case side6=>exact HC1.out)
     rintro e w13 ⟨rfl,hb⟩
     refine ⟨_,rfl,?_⟩
     replace BK284:=(kmv hb BK284)
     replace HB:=am (below_step (HB.out) hb)
     (try clear hb)
     (try clear hb2)
     (try clear hk)
     (try clear hi)
     refine hK.out _ _ ⟨(blk_cell BK284.out 0).trans rfl,(blk_cell BK284.out 1).trans rfl,((HB.out.cell (wbl hw285_0)).trans hw285_0),((HB.out.cell (wbl hw286_0)).trans hw286_0),((HB.out.cell (wbl hw286_1)).trans hw286_1),((HB.out.cell (wbl hw286_2)).trans hw286_2),((HB.out.cell (wbl hw286_3)).trans hw286_3)⟩ (fun hHeld=>?_)
     clear hK K
     refine norm_ (a':=?_) ?_ ?_
     rotate_left
     ·show Act.put _ (some 32) _ = _
      simp only [Act.put,NRM]
      rfl
     refine pure_ (i:=16) (N:=some 33) (v:=?_) (a':=?_) (ba 25 131071) rfl rfl (any_of HT_.out (by kernel_rfl)) (fun _ _ _ h=>h) (Or.inl ⟨by rfl,?_⟩) ?_ ?_
     rotate_left
     ·intro w'
      go_simp
      with_reducible rfl
     rotate_left
     ·simp only [Act.put,NRM]
      rfl
     refine pure_ (i:=17) (N:=some 34) (v:=?_) (a':=?_) (ba 25 262143) rfl rfl (any_of HT_.out (by kernel_rfl)) (fun _ _ _ h=>h) (Or.inl ⟨by rfl,?_⟩) ?_ ?_
     rotate_left
     ·intro w'
      go_simp
      with_reducible rfl
     rotate_left
     ·simp only [Act.put,NRM]
      rfl
     refine pure_ (i:=18) (N:=some 35) (v:=undef) (a':=?_) (ba 25 524287) rfl rfl (any_of HT_.out (by kernel_rfl)) (fun _ _ _ h=>h) (Or.inr ⟨by rfl,rfl⟩) ?_ ?_
     rotate_left
     ·simp only [Act.put,NRM]
      rfl
     refine pure_ (i:=19) (N:=some 36) (v:=undef) (a':=?_) (ba 25 1048575) rfl rfl (any_of HT_.out (by kernel_rfl)) (fun _ _ _ h=>h) (Or.inr ⟨by rfl,rfl⟩) ?_ ?_
     rotate_left
     ·simp only [Act.put,NRM]
      rfl
     refine pure_ (i:=20) (N:=some 37) (v:=undef) (a':=?_) (ba 25 2097151) rfl rfl (any_of HT_.out (by kernel_rfl)) (fun _ _ _ h=>h) (Or.inr ⟨by rfl,rfl⟩) ?_ ?_
     rotate_left
     ·simp only [Act.put,NRM]
      rfl
     refine pure_ (i:=21) (N:=some 38) (v:=undef) (a':=?_) (ba 25 4194303) rfl rfl (any_of HT_.out (by kernel_rfl)) (fun _ _ _ h=>h) (Or.inr ⟨by rfl,rfl⟩) ?_ ?_
     rotate_left
     ·simp only [Act.put,NRM]
      rfl
     refine pure_ (i:=22) (N:=some 39) (v:=undef) (a':=?_) (ba 25 8388607) rfl rfl (any_of HT_.out (by kernel_rfl)) (fun _ _ _ h=>h) (Or.inr ⟨by rfl,rfl⟩) ?_ ?_
     rotate_left
     ·simp only [Act.put,NRM]
      rfl
     refine pure_ (i:=23) (N:=some 40) (v:=?_) (a':=?_) (ba 25 16777215) rfl rfl (any_of HT_.out (by kernel_rfl)) (fun _ _ _ h=>h) (Or.inl ⟨by rfl,?_⟩) ?_ ?_
     rotate_left
     ·intro w'
      go_simp
      with_reducible rfl
     rotate_left
     ·simp only [Act.put,NRM]
      rfl
     refine pure_ (i:=24) (N:=some 41) (v:=?_) (a':=?_) (ba 25 33554431) rfl rfl (any_of HT_.out (by kernel_rfl)) (fun _ _ _ h=>h) (Or.inl ⟨by rfl,?_⟩) ?_ ?_
     rotate_left
     ·intro w'
      go_simp
      with_reducible rfl
     rotate_left
     ·simp only [Act.put,NRM]
      rfl
     refine done_ (done_of HT_.out (by kernel_rfl)) ?_
     try go_wp2
     go_roundg k1
     case measure=>have:=HK1.out;omega
     case rel=>exact ⟨(wrap64 (x7_1 + 1)),(by first | rfl | (simp;done) | (simp [*];done)),H',⟨by have:=HK1.out;omega⟩,⟨BK284.out⟩,⟨HB.out⟩⟩
    ·replace c11:=Bool.eq_false_iff.mpr c11
     subst c11
     replace H : (if (rd l2 x7_1) = 0 then (q8_Feeds.l0 k1 l1 l2 (wrap64 (x7_1 + 1)) l0_0 l0_1) else (some false)) = some r:=by rw [if_neg (show ¬ (false = true) by decide)] at H;exact H
     by_cases c14 : (rd l2 x7_1) = 0
     case neg =>
      rw [if_neg c14] at H
      have c14b0 : ((rd l2 x7_1) == 0) = false:=beq_eq_false_iff_ne.mpr c14
      have c14b1 : ((rd l2 x7_1) != 0) = true:=bne_iff_ne.mpr c14
      obtain rfl:=Option.some.inj H
      try go_wp2
      replace BK284:=am (blk_drew BK284.out)
      replace HB:=am (below_drew1 HB.out)
      have p285 : 0≤(x7_1 : Int):=of_decide_eq_true (by assumption)
      have q285 : x7_1 < (l2.length : Int):=of_decide_eq_true (by assumption)
      obtain ⟨ad285,e285,hx285_0⟩:=Kd.at_int HR2.out x7_1 p285 q285
      have hw285_0:=hx285_0
      cases e285
      replace hx285_0:=(HB.out.cell (wbl hx285_0)).trans hx285_0
      replace p285:=eq_true p285
      replace q285:=eq_true q285
      have p286 : 0≤(x7_1 : Int):=of_decide_eq_true (by assumption)
      have q286 : x7_1 < (l0_1.length : Int):=of_decide_eq_true (by assumption)
      obtain ⟨ad286,e286,hx286_0,hx286_1,hx286_2,hx286_3⟩:=at_T65 HR0_1.out x7_1 p286 q286
      have hw286_3:=hx286_3
      have hw286_2:=hx286_2
      have hw286_1:=hx286_1
      have hw286_0:=hx286_0
      cases e286
      replace hx286_0:=(HB.out.cell (wbl hx286_0)).trans hx286_0
      replace hx286_1:=(HB.out.cell (wbl hx286_1)).trans hx286_1
      replace hx286_2:=(HB.out.cell (wbl hx286_2)).trans hx286_2
      replace hx286_3:=(HB.out.cell (wbl hx286_3)).trans hx286_3
      replace p286:=eq_true p286
      replace q286:=eq_true q286
      have p288 : 0≤(x7_1 : Int):=of_decide_eq_true (by assumption)
      have q288 : x7_1 < (l2.length : Int):=of_decide_eq_true (by assumption)
      obtain ⟨ad288,e288,hx288_0⟩:=Kd.at_int HR2.out x7_1 p288 q288
      have hw288_0:=hx288_0
      obtain rfl : ad285 = ad288:=(by injection e288)
      replace hx288_0:=(HB.out.cell (wbl hx288_0)).trans hx288_0
      replace p288:=eq_true p288
      replace q288:=eq_true q288
      refine start_ (n:=25) (S:=fun w'=>w'.cell? ⟨gb284,0,none⟩ = some (.slice A0_0 l0_0.length c0_0)∧w'.cell? ⟨gb284,1,none⟩ = some (.slice (some ad286) l0_1.length c0_1)∧w'.cell? (ad285.add (x7_1).toNat) = some (.int .i64 (rd l2 x7_1))∧w'.cell? (ad286.add ((x7_1).toNat * 4)) = some (.int .i64 ((rd_T65 l0_1 x7_1).f0))∧w'.cell? ⟨(ad286.add ((x7_1).toNat * 4)).block,(ad286.add ((x7_1).toNat * 4)).off + 1,none⟩ = some (.int .i64 ((rd_T65 l0_1 x7_1).f1))∧w'.cell? ⟨(ad286.add ((x7_1).toNat * 4)).block,(ad286.add ((x7_1).toNat * 4)).off + 2,none⟩ = some (.int .i64 ((rd_T65 l0_1 x7_1).f2))∧w'.cell? ⟨(ad286.add ((x7_1).toNat * 4)).block,(ad286.add ((x7_1).toNat * 4)).off + 3,none⟩ = some (.bool ((rd_T65 l0_1 x7_1).f3))∧w'.cell? (ad285.add (x7_1).toNat) = some (.int .i64 (rd l2 x7_1))) (ds:=[]) (ba 25 0) (by kernel_rfl) rfl rfl ⟨(blk_cell BK284.out 0).trans rfl,(blk_cell BK284.out 1).trans rfl,((HB.out.cell (wbl hw285_0)).trans hw285_0),((HB.out.cell (wbl hw286_0)).trans hw286_0),((HB.out.cell (wbl hw286_1)).trans hw286_1),((HB.out.cell (wbl hw286_2)).trans hw286_2),((HB.out.cell (wbl hw286_3)).trans hw286_3),((HB.out.cell (wbl hw288_0)).trans hw288_0)⟩ (fun hHeld=>?_);refine with_tabW q8_Feeds.tab4 q8_Feeds.bits4 (fun HT_ HW_=>?_)
      generalize wr.drew = w17 at BK284 HB hx285_0 hx286_0 hx286_1 hx286_2 hx286_3 hx288_0 hHeld ⊢
      refine pure_ (i:=0) (N:=some 17) (v:=?_) (a':=?_) (ba 25 1) rfl rfl (any_of HT_.out (by kernel_rfl)) (fun _ _ _ h=>h) (Or.inl ⟨by rfl,?_⟩) ?_ ?_
      rotate_left
      ·intro w'
       go_simp
       with_reducible rfl
      rotate_left
      ·simp only [Act.put,NRM]
       rfl
      refine pure_ (i:=1) (N:=some 18) (v:=?_) (a':=?_) (ba 25 3) rfl rfl (any_of HT_.out (by kernel_rfl)) (fun _ _ _ h=>h) (Or.inl ⟨by rfl,?_⟩) ?_ ?_
      rotate_left
      ·intro w'
       go_simp
       with_reducible rfl
      rotate_left
      ·simp only [Act.put,NRM]
       rfl
      refine pure_ (i:=2) (N:=some 19) (v:=?_) (a':=?_) (ba 25 7) rfl rfl (any_of HT_.out (by kernel_rfl)) (fun _ _ _ h=>h) (Or.inl ⟨by rfl,?_⟩) ?_ ?_
      rotate_left
      ·intro w'
       go_simp
       with_reducible rfl
      rotate_left
      ·simp only [Act.put,NRM]
       rfl
      refine pure_ (i:=4) (N:=some 21) (v:=?_) (a':=?_) (ba 25 23) rfl rfl (any_of HT_.out (by kernel_rfl)) (fun _ _ _ h=>h) (Or.inl ⟨by rfl,?_⟩) ?_ ?_
      rotate_left
      ·intro w'
       go_simp
       with_reducible rfl
      rotate_left
      ·simp only [Act.put,NRM]
       rfl
      refine pure_ (i:=6) (N:=some 23) (v:=?_) (a':=?_) (ba 25 87) rfl rfl (any_of HT_.out (by kernel_rfl)) (fun _ _ _ h=>h) (Or.inl ⟨by rfl,?_⟩) ?_ ?_
      rotate_left
      ·intro w'
       go_simp
       with_reducible rfl
      rotate_left
      ·simp only [Act.put,NRM]
       rfl
      refine take_ (i:=3) (N:=some 20) (v:=?_) (a':=?_) (ba 25 95) rfl rfl (take_ofW HT_.out HW_.out (by kernel_rfl)) (fun _ _ _ h=>h) (Or.inl ⟨by rfl,?_⟩) hHeld ?_ ?_
      rotate_left
      ·rintro w' ⟨s0,s1,s2,s3,s4,s5,s6,s7⟩
       go_simp
       with_reducible rfl
      rotate_left
      ·simp only [Act.put,NRM]
       rfl
      refine take_ (i:=5) (N:=some 22) (v:=?_) (a':=?_) (ba 25 127) rfl rfl (take_ofW HT_.out HW_.out (by kernel_rfl)) (fun _ _ _ h=>h) (Or.inl ⟨by rfl,?_⟩) hHeld ?_ ?_
      rotate_left
      ·rintro w' ⟨s0,s1,s2,s3,s4,s5,s6,s7⟩
       go_simp
       with_reducible rfl
      rotate_left
      ·simp only [Act.put,NRM]
       rfl
      refine pure_ (i:=7) (N:=some 24) (v:=?_) (a':=?_) (ba 25 255) rfl rfl (any_of HT_.out (by kernel_rfl)) (fun _ _ _ h=>h) (Or.inl ⟨by rfl,?_⟩) ?_ ?_
      rotate_left
      ·intro w'
       go_simp
       with_reducible rfl
      rotate_left
      ·simp only [Act.put,NRM]
       rfl
      refine pure_ (i:=8) (N:=some 25) (v:=?_) (a':=?_) (ba 25 511) rfl rfl (any_of HT_.out (by kernel_rfl)) (fun _ _ _ h=>h) (Or.inl ⟨by rfl,?_⟩) ?_ ?_
      rotate_left
      ·intro w'
       go_simp
       with_reducible rfl
      rotate_left
      ·simp only [Act.put,NRM]
       rfl
      refine take_ (i:=9) (N:=some 26) (v:=?_) (a':=?_) (ba 25 1023) rfl rfl (take_ofW HT_.out HW_.out (by kernel_rfl)) (fun _ _ _ h=>h) (Or.inl ⟨by rfl,?_⟩) hHeld ?_ ?_
      rotate_left
      ·rintro w' ⟨s0,s1,s2,s3,s4,s5,s6,s7⟩
       go_simp
       with_reducible rfl
      rotate_left
      ·simp only [Act.put,NRM]
       rfl
      refine pure_ (i:=10) (N:=some 27) (v:=?_) (a':=?_) (ba 25 2047) rfl rfl (any_of HT_.out (by kernel_rfl)) (fun _ _ _ h=>h) (Or.inl ⟨by rfl,?_⟩) ?_ ?_
      rotate_left
      ·intro w'
       go_simp
       with_reducible rfl
      rotate_left
      ·simp only [Act.put,NRM]
       rfl
      refine pure_ (i:=11) (N:=some 28) (v:=?_) (a':=?_) (ba 25 4095) rfl rfl (any_of HT_.out (by kernel_rfl)) (fun _ _ _ h=>h) (Or.inl ⟨by rfl,?_⟩) ?_ ?_
      rotate_left
      ·intro w'
       go_simp
       with_reducible rfl
      rotate_left
      ·simp only [Act.put,NRM]
       rfl
      refine pure_ (i:=13) (N:=some 30) (v:=?_) (a':=?_) (ba 25 12287) rfl rfl (any_of HT_.out (by kernel_rfl)) (fun _ _ _ h=>h) (Or.inl ⟨by rfl,?_⟩) ?_ ?_
      rotate_left
      ·intro w'
       go_simp
       with_reducible rfl
      rotate_left
      ·simp only [Act.put,NRM]
       rfl
      refine pure_ (i:=14) (N:=some 31) (v:=?_) (a':=?_) (ba 25 28671) rfl rfl (any_of HT_.out (by kernel_rfl)) (fun _ _ _ h=>h) (Or.inl ⟨by rfl,?_⟩) ?_ ?_
      rotate_left
      ·intro w'
       go_simp
       with_reducible rfl
      rotate_left
      ·simp only [Act.put,NRM]
       rfl
      refine take_ (i:=12) (N:=some 29) (v:=?_) (a':=?_) (ba 25 32767) rfl rfl (take_ofW HT_.out HW_.out (by kernel_rfl)) (fun _ _ _ h=>h) (Or.inl ⟨by rfl,?_⟩) hHeld ?_ ?_
      rotate_left
      ·rintro w' ⟨s0,s1,s2,s3,s4,s5,s6,s7⟩
       go_simp
       with_reducible rfl
      rotate_left
      ·simp only [Act.put,NRM]
       rfl
      refine one_ (i:=15) (N:=some 32) (ba 25 65535) rfl rfl (one_of HT_.out (by kernel_rfl)) (by decide) (fun K hK=>?_)
      refine goes_ Tryz.func64 (by kernel_rfl) rfl #[.agg #[.slice A0_0 l0_0.length c0_0,.slice (some ad286) l0_1.length c0_1],.slice A1 l1.length c1,.int .i64 x7_1] (by rfl) rfl rfl (by (try simp only [List.map_toArray,List.map_cons,List.map_nil]);first | done | rfl | (simp only [List.length_drop,List.length_take];rfl)) ?_
      with_reducible refine (q8_Open.calls k1 _ _ l0_0 _ _ l0_1 _ _ l1 x7_1 false _ ?side1 ?side2 ?side3 ?side4 ?side5 ?side6 A10.out).mono ?_
      (case side1=>exact kC HR0_0.out HB.out)
      (case side2=>exact HC0_0.out)
      (case side3=>exact kC HR0_1.out HB.out)
      (case side4=>exact HC0_1.out)
      (case side5=>exact kC HR1.out HB.out)
      (case side6=>exact HC1.out)
      rintro e w18 ⟨rfl,hb⟩
      refine ⟨_,rfl,?_⟩
      replace BK284:=(kmv hb BK284)
      replace HB:=am (below_step (HB.out) hb)
      (try clear hb)
      (try clear hb2)
      (try clear hk)
      (try clear hi)
      refine hK.out _ _ ⟨(blk_cell BK284.out 0).trans rfl,(blk_cell BK284.out 1).trans rfl,((HB.out.cell (wbl hw285_0)).trans hw285_0),((HB.out.cell (wbl hw286_0)).trans hw286_0),((HB.out.cell (wbl hw286_1)).trans hw286_1),((HB.out.cell (wbl hw286_2)).trans hw286_2),((HB.out.cell (wbl hw286_3)).trans hw286_3),((HB.out.cell (wbl hw288_0)).trans hw288_0)⟩ (fun hHeld=>?_)
      clear hK K
      refine norm_ (a':=?_) ?_ ?_
      rotate_left
      ·show Act.put _ (some 32) _ = _
       simp only [Act.put,NRM]
       rfl
      refine pure_ (i:=16) (N:=some 33) (v:=?_) (a':=?_) (ba 25 131071) rfl rfl (any_of HT_.out (by kernel_rfl)) (fun _ _ _ h=>h) (Or.inl ⟨by rfl,?_⟩) ?_ ?_
      rotate_left
      ·intro w'
       go_simp
       with_reducible rfl
      rotate_left
      ·simp only [Act.put,NRM]
       rfl
      refine pure_ (i:=17) (N:=some 34) (v:=?_) (a':=?_) (ba 25 262143) rfl rfl (any_of HT_.out (by kernel_rfl)) (fun _ _ _ h=>h) (Or.inl ⟨by rfl,?_⟩) ?_ ?_
      rotate_left
      ·intro w'
       go_simp
       with_reducible rfl
      rotate_left
      ·simp only [Act.put,NRM]
       rfl
      refine pure_ (i:=18) (N:=some 35) (v:=?_) (a':=?_) (ba 25 524287) rfl rfl (any_of HT_.out (by kernel_rfl)) (fun _ _ _ h=>h) (Or.inl ⟨by rfl,?_⟩) ?_ ?_
      rotate_left
      ·intro w'
       go_simp
       with_reducible rfl
      rotate_left
      ·simp only [Act.put,NRM]
       rfl
      refine pure_ (i:=19) (N:=some 36) (v:=?_) (a':=?_) (ba 25 1048575) rfl rfl (any_of HT_.out (by kernel_rfl)) (fun _ _ _ h=>h) (Or.inl ⟨by rfl,?_⟩) ?_ ?_
      rotate_left
      ·intro w'
       go_simp
       with_reducible rfl
      rotate_left
      ·simp only [Act.put,NRM]
       rfl
      refine pure_ (i:=20) (N:=some 37) (v:=?_) (a':=?_) (ba 25 2097151) rfl rfl (any_of HT_.out (by kernel_rfl)) (fun _ _ _ h=>h) (Or.inl ⟨by rfl,?_⟩) ?_ ?_
      rotate_left
      ·intro w'
       go_simp
       with_reducible rfl
      rotate_left
      ·simp only [Act.put,NRM]
       rfl
      refine take_ (i:=21) (N:=some 38) (v:=?_) (a':=?_) (ba 25 4194303) rfl rfl (take_ofW HT_.out HW_.out (by kernel_rfl)) (fun _ _ _ h=>h) (Or.inl ⟨by rfl,?_⟩) hHeld ?_ ?_
      rotate_left
      ·rintro w' ⟨s0,s1,s2,s3,s4,s5,s6,s7⟩
       go_simp
       with_reducible rfl
      rotate_left
      ·simp only [Act.put,NRM]
       rfl
      refine pure_ (i:=22) (N:=some 39) (v:=?_) (a':=?_) (ba 25 8388607) rfl rfl (any_of HT_.out (by kernel_rfl)) (fun _ _ _ h=>h) (Or.inl ⟨by rfl,?_⟩) ?_ ?_
      rotate_left
      ·intro w'
       go_simp
       with_reducible rfl
      rotate_left
      ·simp only [Act.put,NRM]
       rfl
      refine pure_ (i:=23) (N:=some 40) (v:=?_) (a':=?_) (ba 25 16777215) rfl rfl (any_of HT_.out (by kernel_rfl)) (fun _ _ _ h=>h) (Or.inl ⟨by rfl,?_⟩) ?_ ?_
      rotate_left
      ·intro w'
       go_simp
       with_reducible rfl
      rotate_left
      ·simp only [Act.put,NRM]
       rfl
      refine pure_ (i:=24) (N:=some 41) (v:=?_) (a':=?_) (ba 25 33554431) rfl rfl (any_of HT_.out (by kernel_rfl)) (fun _ _ _ h=>h) (Or.inl ⟨by rfl,?_⟩) ?_ ?_
      rotate_left
      ·intro w'
       go_simp
       with_reducible rfl
      rotate_left
      ·simp only [Act.put,NRM]
       rfl
      refine done_ (done_of HT_.out (by kernel_rfl)) ?_
      try go_wp2
      go_ret
      exact ⟨by first | rfl | (simp [*]<;>rfl),HB.out⟩
     rw [if_pos c14] at H
     have c14b0 : ((rd l2 x7_1) == 0) = true:=beq_iff_eq.mpr c14
     have c14b1 : ((rd l2 x7_1) != 0) = false:=bne_eq_false_iff_eq.mpr c14
     clear c14
     replace H':=am H
     try go_wp2
     replace BK284:=am (blk_drew BK284.out)
     replace HB:=am (below_drew1 HB.out)
     have p285 : 0≤(x7_1 : Int):=of_decide_eq_true (by assumption)
     have q285 : x7_1 < (l2.length : Int):=of_decide_eq_true (by assumption)
     obtain ⟨ad285,e285,hx285_0⟩:=Kd.at_int HR2.out x7_1 p285 q285
     have hw285_0:=hx285_0
     cases e285
     replace hx285_0:=(HB.out.cell (wbl hx285_0)).trans hx285_0
     replace p285:=eq_true p285
     replace q285:=eq_true q285
     have p286 : 0≤(x7_1 : Int):=of_decide_eq_true (by assumption)
     have q286 : x7_1 < (l0_1.length : Int):=of_decide_eq_true (by assumption)
     obtain ⟨ad286,e286,hx286_0,hx286_1,hx286_2,hx286_3⟩:=at_T65 HR0_1.out x7_1 p286 q286
     have hw286_3:=hx286_3
     have hw286_2:=hx286_2
     have hw286_1:=hx286_1
     have hw286_0:=hx286_0
     cases e286
     replace hx286_0:=(HB.out.cell (wbl hx286_0)).trans hx286_0
     replace hx286_1:=(HB.out.cell (wbl hx286_1)).trans hx286_1
     replace hx286_2:=(HB.out.cell (wbl hx286_2)).trans hx286_2
     replace hx286_3:=(HB.out.cell (wbl hx286_3)).trans hx286_3
     replace p286:=eq_true p286
     replace q286:=eq_true q286
     have p288 : 0≤(x7_1 : Int):=of_decide_eq_true (by assumption)
     have q288 : x7_1 < (l2.length : Int):=of_decide_eq_true (by assumption)
     obtain ⟨ad288,e288,hx288_0⟩:=Kd.at_int HR2.out x7_1 p288 q288
     have hw288_0:=hx288_0
     obtain rfl : ad285 = ad288:=(by injection e288)
     replace hx288_0:=(HB.out.cell (wbl hx288_0)).trans hx288_0
     replace p288:=eq_true p288
     replace q288:=eq_true q288
     refine start_ (n:=25) (S:=fun w'=>w'.cell? ⟨gb284,0,none⟩ = some (.slice A0_0 l0_0.length c0_0)∧w'.cell? ⟨gb284,1,none⟩ = some (.slice (some ad286) l0_1.length c0_1)∧w'.cell? (ad285.add (x7_1).toNat) = some (.int .i64 (rd l2 x7_1))∧w'.cell? (ad286.add ((x7_1).toNat * 4)) = some (.int .i64 ((rd_T65 l0_1 x7_1).f0))∧w'.cell? ⟨(ad286.add ((x7_1).toNat * 4)).block,(ad286.add ((x7_1).toNat * 4)).off + 1,none⟩ = some (.int .i64 ((rd_T65 l0_1 x7_1).f1))∧w'.cell? ⟨(ad286.add ((x7_1).toNat * 4)).block,(ad286.add ((x7_1).toNat * 4)).off + 2,none⟩ = some (.int .i64 ((rd_T65 l0_1 x7_1).f2))∧w'.cell? ⟨(ad286.add ((x7_1).toNat * 4)).block,(ad286.add ((x7_1).toNat * 4)).off + 3,none⟩ = some (.bool ((rd_T65 l0_1 x7_1).f3))∧w'.cell? (ad285.add (x7_1).toNat) = some (.int .i64 (rd l2 x7_1))) (ds:=[]) (ba 25 0) (by kernel_rfl) rfl rfl ⟨(blk_cell BK284.out 0).trans rfl,(blk_cell BK284.out 1).trans rfl,((HB.out.cell (wbl hw285_0)).trans hw285_0),((HB.out.cell (wbl hw286_0)).trans hw286_0),((HB.out.cell (wbl hw286_1)).trans hw286_1),((HB.out.cell (wbl hw286_2)).trans hw286_2),((HB.out.cell (wbl hw286_3)).trans hw286_3),((HB.out.cell (wbl hw288_0)).trans hw288_0)⟩ (fun hHeld=>?_);refine with_tabW q8_Feeds.tab4 q8_Feeds.bits4 (fun HT_ HW_=>?_)
     generalize wr.drew = w15 at BK284 HB hx285_0 hx286_0 hx286_1 hx286_2 hx286_3 hx288_0 hHeld ⊢
     refine pure_ (i:=0) (N:=some 17) (v:=?_) (a':=?_) (ba 25 1) rfl rfl (any_of HT_.out (by kernel_rfl)) (fun _ _ _ h=>h) (Or.inl ⟨by rfl,?_⟩) ?_ ?_
     rotate_left
     ·intro w'
      go_simp
      with_reducible rfl
     rotate_left
     ·simp only [Act.put,NRM]
      rfl
     refine pure_ (i:=1) (N:=some 18) (v:=?_) (a':=?_) (ba 25 3) rfl rfl (any_of HT_.out (by kernel_rfl)) (fun _ _ _ h=>h) (Or.inl ⟨by rfl,?_⟩) ?_ ?_
     rotate_left
     ·intro w'
      go_simp
      with_reducible rfl
     rotate_left
     ·simp only [Act.put,NRM]
      rfl
     refine pure_ (i:=2) (N:=some 19) (v:=?_) (a':=?_) (ba 25 7) rfl rfl (any_of HT_.out (by kernel_rfl)) (fun _ _ _ h=>h) (Or.inl ⟨by rfl,?_⟩) ?_ ?_
     rotate_left
     ·intro w'
      go_simp
      with_reducible rfl
     rotate_left
     ·simp only [Act.put,NRM]
      rfl
     refine pure_ (i:=4) (N:=some 21) (v:=?_) (a':=?_) (ba 25 23) rfl rfl (any_of HT_.out (by kernel_rfl)) (fun _ _ _ h=>h) (Or.inl ⟨by rfl,?_⟩) ?_ ?_
     rotate_left
     ·intro w'
      go_simp
      with_reducible rfl
     rotate_left
     ·simp only [Act.put,NRM]
      rfl
     refine pure_ (i:=6) (N:=some 23) (v:=?_) (a':=?_) (ba 25 87) rfl rfl (any_of HT_.out (by kernel_rfl)) (fun _ _ _ h=>h) (Or.inl ⟨by rfl,?_⟩) ?_ ?_
     rotate_left
     ·intro w'
      go_simp
      with_reducible rfl
     rotate_left
     ·simp only [Act.put,NRM]
      rfl
     refine take_ (i:=3) (N:=some 20) (v:=?_) (a':=?_) (ba 25 95) rfl rfl (take_ofW HT_.out HW_.out (by kernel_rfl)) (fun _ _ _ h=>h) (Or.inl ⟨by rfl,?_⟩) hHeld ?_ ?_
     rotate_left
     ·rintro w' ⟨s0,s1,s2,s3,s4,s5,s6,s7⟩
      go_simp
      with_reducible rfl
     rotate_left
     ·simp only [Act.put,NRM]
      rfl
     refine take_ (i:=5) (N:=some 22) (v:=?_) (a':=?_) (ba 25 127) rfl rfl (take_ofW HT_.out HW_.out (by kernel_rfl)) (fun _ _ _ h=>h) (Or.inl ⟨by rfl,?_⟩) hHeld ?_ ?_
     rotate_left
     ·rintro w' ⟨s0,s1,s2,s3,s4,s5,s6,s7⟩
      go_simp
      with_reducible rfl
     rotate_left
     ·simp only [Act.put,NRM]
      rfl
     refine pure_ (i:=7) (N:=some 24) (v:=?_) (a':=?_) (ba 25 255) rfl rfl (any_of HT_.out (by kernel_rfl)) (fun _ _ _ h=>h) (Or.inl ⟨by rfl,?_⟩) ?_ ?_
     rotate_left
     ·intro w'
      go_simp
      with_reducible rfl
     rotate_left
     ·simp only [Act.put,NRM]
      rfl
     refine pure_ (i:=8) (N:=some 25) (v:=?_) (a':=?_) (ba 25 511) rfl rfl (any_of HT_.out (by kernel_rfl)) (fun _ _ _ h=>h) (Or.inl ⟨by rfl,?_⟩) ?_ ?_
     rotate_left
     ·intro w'
      go_simp
      with_reducible rfl
     rotate_left
     ·simp only [Act.put,NRM]
      rfl
     refine take_ (i:=9) (N:=some 26) (v:=?_) (a':=?_) (ba 25 1023) rfl rfl (take_ofW HT_.out HW_.out (by kernel_rfl)) (fun _ _ _ h=>h) (Or.inl ⟨by rfl,?_⟩) hHeld ?_ ?_
     rotate_left
     ·rintro w' ⟨s0,s1,s2,s3,s4,s5,s6,s7⟩
      go_simp
      with_reducible rfl
     rotate_left
     ·simp only [Act.put,NRM]
      rfl
     refine pure_ (i:=10) (N:=some 27) (v:=?_) (a':=?_) (ba 25 2047) rfl rfl (any_of HT_.out (by kernel_rfl)) (fun _ _ _ h=>h) (Or.inl ⟨by rfl,?_⟩) ?_ ?_
     rotate_left
     ·intro w'
      go_simp
      with_reducible rfl
     rotate_left
     ·simp only [Act.put,NRM]
      rfl
     refine pure_ (i:=11) (N:=some 28) (v:=?_) (a':=?_) (ba 25 4095) rfl rfl (any_of HT_.out (by kernel_rfl)) (fun _ _ _ h=>h) (Or.inl ⟨by rfl,?_⟩) ?_ ?_
     rotate_left
     ·intro w'
      go_simp
      with_reducible rfl
     rotate_left
     ·simp only [Act.put,NRM]
      rfl
     refine pure_ (i:=13) (N:=some 30) (v:=?_) (a':=?_) (ba 25 12287) rfl rfl (any_of HT_.out (by kernel_rfl)) (fun _ _ _ h=>h) (Or.inl ⟨by rfl,?_⟩) ?_ ?_
     rotate_left
     ·intro w'
      go_simp
      with_reducible rfl
     rotate_left
     ·simp only [Act.put,NRM]
      rfl
     refine pure_ (i:=14) (N:=some 31) (v:=?_) (a':=?_) (ba 25 28671) rfl rfl (any_of HT_.out (by kernel_rfl)) (fun _ _ _ h=>h) (Or.inl ⟨by rfl,?_⟩) ?_ ?_
     rotate_left
     ·intro w'
      go_simp
      with_reducible rfl
     rotate_left
     ·simp only [Act.put,NRM]
      rfl
     refine take_ (i:=12) (N:=some 29) (v:=?_) (a':=?_) (ba 25 32767) rfl rfl (take_ofW HT_.out HW_.out (by kernel_rfl)) (fun _ _ _ h=>h) (Or.inl ⟨by rfl,?_⟩) hHeld ?_ ?_
     rotate_left
     ·rintro w' ⟨s0,s1,s2,s3,s4,s5,s6,s7⟩
      go_simp
      with_reducible rfl
     rotate_left
     ·simp only [Act.put,NRM]
      rfl
     refine one_ (i:=15) (N:=some 32) (ba 25 65535) rfl rfl (one_of HT_.out (by kernel_rfl)) (by decide) (fun K hK=>?_)
     refine goes_ Tryz.func64 (by kernel_rfl) rfl #[.agg #[.slice A0_0 l0_0.length c0_0,.slice (some ad286) l0_1.length c0_1],.slice A1 l1.length c1,.int .i64 x7_1] (by rfl) rfl rfl (by (try simp only [List.map_toArray,List.map_cons,List.map_nil]);first | done | rfl | (simp only [List.length_drop,List.length_take];rfl)) ?_
     with_reducible refine (q8_Open.calls k1 _ _ l0_0 _ _ l0_1 _ _ l1 x7_1 false _ ?side1 ?side2 ?side3 ?side4 ?side5 ?side6 A10.out).mono ?_
     (case side1=>exact kC HR0_0.out HB.out)
     (case side2=>exact HC0_0.out)
     (case side3=>exact kC HR0_1.out HB.out)
     (case side4=>exact HC0_1.out)
     (case side5=>exact kC HR1.out HB.out)
     (case side6=>exact HC1.out)
     rintro e w16 ⟨rfl,hb⟩
     refine ⟨_,rfl,?_⟩
     replace BK284:=(kmv hb BK284)
     replace HB:=am (below_step (HB.out) hb)
     (try clear hb)
     (try clear hb2)
     (try clear hk)
     (try clear hi)
     refine hK.out _ _ ⟨(blk_cell BK284.out 0).trans rfl,(blk_cell BK284.out 1).trans rfl,((HB.out.cell (wbl hw285_0)).trans hw285_0),((HB.out.cell (wbl hw286_0)).trans hw286_0),((HB.out.cell (wbl hw286_1)).trans hw286_1),((HB.out.cell (wbl hw286_2)).trans hw286_2),((HB.out.cell (wbl hw286_3)).trans hw286_3),((HB.out.cell (wbl hw288_0)).trans hw288_0)⟩ (fun hHeld=>?_)
     clear hK K
     refine norm_ (a':=?_) ?_ ?_
     rotate_left
     ·show Act.put _ (some 32) _ = _
      simp only [Act.put,NRM]
      rfl
     refine pure_ (i:=16) (N:=some 33) (v:=?_) (a':=?_) (ba 25 131071) rfl rfl (any_of HT_.out (by kernel_rfl)) (fun _ _ _ h=>h) (Or.inl ⟨by rfl,?_⟩) ?_ ?_
     rotate_left
     ·intro w'
      go_simp
      with_reducible rfl
     rotate_left
     ·simp only [Act.put,NRM]
      rfl
     refine pure_ (i:=17) (N:=some 34) (v:=?_) (a':=?_) (ba 25 262143) rfl rfl (any_of HT_.out (by kernel_rfl)) (fun _ _ _ h=>h) (Or.inl ⟨by rfl,?_⟩) ?_ ?_
     rotate_left
     ·intro w'
      go_simp
      with_reducible rfl
     rotate_left
     ·simp only [Act.put,NRM]
      rfl
     refine pure_ (i:=18) (N:=some 35) (v:=?_) (a':=?_) (ba 25 524287) rfl rfl (any_of HT_.out (by kernel_rfl)) (fun _ _ _ h=>h) (Or.inl ⟨by rfl,?_⟩) ?_ ?_
     rotate_left
     ·intro w'
      go_simp
      with_reducible rfl
     rotate_left
     ·simp only [Act.put,NRM]
      rfl
     refine pure_ (i:=19) (N:=some 36) (v:=?_) (a':=?_) (ba 25 1048575) rfl rfl (any_of HT_.out (by kernel_rfl)) (fun _ _ _ h=>h) (Or.inl ⟨by rfl,?_⟩) ?_ ?_
     rotate_left
     ·intro w'
      go_simp
      with_reducible rfl
     rotate_left
     ·simp only [Act.put,NRM]
      rfl
     refine pure_ (i:=20) (N:=some 37) (v:=?_) (a':=?_) (ba 25 2097151) rfl rfl (any_of HT_.out (by kernel_rfl)) (fun _ _ _ h=>h) (Or.inl ⟨by rfl,?_⟩) ?_ ?_
     rotate_left
     ·intro w'
      go_simp
      with_reducible rfl
     rotate_left
     ·simp only [Act.put,NRM]
      rfl
     refine take_ (i:=21) (N:=some 38) (v:=?_) (a':=?_) (ba 25 4194303) rfl rfl (take_ofW HT_.out HW_.out (by kernel_rfl)) (fun _ _ _ h=>h) (Or.inl ⟨by rfl,?_⟩) hHeld ?_ ?_
     rotate_left
     ·rintro w' ⟨s0,s1,s2,s3,s4,s5,s6,s7⟩
      go_simp
      with_reducible rfl
     rotate_left
     ·simp only [Act.put,NRM]
      rfl
     refine pure_ (i:=22) (N:=some 39) (v:=?_) (a':=?_) (ba 25 8388607) rfl rfl (any_of HT_.out (by kernel_rfl)) (fun _ _ _ h=>h) (Or.inl ⟨by rfl,?_⟩) ?_ ?_
     rotate_left
     ·intro w'
      go_simp
      with_reducible rfl
     rotate_left
     ·simp only [Act.put,NRM]
      rfl
     refine pure_ (i:=23) (N:=some 40) (v:=?_) (a':=?_) (ba 25 16777215) rfl rfl (any_of HT_.out (by kernel_rfl)) (fun _ _ _ h=>h) (Or.inl ⟨by rfl,?_⟩) ?_ ?_
     rotate_left
     ·intro w'
      go_simp
      with_reducible rfl
     rotate_left
     ·simp only [Act.put,NRM]
      rfl
     refine pure_ (i:=24) (N:=some 41) (v:=?_) (a':=?_) (ba 25 33554431) rfl rfl (any_of HT_.out (by kernel_rfl)) (fun _ _ _ h=>h) (Or.inl ⟨by rfl,?_⟩) ?_ ?_
     rotate_left
     ·intro w'
      go_simp
      with_reducible rfl
     rotate_left
     ·simp only [Act.put,NRM]
      rfl
     refine done_ (done_of HT_.out (by kernel_rfl)) ?_
     try go_wp2
     go_roundg k1
     case measure=>have:=HK1.out;omega
     case rel=>exact ⟨(wrap64 (x7_1 + 1)),(by first | rfl | (simp;done) | (simp [*];done)),H',⟨by have:=HK1.out;omega⟩,⟨BK284.out⟩,⟨HB.out⟩⟩
end Go.Proofs.YtclkbedbocnpkaaGreatDoor.C
namespace Go.Proofs.YtclkbedbocnpkaaGreatDoor.C
open Go Go.RowKit Go.Proofs.YtclkbedbocnpkaaGreatDoorW.PrintWords Go.Proofs.YtclkbedbocnpkaaGreatDoorW.PrintLast Go.Proofs.YtclkbedbocnpkaaGreatDoorW.PrintMore
set_option linter.unusedVariables false
set_option linter.unusedSimpArgs false
set_option maxHeartbeats 16000000
set_option maxRecDepth 100000
section
variable {pts : List Pt} {ch : List Ch}
def flowsS (ch : List Ch) (fl : List Int) : Bool:=decide (fl.length = ch.length) && fl.all cupS
def capC (op : List Int) (x : Ch) (i : Int) : Int:=if openC op x i = true then x.f2 else 0
def capsS (op fl : List Int) : Int→List Ch→Bool
 | _,[]=>true
 | i,x :: cs=>decide (rd fl i≤capC op x i) && capsS op fl (i + 1) cs
def netF (fl : List Int) (p : Int) : Int→List Ch→Int
 | _,[]=>0
 | i,x :: cs=>(if x.f1 = p then rd fl i else 0) - (if x.f0 = p then rd fl i else 0) + netF fl p (i + 1) cs
def leftP (p : Pt) : Int:=p.f0.f0 - p.f1
def fedP (pts : List Pt) (ch : List Ch) (fl : List Int) (p : Nat) : Bool:=decide (0≤leftP (rd_T37 pts (p : Int)) + netF fl (p : Int) 0 ch)
def feedsS (pts : List Pt) (ch : List Ch) (op fl : List Int) : Bool:=capsS op fl 0 ch && allFrom (fedP pts ch fl) pts.length 0
theorem flows_go {fl : List Int} (hl : fl.length≤1000) : ∀ (rest : List Int) (k i : Nat),fl.drop i = rest→rest.length < k→q8_Flows.l0 k fl (i : Int) pts ch = some (rest.all cupS && ((fl.length : Int) == (ch.length : Int)))
 | _,0,_,_,hk=>by omega
 | [],k + 1,i,hd,_=>by
  have : fl.length≤i:=by have:=congrArg List.length hd;simp at this;omega
  unfold q8_Flows.l0
  rw [if_neg (by omega)];rfl
 | x :: rest,k + 1,i,hd,hk=>by
  obtain ⟨hd2,hlt⟩:=drop_succ hd
  have ih:=flows_go hl rest k (i + 1) hd2 (by simp at hk;omega)
  unfold q8_Flows.l0
  rw [if_pos (by omega),if_pos (by omega),getD_of_drop hd,rcups_eq,wr (by omega) (by omega),show (i : Int) + 1 = ((i + 1 : Nat) : Int) from rfl,ih]
  simp only [Option.bind_some,List.all_cons]
  cases cupS x<;>simp
theorem rFlows_eq {fl : List Int} (hl : fl.length≤1000) {k : Nat} (hk : 1001≤k) : q8_Flows.f k pts ch fl = some (flowsS ch fl):=by
 unfold q8_Flows.f
 rw [show (0 : Int) = ((0 : Nat) : Int) from rfl,flows_go hl fl k 0 rfl (by omega)]
 unfold flowsS
 congr 1
 rw [Bool.and_comm]
 congr 1
 rw [Bool.eq_iff_iff,decide_eq_true_eq,beq_iff_eq];omega
theorem bad_eq {fl : List Int} : cf_Feeds1.f fl = some (!fl.all cupS):=by
 unfold cf_Feeds1.f
 rw [anyM_eq (p:=fun x=>!cupS x) fun x _=>by unfold ga_Feeds_1.f;rw [isCups_eq];rfl,any_not]
theorem neg_eq {L : List Int} : cf_Feeds2.f L = some (L.any fun x=>decide (x < 0)):=by
 unfold cf_Feeds2.f
 exact anyM_eq fun x _=>rfl
theorem getD_set (l : List Int) (i j : Nat) (v : Int) (h : i < l.length) : (l.set i v).getD j 0 = if i = j then v else l.getD j 0:=by
 rw [List.getD_eq_getElem?_getD,List.getElem?_set,List.getD_eq_getElem?_getD]
 split
 ·rfl
 ·rfl
theorem flow_bd {fl : List Int} (hf : fl.all cupS = true) (i : Nat) : 0≤rd fl (i : Int)∧rd fl (i : Int)≤10000:=by
 show 0≤fl.getD i 0∧fl.getD i 0≤10000
 rw [List.getD_eq_getElem?_getD]
 cases h : fl[i]? with
 | none=>simp
 | some x=>exact of_decide_eq_true (List.all_eq_true.1 hf x (List.mem_of_getElem? h))
theorem any_neg {L : List Int} {P : Nat→Bool} (h : ∀ j,j < L.length→P j = decide (0≤L.getD j 0)) : (!L.any fun x=>decide (x < 0)) = allFrom P L.length 0:=by
 rw [Bool.eq_iff_iff,allFrom_iff,Bool.not_eq_true',List.any_eq_false]
 constructor
 ·intro a j _ hj
  rw [h j (by omega)]
  have:=a (L[j]'(by omega)) (List.getElem_mem _)
  rw [List.getD_eq_getElem?_getD,List.getElem?_eq_getElem (by omega)]
  simp at this ⊢;exact this
 ·intro a x hx
  obtain ⟨j,hj,rfl⟩:=List.mem_iff_getElem.1 hx
  have:=a j (Nat.zero_le _) (by omega)
  rw [h j hj,List.getD_eq_getElem?_getD,List.getElem?_eq_getElem hj] at this
  simp at this ⊢;exact this
theorem allFrom_congr {P Q : Nat→Bool} : ∀ {d i : Nat},(∀ j,i≤j→j < i + d→P j = Q j)→allFrom P d i = allFrom Q d i
 | 0,_,_=>rfl
 | d + 1,i,h=>by
  unfold allFrom
  rw [h i (Nat.le_refl _) (by omega),allFrom_congr fun j h1 h2=>h j (by omega) (by omega)]
theorem feeds_l1 (h4 : ch.all (chS pts.length) = true) (hc : ch.length≤20) (hp : pts.length≤1000) {op fl : List Int} (ho : op.length≤1000) (hf : fl.all cupS = true) (hfl : fl.length = ch.length) : ∀ (rest : List Ch) (k i : Nat) (L : List Int),ch.drop i = rest→L.length = pts.length→(∀ j,-20000 * ((i : Int) + 1)≤L.getD j 0∧L.getD j 0≤20000 * ((i : Int) + 1))→rest.length + 1001 < k→
 ga_Feeds.l1 k fl L ch (ch.length : Int) (i : Int) pts ch op = some (capsS op fl (i : Int) rest && allFrom (fun p=>decide (0≤L.getD p 0 + netF fl (p : Int) (i : Int) rest)) pts.length 0,0)
 | _,0,_,_,_,_,_,hk=>by omega
 | [],k + 1,i,L,hd,hL,_,_=>by
  have : ch.length≤i:=by have:=congrArg List.length hd;simp at this;omega
  unfold ga_Feeds.l1
  rw [if_neg (by omega),neg_eq]
  simp only [Option.bind_some,capsS,Bool.true_and]
  rw [any_neg (P:=fun p=>decide (0≤L.getD p 0 + netF fl (p : Int) (i : Int) [])) (fun j _=>by simp [netF]),hL]
 | x :: rest,k + 1,i,L,hd,hL,hb,hk=>by
  obtain ⟨hd2,hlt⟩:=drop_succ hd
  have hx : x ∈ ch:=by
   have : x ∈ ch.drop i:=by rw [hd];exact List.mem_cons_self
   exact List.mem_of_mem_drop this
  obtain ⟨⟨a0,a1⟩,⟨b0,b1⟩,hne,-,-⟩:=chS_iff.1 (List.all_eq_true.1 h4 x hx)
  obtain ⟨f0,f1⟩:=flow_bd hf i
  obtain ⟨u,hu⟩ : ∃ u : Nat,x.f0 = (u : Int):=⟨x.f0.toNat,by omega⟩
  obtain ⟨v,hv⟩ : ∃ v : Nat,x.f1 = (v : Int):=⟨x.f1.toNat,by omega⟩
  have hbu:=hb u
  have hbv:=hb v
  unfold ga_Feeds.l1
  rw [if_pos (by omega),if_pos (by omega),if_pos (by omega),if_pos (by omega),carries_eq ho (by omega) hd]
  simp only [Option.bind_some]
  show _ = some (decide (rd fl (i : Int)≤capC op x (i : Int)) && capsS op fl ((i : Int) + 1) rest && _,0)
  rw [show (if openC op x (i : Int) = true then x.f2 else 0) = capC op x (i : Int) from rfl,rdT_nat ch i x rest hd]
  by_cases hcap : rd fl (i : Int)≤capC op x (i : Int)
  case neg=>rw [if_pos (by omega),decide_eq_false hcap];rfl
  rw [if_neg (by omega),decide_eq_true hcap,Bool.true_and,hu,hv,if_pos (by omega),if_pos (by omega)]
  rw [if_pos (by omega),if_pos (by omega),wr (x:=(i : Int) + 1) (by omega) (by omega),show (i : Int) + 1 = ((i + 1 : Nat) : Int) from rfl]
  rw [show ((u : Nat) : Int).toNat = u from rfl,show ((v : Nat) : Int).toNat = v from rfl]
  have huv : u ≠ v:=fun e=>hne (by omega)
  have e1 : rd L (u : Int) = L.getD u 0:=rfl
  rw [e1,wr (x:=L.getD u 0 - rd fl (i : Int)) (by omega) (by omega)]
  have e2 : rd (L.set u (L.getD u 0 - rd fl (i : Int))) (v : Int) = L.getD v 0:=by
   show (L.set u _).getD v 0 = _
   rw [getD_set _ _ _ _ (by omega),if_neg huv]
  rw [e2,wr (x:=L.getD v 0 + rd fl (i : Int)) (by omega) (by omega)]
  have e3 : ∀ j : Nat,((L.set u (L.getD u 0 - rd fl (i : Int))).set v (L.getD v 0 + rd fl (i : Int))).getD j 0 = L.getD j 0 + (if x.f1 = (j : Int) then rd fl (i : Int) else 0) - (if x.f0 = (j : Int) then rd fl (i : Int) else 0):=by
   intro j
   rw [getD_set _ _ _ _ (by simp;omega),getD_set _ _ _ _ (by omega),hu,hv]
   by_cases c1 : v = j
   ·have n1 : ((v : Nat) : Int) = (j : Int):=by omega
    have n2 : ¬ ((u : Nat) : Int) = (j : Int):=by omega
    rw [if_pos c1,if_pos n1,if_neg n2,c1];omega
   ·have n1 : ¬ ((v : Nat) : Int) = (j : Int):=by omega
    rw [if_neg c1,if_neg n1]
    by_cases c2 : u = j
    ·have n2 : ((u : Nat) : Int) = (j : Int):=by omega
     rw [if_pos c2,if_pos n2,c2];omega
    ·have n2 : ¬ ((u : Nat) : Int) = (j : Int):=by omega
     rw [if_neg c2,if_neg n2];omega
  rw [feeds_l1 h4 hc hp ho hf hfl rest k (i + 1) _ hd2 (by simp [hL]) (fun j=>by
   have:=hb j
   rw [e3 j]
   split<;>split<;>omega) (by simp at hk;omega)]
  congr 3
  refine allFrom_congr fun j _ hj=>?_
  rw [e3 j,decide_eq_decide]
  show _↔0≤L.getD j 0 + ((if x.f1 = (j : Int) then rd fl (i : Int) else 0) - (if x.f0 = (j : Int) then rd fl (i : Int) else 0) + netF fl (j : Int) ((i : Int) + 1) rest)
  rw [show ((i + 1 : Nat) : Int) = (i : Int) + 1 from rfl]
  omega
theorem feeds_l0 (h3 : pts.all ptS = true) (h4 : ch.all (chS pts.length) = true) (hc : ch.length≤20) (hp : pts.length≤1000) {op fl : List Int} (ho : op.length≤1000) (hf : fl.all cupS = true) (hfl : fl.length = ch.length) : ∀ (rest : List Pt) (k i : Nat) (L : List Int),pts.drop i = rest→L.length = pts.length→(∀ j,L.getD j 0 = if j < i then leftP (rd_T37 pts (j : Int)) else 0)→rest.length + 1100 < k→
 ga_Feeds.l0 k fl L pts (pts.length : Int) (i : Int) pts ch pts ch op = some (feedsS pts ch op fl,0)
 | _,0,_,_,_,_,_,hk=>by omega
 | [],k + 1,i,L,hd,hL,hb,hk=>by
  have : pts.length≤i:=by have:=congrArg List.length hd;simp at this;omega
  unfold ga_Feeds.l0
  have bd : ∀ j,-20000≤L.getD j 0∧L.getD j 0≤20000:=fun j=>by
   rw [hb j]
   by_cases hj : j < pts.length
   ·rw [if_pos (by omega)]
    have:=ptS_iff.1 (pt_in h3 (p:=(j : Int)) (by omega) (by omega))
    unfold leftP;omega
   ·have : L.getD j 0 = 0:=by rw [List.getD_eq_getElem?_getD,List.getElem?_eq_none (by omega)];rfl
    rw [← hb j,this];omega
  rw [if_neg (by omega),show (0 : Int) = ((0 : Nat) : Int) from rfl,feeds_l1 h4 hc hp ho hf hfl ch k 0 L rfl hL (fun j=>by have:=bd j;omega) (by omega)]
  unfold feedsS
  congr 3
  refine allFrom_congr fun j _ hj=>?_
  unfold fedP
  rw [hb j,if_pos (by omega)];rfl
 | x :: rest,k + 1,i,L,hd,hL,hb,hk=>by
  obtain ⟨hd2,hlt⟩:=drop_succ hd
  unfold ga_Feeds.l0
  have hq:=rdP_nat pts i x rest hd
  have hx:=ptS_iff.1 (pt_in h3 (p:=(i : Int)) (by omega) (by omega))
  rw [hq] at hx
  rw [if_pos (by omega),if_pos (by omega),if_pos (by omega),if_pos (by omega),hq,wr (x:=x.f0.f0 - x.f1) (by omega) (by omega),wr (x:=(i : Int) + 1) (by omega) (by omega),show (i : Int) + 1 = ((i + 1 : Nat) : Int) from rfl]
  refine feeds_l0 h3 h4 hc hp ho hf hfl rest k (i + 1) _ hd2 (by simp [hL]) (fun j=>?_) (by simp at hk;omega)
  rw [show ((i : Nat) : Int).toNat = i from rfl,getD_set _ _ _ _ (by omega),hb j]
  by_cases c : i = j
  ·subst c;rw [if_pos rfl,if_pos (by omega),hq];rfl
  ·rw [if_neg c]
   by_cases d : j < i
   ·rw [if_pos d,if_pos (by omega)]
   ·rw [if_neg d,if_neg (by omega)]
theorem gFeeds_eq (hp : pts.length≤1000) (hc : ch.length≤1000) {op fl : List Int} (ho : op.length≤20) {k : Nat} (hk : 3000≤k) : ga_Feeds.f k pts ch op fl = some (if (openS pts ch op && flowsS ch fl) = true then (feedsS pts ch op fl,0) else (false,2)):=by
 obtain ⟨k,rfl⟩ : ∃ m,k = m + 1:=⟨k - 1,by omega⟩
 unfold ga_Feeds.f openS flowsS
 rw [isNet_eq hp hc (by omega)]
 simp only [Option.bind_some]
 by_cases hn : netS pts ch = true
 case neg=>rw [if_neg hn];simp [ga_Feeds.j0,hn]
 obtain ⟨h1,h2,h3,h4,h5⟩:=netS_iff.1 hn
 rw [if_pos hn,areGates_eq hc (by omega) (by omega)]
 simp only [Option.bind_some]
 by_cases hs : someS ch op = true
 case neg=>rw [if_neg hs];simp [ga_Feeds.j0,hs]
 rw [if_pos hs]
 by_cases hl : fl.length = ch.length
 case neg=>rw [if_neg (by omega)];simp [ga_Feeds.j0,hl]
 rw [if_pos (by omega),bad_eq]
 simp only [Option.bind_some,ga_Feeds.j0]
 by_cases hf : fl.all cupS = true
 case neg=>simp [hf]
 simp only [hn,hs,hl,hf,decide_true,Bool.and_self,if_true,Bool.not_true,Bool.false_eq_true,if_false]
 have e:=feeds_l0 h3 h4 (by omega) hp (show op.length≤1000 by omega) hf hl pts k 0 (List.replicate ((pts.length : Int) : Int).toNat 0) rfl (by simp) (fun j=>by
  rw [if_neg (by omega),List.getD_eq_getElem?_getD,List.getElem?_replicate]
  split<;>rfl) (by omega)
 rw [if_pos (by omega),if_pos (by omega)]
 exact e
theorem rFeeds_l2 (hc : ch.length≤20) {fl : List Int} (hf : fl.all cupS = true) (hfl : fl.length = ch.length) {p : Nat} {r : Option Bool} {M : Nat} (hr : ∀ k',M≤k'→q8_Feeds.l1 k' fl (wrap64 ((p : Int) + 1)) pts ch = r) : ∀ (rest : List Ch) (k i : Nat) (acc : Int),ch.drop i = rest→-20000 * ((i : Int) + 1)≤acc→acc≤20000 * ((i : Int) + 1)→rest.length + M < k→
 q8_Feeds.l2 k fl (p : Int) acc (i : Int) pts ch = if acc + netF fl (p : Int) (i : Int) rest < 0 then some false else r
 | _,0,_,_,_,_,_,hk=>by omega
 | [],k + 1,i,acc,hd,_,_,hk=>by
  have : ch.length≤i:=by have:=congrArg List.length hd;simp at this;omega
  unfold q8_Feeds.l2
  rw [if_neg (by omega),hr k (by simp at hk;omega)]
  simp [netF]
 | x :: rest,k + 1,i,acc,hd,h0,h1,hk=>by
  obtain ⟨hd2,hlt⟩:=drop_succ hd
  obtain ⟨f0,f1⟩:=flow_bd hf i
  have ih:=fun acc a b=>rFeeds_l2 hc hf hfl hr rest k (i + 1) acc hd2 a b (by simp at hk;omega)
  unfold q8_Feeds.l2
  rw [if_pos (by omega),if_pos (by omega),if_pos (by omega),rdT_nat ch i x rest hd,wr (x:=(i : Int) + 1) (by omega) (by omega),show (i : Int) + 1 = ((i + 1 : Nat) : Int) from rfl]
  have key : ∀ acc',acc' = acc + (if x.f1 = (p : Int) then rd fl (i : Int) else 0) - (if x.f0 = (p : Int) then rd fl (i : Int) else 0)→q8_Feeds.l2 k fl (p : Int) acc' ((i + 1 : Nat) : Int) pts ch = if acc + netF fl (p : Int) (i : Int) (x :: rest) < 0 then some false else r:=by
   intro acc' e
   have hb : -20000 * (((i + 1 : Nat) : Int) + 1)≤acc'∧acc'≤20000 * (((i + 1 : Nat) : Int) + 1):=by
    rw [e];split<;>split<;>omega
   rw [ih acc' hb.1 hb.2]
   have : acc' + netF fl (p : Int) ((i + 1 : Nat) : Int) rest = acc + netF fl (p : Int) (i : Int) (x :: rest):=by
    show _ = acc + ((if x.f1 = (p : Int) then rd fl (i : Int) else 0) - (if x.f0 = (p : Int) then rd fl (i : Int) else 0) + netF fl (p : Int) ((i : Int) + 1) rest)
    rw [e,show ((i + 1 : Nat) : Int) = (i : Int) + 1 from rfl];omega
   rw [this]
  by_cases c1 : x.f1 = (p : Int)
  ·rw [if_pos c1]
   by_cases c2 : x.f0 = (p : Int)
   ·rw [if_pos c2,wr (x:=acc + rd fl (i : Int)) (by omega) (by omega),wr (by omega) (by omega)]
    exact key _ (by rw [if_pos c1,if_pos c2])
   ·rw [if_neg c2,wr (by omega) (by omega)]
    exact key _ (by rw [if_pos c1,if_neg c2];omega)
  ·rw [if_neg c1]
   by_cases c2 : x.f0 = (p : Int)
   ·rw [if_pos c2,wr (by omega) (by omega)]
    exact key _ (by rw [if_neg c1,if_pos c2];omega)
   ·rw [if_neg c2]
    exact key _ (by rw [if_neg c1,if_neg c2];omega)
theorem rFeeds_l1 (h3 : pts.all ptS = true) (hc : ch.length≤20) (hp : pts.length≤1000) {fl : List Int} (hf : fl.all cupS = true) (hfl : fl.length = ch.length) : ∀ (d k i : Nat),i + d = pts.length→30 * d + 30 < k→q8_Feeds.l1 k fl (i : Int) pts ch = some (allFrom (fedP pts ch fl) d i)
 | _,0,_,_,hk=>by omega
 | 0,k + 1,i,hd,_=>by
  unfold q8_Feeds.l1
  rw [if_neg (by omega)];rfl
 | d + 1,k + 1,i,hd,hk=>by
  have ih : ∀ k',30 * d + 31≤k'→q8_Feeds.l1 k' fl (wrap64 ((i : Int) + 1)) pts ch = some (allFrom (fedP pts ch fl) d (i + 1)):=fun k' h=>by
   rw [wr (by omega) (by omega),show (i : Int) + 1 = ((i + 1 : Nat) : Int) from rfl]
   exact rFeeds_l1 h3 hc hp hf hfl d k' (i + 1) (by omega) (by omega)
  have hx:=ptS_iff.1 (pt_in h3 (p:=(i : Int)) (by omega) (by omega))
  unfold q8_Feeds.l1
  rw [if_pos (by omega),if_pos (by omega),wr (x:=(rd_T37 pts (i : Int)).f0.f0 - (rd_T37 pts (i : Int)).f1) (by omega) (by omega),show (0 : Int) = ((0 : Nat) : Int) from rfl,
   rFeeds_l2 hc hf hfl ih ch k 0 _ rfl (by omega) (by omega) (by omega)]
  show (if leftP (rd_T37 pts (i : Int)) + netF fl (i : Int) 0 ch < 0 then some false else some (allFrom (fedP pts ch fl) d (i + 1))) = some (fedP pts ch fl i && allFrom (fedP pts ch fl) d (i + 1))
  generalize allFrom (fedP pts ch fl) d (i + 1) = z
  unfold fedP
  by_cases c : leftP (rd_T37 pts (i : Int)) + netF fl (i : Int) 0 ch < 0
  ·rw [if_pos c,decide_eq_false (by omega)];rfl
  ·rw [if_neg c,decide_eq_true (by omega)];rfl
theorem rFeeds_l0 (h3 : pts.all ptS = true) (hc : ch.length≤20) (hp : pts.length≤20) {op fl : List Int} (ho : op.length≤1000) (hf : fl.all cupS = true) (hfl : fl.length = ch.length) (hcu : ch.all (chS pts.length) = true) : ∀ (rest : List Ch) (k i : Nat),ch.drop i = rest→rest.length + 1100 < k→
 q8_Feeds.l0 k op fl (i : Int) pts ch = some (capsS op fl (i : Int) rest && allFrom (fedP pts ch fl) pts.length 0)
 | _,0,_,_,hk=>by omega
 | [],k + 1,i,hd,hk=>by
  have : ch.length≤i:=by have:=congrArg List.length hd;simp at this;omega
  unfold q8_Feeds.l0
  rw [if_neg (by omega),show (0 : Int) = ((0 : Nat) : Int) from rfl,rFeeds_l1 h3 hc (by omega) hf hfl pts.length k 0 (by omega) (by omega)];rfl
 | x :: rest,k + 1,i,hd,hk=>by
  obtain ⟨hd2,hlt⟩:=drop_succ hd
  obtain ⟨f0,f1⟩:=flow_bd hf i
  have hx : x ∈ ch:=by
   have : x ∈ ch.drop i:=by rw [hd];exact List.mem_cons_self
   exact List.mem_of_mem_drop this
  have hcx:=(chS_iff.1 (List.all_eq_true.1 hcu x hx)).2.2.2
  have ih:=rFeeds_l0 h3 hc hp ho hf hfl hcu rest k (i + 1) hd2 (by simp at hk;omega)
  unfold q8_Feeds.l0
  rw [if_pos (by omega),if_pos (by omega),if_pos (by omega),rdT_nat ch i x rest hd,open_eq ho (by omega) hd,wr (by omega) (by omega),show (i : Int) + 1 = ((i + 1 : Nat) : Int) from rfl,ih]
  simp only [Option.bind_some]
  show _ = some (decide (rd fl (i : Int)≤capC op x (i : Int)) && capsS op fl ((i : Int) + 1) rest && _)
  rw [show ((i + 1 : Nat) : Int) = (i : Int) + 1 from rfl]
  unfold capC
  by_cases c1 : openC op x (i : Int) = true
  ·rw [if_pos c1,if_pos c1]
   by_cases c2 : rd fl (i : Int) > x.f2
   ·rw [if_pos c2,decide_eq_false (by omega)];rfl
   ·rw [if_neg c2,decide_eq_true (by omega),Bool.true_and]
  ·rw [if_neg c1,if_neg c1]
   by_cases c2 : rd fl (i : Int) > x.f2
   ·rw [if_pos c2,decide_eq_false (by omega)];rfl
   ·rw [if_neg c2]
    by_cases c3 : rd fl (i : Int) = 0
    ·rw [if_pos c3,decide_eq_true (by omega),Bool.true_and]
    ·rw [if_neg c3,decide_eq_false (by omega)];rfl
theorem rFeeds_eq (h : netS pts ch = true) {op fl : List Int} (ho : op.length≤1000) (hf : flowsS ch fl = true) {k : Nat} (hk : 3000≤k) : q8_Feeds.f k pts ch op fl = some (feedsS pts ch op fl):=by
 obtain ⟨h1,h2,h3,h4,h5⟩:=netS_iff.1 h
 unfold flowsS at hf
 simp only [Bool.and_eq_true,decide_eq_true_eq] at hf
 unfold q8_Feeds.f feedsS
 exact rFeeds_l0 h3 (by omega) (by omega) ho hf.2 hf.1 h4 ch k 0 rfl (by omega)
end
end Go.Proofs.YtclkbedbocnpkaaGreatDoor.C
namespace Go.Proofs.YtclkbedbocnpkaaGreatDoor.C
open Go.RowKit Go.Proofs.YtclkbedbocnpkaaGreatDoorW.PrintWords Go.Proofs.YtclkbedbocnpkaaGreatDoorW.PrintLast Go.Proofs.YtclkbedbocnpkaaGreatDoorW.PrintMore
set_option linter.unusedVariables false
set_option linter.unusedSimpArgs false
set_option maxHeartbeats 16000000
set_option maxRecDepth 100000
mutual
def l8_GateFeeds.j0 : Nat→List Int→List Int→Bool→List (S37)→List (S65)→Option (Bool)
 | 0,_,_,_,_,_=>none
 | k + 1,x1,x2,x21,x298000,x298001=>if x21 = true then ((l8_known.f).bind fun t299=>(some t299)) else ((ga_Feeds.f k x298000 x298001 x1 x2).bind fun bt300=>((q8_Net.f k x298000 x298001).bind fun t302=>(if t302 = true then ((q8_Some.f k x298000 x298001 x1).bind fun t303=>(if t303 = true then ((q8_Flows.f k x298000 x298001 x2).bind fun t304=>(l8_GateFeeds.j1 k x1 x2 bt300.1 bt300.2 (!t304) x298000 x298001)) else (l8_GateFeeds.j1 k x1 x2 bt300.1 bt300.2 true x298000 x298001))) else (l8_GateFeeds.j1 k x1 x2 bt300.1 bt300.2 true x298000 x298001))))
def l8_GateFeeds.j1 : Nat→List Int→List Int→Bool→Int→Bool→List (S37)→List (S65)→Option (Bool)
 | 0,_,_,_,_,_,_,_=>none
 | k + 1,x1,x2,x7,x8,x44,x298000,x298001=>if x44 = true then (if x8 = 2 then (if x7 = true then (some false) else ((l8_known.f).bind fun t305=>(some t305))) else (some false)) else (if x8 = 0 then ((q8_Feeds.f k x298000 x298001 x1 x2).bind fun t306=>(if (x7 == t306) = true then ((l8_known.f).bind fun t307=>(some t307)) else (some false))) else (some false))
end
def l8_GateFeeds.f (k : Nat) (l0_0 : List (S37)) (l0_1 : List (S65)) (l1 : List Int) (l2 : List Int) : Option (Bool):=(l8_short.f l0_0 l0_1).bind fun t298=>(if t298 = true then (if (l1.length : Int) > 10 then (l8_GateFeeds.j0 k l1 l2 true l0_0 l0_1) else (l8_GateFeeds.j0 k l1 l2 (decide ((l2.length : Int) > 13)) l0_0 l0_1)) else (l8_GateFeeds.j0 k l1 l2 true l0_0 l0_1))
theorem l8_GateFeeds.calls (k : Nat) (A0_0 : Option Addr) (c0_0 : Nat) (l0_0 : List (S37)) (A0_1 : Option Addr) (c0_1 : Nat) (l0_1 : List (S65)) (A1 : Option Addr) (c1 : Nat) (l1 : List Int) (A2 : Option Addr) (c2 : Nat) (l2 : List Int) (r : Bool) (w : World) (hr0_0 : Kd.C k37 w A0_0 l0_0.length l0_0) (hc0_0 : l0_0.length≤c0_0) (hr0_1 : Kd.C k65 w A0_1 l0_1.length l0_1) (hc0_1 : l0_1.length≤c0_1) (hr1 : Kd.C (Kd.int .i64) w A1 l1.length l1) (hc1 : l1.length≤c1) (hr2 : Kd.C (Kd.int .i64) w A2 l2.length l2) (hc2 : l2.length≤c2) (h : l8_GateFeeds.f k l0_0 l0_1 l1 l2 = some r) :
 Calls Tryz.prog 3 #[.agg #[.slice A0_0 l0_0.length c0_0,.slice A0_1 l0_1.length c0_1],.slice A1 l1.length c1,.slice A2 l2.length c2] w fun e w'=>e = .returned (.bool r)∧Below w.heap.size w w':=by
 have hu25:=Tryz.underlying25
 have HR0_0:=am hr0_0
 have HC0_0:=am hc0_0
 clear hr0_0 hc0_0
 have HR0_1:=am hr0_1
 have HC0_1:=am hc0_1
 clear hr0_1 hc0_1
 have HR1:=am hr1
 have HC1:=am hc1
 clear hr1 hc1
 have HR2:=am hr2
 have HC2:=am hc2
 clear hr2 hc2
 have HB:=am (Below.refl w.heap.size w)
 have H : ((l8_short.f l0_0 l0_1).bind fun t298=>(if t298 = true then (if (l1.length : Int) > 10 then (l8_GateFeeds.j0 k l1 l2 true l0_0 l0_1) else (l8_GateFeeds.j0 k l1 l2 (decide ((l2.length : Int) > 13)) l0_0 l0_1)) else (l8_GateFeeds.j0 k l1 l2 true l0_0 l0_1))) = some r:=h
 clear h
 have HC4:=am H
 clear H
 go_enter Tryz.func3,Tryz.ntmps3
 go_upto_region 1 with (first | ((refine ga_dst (N:=3) rfl ?_);(try (refine ga_guard (by rfl) ?_;dsimp only));refine box_event rfl (N:=3) rfl (cs:=#[.slice A0_0 l0_0.length c0_0,.slice A0_1 l0_1.length c0_1]) (t:=25) ?hr ?_;(case hr=>go_simp;try rfl);intro gb297 hg w5 hbox hb;have BK297:=am (hbox);have GW297:=am (ge_new (HB.out) hg);have GE297:=am (ge_new (HB.out) hg);replace HB:=am (below_step (HB.out) hb);clear hb hbox hg))
 (try simp only [Act.put,List.setIfInBounds_toArray,List.set_cons_zero,List.set_cons_succ])
 go_cut [21] (fun v21 wc=>∃ (kq : Nat) (x21_3 : Bool),v21 = .bool x21_3∧Aside0 (l8_GateFeeds.j0 kq l1 l2 x21_3 l0_0 l0_1 = some r)∧Aside0 (kq≤k)∧Aside0 (wc.heap[gb297]? = some (.cells #[(.slice A0_0 l0_0.length c0_0),(.slice A0_1 l0_1.length c0_1)] 25 (0,0)))∧Aside0 (Below w.heap.size w wc))
 case first =>
  have H:=HC4.out
  clear HC4
  replace H:=obm H
  obtain ⟨t298,A60,H⟩:=H
  replace H : (if t298 = true then (if (l1.length : Int) > 10 then (l8_GateFeeds.j0 k l1 l2 true l0_0 l0_1) else (l8_GateFeeds.j0 k l1 l2 (decide ((l2.length : Int) > 13)) l0_0 l0_1)) else (l8_GateFeeds.j0 k l1 l2 true l0_0 l0_1)) = some r:=H
  have A6:=am A60
  clear A60
  by_cases c7 : t298 = true
  case neg =>
   replace c7:=Bool.eq_false_iff.mpr c7
   subst c7
   replace H : (l8_GateFeeds.j0 k l1 l2 true l0_0 l0_1) = some r:=by rw [if_neg (show ¬ (false = true) by decide)] at H;exact H
   replace H':=am H
   obtain ⟨hcz13_0,hcz13_1⟩:=cO2 BK297.out
   go_wp2_with (first | ((with_reducible refine ga_callee (f:=14) rfl ?_);refine goesL_ (some 10) rfl rfl Tryz.func14 (by kernel_rfl) rfl #[.agg #[.slice A0_0 l0_0.length c0_0,.slice A0_1 l0_1.length c0_1]] rfl (by (try simp only [List.map_toArray,List.map_cons,List.map_nil]);first | done | rfl | (simp only [List.length_drop,List.length_take];rfl)) ?_;(refine (l8_short.calls _ _ l0_0 _ _ l0_1 false _ ?side1 ?side2 ?side3 ?side4 A6.out).mono ?_);(case side1=>exact kC HR0_0.out HB.out);(case side2=>exact HC0_0.out);(case side3=>exact kC HR0_1.out HB.out);(case side4=>exact HC0_1.out);rintro e w14 ⟨rfl,hb⟩;refine ⟨_,rfl,?_⟩;replace BK297:=(kmv hb BK297);replace HB:=am (below_step (HB.out) hb);(try clear hb);(try clear hb2);(try clear hk);(try clear hi)))
   go_meet
   case rel=>exact ⟨_,(true),(by first | rfl | (simp;done) | (simp [*];done)),H',⟨by first | omega | exact Nat.le_refl _⟩,⟨BK297.out⟩,⟨HB.out⟩⟩
  subst c7
  replace H : (if (l1.length : Int) > 10 then (l8_GateFeeds.j0 k l1 l2 true l0_0 l0_1) else (l8_GateFeeds.j0 k l1 l2 (decide ((l2.length : Int) > 13)) l0_0 l0_1)) = some r:=by rw [if_pos rfl] at H;exact H
  by_cases c8 : (l1.length : Int) > 10
  ·rw [if_pos c8] at H
   have c8b0 : decide (10 < (l1.length : Int)) = true:=decide_eq_true c8
   have c8b1 : decide (10 < l1.length) = true:=decide_eq_true (by omega)
   clear c8
   (first | rw [c8b0] | (simp only [i64_w,i32_w];rw [c8b0]) | skip)
   replace H':=am H
   obtain ⟨hcz9_0,hcz9_1⟩:=cO2 BK297.out
   go_wp2_with (first | ((with_reducible refine ga_callee (f:=14) rfl ?_);refine goesL_ (some 10) rfl rfl Tryz.func14 (by kernel_rfl) rfl #[.agg #[.slice A0_0 l0_0.length c0_0,.slice A0_1 l0_1.length c0_1]] rfl (by (try simp only [List.map_toArray,List.map_cons,List.map_nil]);first | done | rfl | (simp only [List.length_drop,List.length_take];rfl)) ?_;(refine (l8_short.calls _ _ l0_0 _ _ l0_1 true _ ?side1 ?side2 ?side3 ?side4 A6.out).mono ?_);(case side1=>exact kC HR0_0.out HB.out);(case side2=>exact HC0_0.out);(case side3=>exact kC HR0_1.out HB.out);(case side4=>exact HC0_1.out);rintro e w10 ⟨rfl,hb⟩;refine ⟨_,rfl,?_⟩;replace BK297:=(kmv hb BK297);replace HB:=am (below_step (HB.out) hb);(try clear hb);(try clear hb2);(try clear hk);(try clear hi)))
   go_meet
   case rel=>exact ⟨_,(true),(by first | rfl | (simp;done) | (simp [*];done)),H',⟨by first | omega | exact Nat.le_refl _⟩,⟨BK297.out⟩,⟨HB.out⟩⟩
  ·rw [if_neg c8] at H
   have c8b0 : decide (10 < (l1.length : Int)) = false:=decide_eq_false c8
   have c8b1 : decide (10 < l1.length) = false:=decide_eq_false (by omega)
   clear c8
   (first | rw [c8b0] | (simp only [i64_w,i32_w];rw [c8b0]) | skip)
   replace H':=am H
   obtain ⟨hcz11_0,hcz11_1⟩:=cO2 BK297.out
   go_wp2_with (first | ((with_reducible refine ga_callee (f:=14) rfl ?_);refine goesL_ (some 10) rfl rfl Tryz.func14 (by kernel_rfl) rfl #[.agg #[.slice A0_0 l0_0.length c0_0,.slice A0_1 l0_1.length c0_1]] rfl (by (try simp only [List.map_toArray,List.map_cons,List.map_nil]);first | done | rfl | (simp only [List.length_drop,List.length_take];rfl)) ?_;(refine (l8_short.calls _ _ l0_0 _ _ l0_1 true _ ?side1 ?side2 ?side3 ?side4 A6.out).mono ?_);(case side1=>exact kC HR0_0.out HB.out);(case side2=>exact HC0_0.out);(case side3=>exact kC HR0_1.out HB.out);(case side4=>exact HC0_1.out);rintro e w12 ⟨rfl,hb⟩;refine ⟨_,rfl,?_⟩;replace BK297:=(kmv hb BK297);replace HB:=am (below_step (HB.out) hb);(try clear hb);(try clear hb2);(try clear hk);(try clear hi)))
   go_meet
   case rel=>exact ⟨_,(decide ((l2.length : Int) > 13)),(by first | rfl | (simp;done) | (simp [*];done)),H',⟨by first | omega | exact Nat.le_refl _⟩,⟨BK297.out⟩,⟨HB.out⟩⟩
 case rest =>
  clear HC4
  obtain ⟨kq,x21_3,rfl,HA,HJ3,BK297,HB⟩:=hcut
  cases kq with
  | zero=>exact absurd HA.out (by simp [l8_GateFeeds.j0])
  | succ kj3 =>
   have H:=HA.out
   clear HA
   simp only [l8_GateFeeds.j0] at H
   by_cases c15 : x21_3 = true
   ·subst c15
    replace H : ((l8_known.f).bind fun t299=>(some t299)) = some r:=by rw [if_pos rfl] at H;exact H
    replace H:=obm H
    obtain ⟨t299,A160,H⟩:=H
    replace H : (some t299) = some r:=H
    have A16:=am A160
    clear A160
    obtain rfl:=Option.some.inj H
    go_wp2_with (first | ((with_reducible refine ga_callee (f:=15) rfl ?_);refine goesL_ (some 22) rfl rfl Tryz.func15 (by kernel_rfl) rfl #[] rfl (by (try simp only [List.map_toArray,List.map_cons,List.map_nil]);first | done | rfl | (simp only [List.length_drop,List.length_take];rfl)) ?_;(refine (l8_known.calls  t299 _ A16.out).mono ?_);rintro e w17 ⟨rfl,hb⟩;refine ⟨_,rfl,?_⟩;replace BK297:=(kmv hb BK297);replace HB:=am (below_step (HB.out) hb);(try clear hb);(try clear hb2);(try clear hk);(try clear hi)))
    go_ret
    exact ⟨by first | rfl | (simp [*]<;>rfl),HB.out⟩
   ·replace c15:=Bool.eq_false_iff.mpr c15
    subst c15
    replace H : ((ga_Feeds.f kj3 l0_0 l0_1 l1 l2).bind fun bt300=>((q8_Net.f kj3 l0_0 l0_1).bind fun t302=>(if t302 = true then ((q8_Some.f kj3 l0_0 l0_1 l1).bind fun t303=>(if t303 = true then ((q8_Flows.f kj3 l0_0 l0_1 l2).bind fun t304=>(l8_GateFeeds.j1 kj3 l1 l2 bt300.1 bt300.2 (!t304) l0_0 l0_1)) else (l8_GateFeeds.j1 kj3 l1 l2 bt300.1 bt300.2 true l0_0 l0_1))) else (l8_GateFeeds.j1 kj3 l1 l2 bt300.1 bt300.2 true l0_0 l0_1)))) = some r:=by rw [if_neg (show ¬ (false = true) by decide)] at H;exact H
    replace H:=obm H
    obtain ⟨⟨t300,t301⟩,A180,H⟩:=H
    replace H : ((q8_Net.f kj3 l0_0 l0_1).bind fun t302=>(if t302 = true then ((q8_Some.f kj3 l0_0 l0_1 l1).bind fun t303=>(if t303 = true then ((q8_Flows.f kj3 l0_0 l0_1 l2).bind fun t304=>(l8_GateFeeds.j1 kj3 l1 l2 t300 t301 (!t304) l0_0 l0_1)) else (l8_GateFeeds.j1 kj3 l1 l2 t300 t301 true l0_0 l0_1))) else (l8_GateFeeds.j1 kj3 l1 l2 t300 t301 true l0_0 l0_1))) = some r:=H
    have A18:=am A180
    clear A180
    have HC19:=am H
    clear H
    obtain ⟨hcz20_0,hcz20_1⟩:=cO2 BK297.out
    go_upto_region 4 with (first | ((with_reducible refine ga_callee (f:=16) rfl ?_);refine goesL_ (some 27) rfl rfl Tryz.func16 (by kernel_rfl) rfl #[.agg #[.slice A0_0 l0_0.length c0_0,.slice A0_1 l0_1.length c0_1],.slice A1 l1.length c1,.slice A2 l2.length c2] rfl (by (try simp only [List.map_toArray,List.map_cons,List.map_nil]);first | done | rfl | (simp only [List.length_drop,List.length_take];rfl)) ?_;(refine (ga_Feeds.calls kj3 _ _ l0_0 _ _ l0_1 _ _ l1 _ _ l2 t300 t301 _ ?side1 ?side2 ?side3 ?side4 ?side5 ?side6 ?side7 ?side8 A18.out).mono ?_);(case side1=>exact kC HR0_0.out HB.out);(case side2=>exact HC0_0.out);(case side3=>exact kC HR0_1.out HB.out);(case side4=>exact HC0_1.out);(case side5=>exact kC HR1.out HB.out);(case side6=>exact HC1.out);(case side7=>exact kC HR2.out HB.out);(case side8=>exact HC2.out);rintro e w21 ⟨rfl,hb⟩;refine ⟨_,rfl,?_⟩;replace BK297:=(kmv hb BK297);replace HB:=am (below_step (HB.out) hb);(try clear hb);(try clear hb2);(try clear hk);(try clear hi)))
    (try simp only [Act.put,List.setIfInBounds_toArray,List.set_cons_zero,List.set_cons_succ])
    go_cut [44] (fun v44 wc=>∃ (kq : Nat) (x44_18 : Bool),v44 = .bool x44_18∧Aside0 (l8_GateFeeds.j1 kq l1 l2 t300 t301 x44_18 l0_0 l0_1 = some r)∧Aside0 (kq≤kj3)∧Aside0 (wc.heap[gb297]? = some (.cells #[(.slice A0_0 l0_0.length c0_0),(.slice A0_1 l0_1.length c0_1)] 25 (0,0)))∧Aside0 (Below w.heap.size w wc))
    case first =>
     have H:=HC19.out
     clear HC19
     replace H:=obm H
     obtain ⟨t302,A220,H⟩:=H
     replace H : (if t302 = true then ((q8_Some.f kj3 l0_0 l0_1 l1).bind fun t303=>(if t303 = true then ((q8_Flows.f kj3 l0_0 l0_1 l2).bind fun t304=>(l8_GateFeeds.j1 kj3 l1 l2 t300 t301 (!t304) l0_0 l0_1)) else (l8_GateFeeds.j1 kj3 l1 l2 t300 t301 true l0_0 l0_1))) else (l8_GateFeeds.j1 kj3 l1 l2 t300 t301 true l0_0 l0_1)) = some r:=H
     have A22:=am A220
     clear A220
     by_cases c23 : t302 = true
     case neg =>
      replace c23:=Bool.eq_false_iff.mpr c23
      subst c23
      replace H : (l8_GateFeeds.j1 kj3 l1 l2 t300 t301 true l0_0 l0_1) = some r:=by rw [if_neg (show ¬ (false = true) by decide)] at H;exact H
      replace H':=am H
      obtain ⟨hcz37_0,hcz37_1⟩:=cO2 BK297.out
      go_wp2_with (first | ((with_reducible refine ga_callee (f:=17) rfl ?_);refine goesL_ (some 31) rfl rfl Tryz.func17 (by kernel_rfl) rfl #[.agg #[.slice A0_0 l0_0.length c0_0,.slice A0_1 l0_1.length c0_1]] rfl (by (try simp only [List.map_toArray,List.map_cons,List.map_nil]);first | done | rfl | (simp only [List.length_drop,List.length_take];rfl)) ?_;(refine (q8_Net.calls kj3 _ _ l0_0 _ _ l0_1 false _ ?side1 ?side2 ?side3 ?side4 A22.out).mono ?_);(case side1=>exact kC HR0_0.out HB.out);(case side2=>exact HC0_0.out);(case side3=>exact kC HR0_1.out HB.out);(case side4=>exact HC0_1.out);rintro e w38 ⟨rfl,hb⟩;refine ⟨_,rfl,?_⟩;replace BK297:=(kmv hb BK297);replace HB:=am (below_step (HB.out) hb);(try clear hb);(try clear hb2);(try clear hk);(try clear hi)))
      go_meet
      case rel=>exact ⟨_,(true),(by first | rfl | (simp;done) | (simp [*];done)),H',⟨by have:=HJ3.out;first | omega | exact Nat.le_refl _⟩,⟨BK297.out⟩,⟨HB.out⟩⟩
     subst c23
     replace H : ((q8_Some.f kj3 l0_0 l0_1 l1).bind fun t303=>(if t303 = true then ((q8_Flows.f kj3 l0_0 l0_1 l2).bind fun t304=>(l8_GateFeeds.j1 kj3 l1 l2 t300 t301 (!t304) l0_0 l0_1)) else (l8_GateFeeds.j1 kj3 l1 l2 t300 t301 true l0_0 l0_1))) = some r:=by rw [if_pos rfl] at H;exact H
     replace H:=obm H
     obtain ⟨t303,A240,H⟩:=H
     replace H : (if t303 = true then ((q8_Flows.f kj3 l0_0 l0_1 l2).bind fun t304=>(l8_GateFeeds.j1 kj3 l1 l2 t300 t301 (!t304) l0_0 l0_1)) else (l8_GateFeeds.j1 kj3 l1 l2 t300 t301 true l0_0 l0_1)) = some r:=H
     have A24:=am A240
     clear A240
     by_cases c25 : t303 = true
     case neg =>
      replace c25:=Bool.eq_false_iff.mpr c25
      subst c25
      replace H : (l8_GateFeeds.j1 kj3 l1 l2 t300 t301 true l0_0 l0_1) = some r:=by rw [if_neg (show ¬ (false = true) by decide)] at H;exact H
      replace H':=am H
      obtain ⟨hcz33_0,hcz33_1⟩:=cO2 BK297.out
      go_wp2_with (first | ((with_reducible refine ga_callee (f:=17) rfl ?_);refine goesL_ (some 31) rfl rfl Tryz.func17 (by kernel_rfl) rfl #[.agg #[.slice A0_0 l0_0.length c0_0,.slice A0_1 l0_1.length c0_1]] rfl (by (try simp only [List.map_toArray,List.map_cons,List.map_nil]);first | done | rfl | (simp only [List.length_drop,List.length_take];rfl)) ?_;(refine (q8_Net.calls kj3 _ _ l0_0 _ _ l0_1 true _ ?side1 ?side2 ?side3 ?side4 A22.out).mono ?_);(case side1=>exact kC HR0_0.out HB.out);(case side2=>exact HC0_0.out);(case side3=>exact kC HR0_1.out HB.out);(case side4=>exact HC0_1.out);rintro e w34 ⟨rfl,hb⟩;refine ⟨_,rfl,?_⟩;replace BK297:=(kmv hb BK297);replace HB:=am (below_step (HB.out) hb);(try clear hb);(try clear hb2);(try clear hk);(try clear hi);obtain ⟨hcz35_0,hcz35_1⟩:=cO2 BK297.out) | (go_at_call 18;(refine (q8_Some.calls kj3 _ _ l0_0 _ _ l0_1 _ _ l1 false _ ?side1 ?side2 ?side3 ?side4 ?side5 ?side6 A24.out).mono ?_);(case side1=>exact kC HR0_0.out HB.out);(case side2=>exact HC0_0.out);(case side3=>exact kC HR0_1.out HB.out);(case side4=>exact HC0_1.out);(case side5=>exact kC HR1.out HB.out);(case side6=>exact HC1.out);rintro e w36 ⟨rfl,hb⟩;replace BK297:=(kmv hb BK297);replace HB:=am (below_step (HB.out) hb);(try clear hb);(try clear hb2);(try clear hk);(try clear hi)))
      go_meet
      case rel=>exact ⟨_,(true),(by first | rfl | (simp;done) | (simp [*];done)),H',⟨by have:=HJ3.out;first | omega | exact Nat.le_refl _⟩,⟨BK297.out⟩,⟨HB.out⟩⟩
     subst c25
     replace H : ((q8_Flows.f kj3 l0_0 l0_1 l2).bind fun t304=>(l8_GateFeeds.j1 kj3 l1 l2 t300 t301 (!t304) l0_0 l0_1)) = some r:=by rw [if_pos rfl] at H;exact H
     replace H:=obm H
     obtain ⟨t304,A260,H⟩:=H
     replace H : (l8_GateFeeds.j1 kj3 l1 l2 t300 t301 (!t304) l0_0 l0_1) = some r:=H
     have A26:=am A260
     clear A260
     replace H':=am H
     obtain ⟨hcz27_0,hcz27_1⟩:=cO2 BK297.out
     go_wp2_with (first | ((with_reducible refine ga_callee (f:=17) rfl ?_);refine goesL_ (some 31) rfl rfl Tryz.func17 (by kernel_rfl) rfl #[.agg #[.slice A0_0 l0_0.length c0_0,.slice A0_1 l0_1.length c0_1]] rfl (by (try simp only [List.map_toArray,List.map_cons,List.map_nil]);first | done | rfl | (simp only [List.length_drop,List.length_take];rfl)) ?_;(refine (q8_Net.calls kj3 _ _ l0_0 _ _ l0_1 true _ ?side1 ?side2 ?side3 ?side4 A22.out).mono ?_);(case side1=>exact kC HR0_0.out HB.out);(case side2=>exact HC0_0.out);(case side3=>exact kC HR0_1.out HB.out);(case side4=>exact HC0_1.out);rintro e w28 ⟨rfl,hb⟩;refine ⟨_,rfl,?_⟩;replace BK297:=(kmv hb BK297);replace HB:=am (below_step (HB.out) hb);(try clear hb);(try clear hb2);(try clear hk);(try clear hi);obtain ⟨hcz29_0,hcz29_1⟩:=cO2 BK297.out) | (go_at_call 18;(refine (q8_Some.calls kj3 _ _ l0_0 _ _ l0_1 _ _ l1 true _ ?side1 ?side2 ?side3 ?side4 ?side5 ?side6 A24.out).mono ?_);(case side1=>exact kC HR0_0.out HB.out);(case side2=>exact HC0_0.out);(case side3=>exact kC HR0_1.out HB.out);(case side4=>exact HC0_1.out);(case side5=>exact kC HR1.out HB.out);(case side6=>exact HC1.out);rintro e w30 ⟨rfl,hb⟩;replace BK297:=(kmv hb BK297);replace HB:=am (below_step (HB.out) hb);(try clear hb);(try clear hb2);(try clear hk);(try clear hi);obtain ⟨hcz31_0,hcz31_1⟩:=cO2 BK297.out) | (go_at_call 19;(refine (q8_Flows.calls kj3 _ _ l0_0 _ _ l0_1 _ _ l2 t304 _ ?side1 ?side2 ?side3 ?side4 ?side5 ?side6 A26.out).mono ?_);(case side1=>exact kC HR0_0.out HB.out);(case side2=>exact HC0_0.out);(case side3=>exact kC HR0_1.out HB.out);(case side4=>exact HC0_1.out);(case side5=>exact kC HR2.out HB.out);(case side6=>exact HC2.out);rintro e w32 ⟨rfl,hb⟩;replace BK297:=(kmv hb BK297);replace HB:=am (below_step (HB.out) hb);(try clear hb);(try clear hb2);(try clear hk);(try clear hi)))
     go_meet
     case rel=>exact ⟨_,(!t304),(by first | rfl | (simp;done) | (simp [*];done)),H',⟨by have:=HJ3.out;first | omega | exact Nat.le_refl _⟩,⟨BK297.out⟩,⟨HB.out⟩⟩
    case rest =>
     clear HC19
     obtain ⟨kq,x44_18,rfl,HA,HJ18,BK297,HB⟩:=hcut
     cases kq with
     | zero=>exact absurd HA.out (by simp [l8_GateFeeds.j1])
     | succ kj18 =>
      have H:=HA.out
      clear HA
      simp only [l8_GateFeeds.j1] at H
      by_cases c39 : x44_18 = true
      ·subst c39
       replace H : (if t301 = 2 then (if t300 = true then (some false) else ((l8_known.f).bind fun t305=>(some t305))) else (some false)) = some r:=by rw [if_pos rfl] at H;exact H
       by_cases c40 : t301 = 2
       case neg =>
        rw [if_neg c40] at H
        have c40b0 : (t301 == 2) = false:=beq_eq_false_iff_ne.mpr c40
        have c40b1 : (t301 != 2) = true:=bne_iff_ne.mpr c40
        obtain rfl:=Option.some.inj H
        go_wp2
        go_ret
        exact ⟨by first | rfl | (simp [*]<;>rfl),HB.out⟩
       rw [if_pos c40] at H
       have c40b0 : (t301 == 2) = true:=beq_iff_eq.mpr c40
       have c40b1 : (t301 != 2) = false:=bne_eq_false_iff_eq.mpr c40
       clear c40
       by_cases c41 : t300 = true
       ·subst c41
        replace H : (some false) = some r:=by rw [if_pos rfl] at H;exact H
        obtain rfl:=Option.some.inj H
        go_wp2
        go_ret
        exact ⟨by first | rfl | (simp [*]<;>rfl),HB.out⟩
       ·replace c41:=Bool.eq_false_iff.mpr c41
        subst c41
        replace H : ((l8_known.f).bind fun t305=>(some t305)) = some r:=by rw [if_neg (show ¬ (false = true) by decide)] at H;exact H
        replace H:=obm H
        obtain ⟨t305,A420,H⟩:=H
        replace H : (some t305) = some r:=H
        have A42:=am A420
        clear A420
        obtain rfl:=Option.some.inj H
        go_wp2_with (first | (go_at_call 15;(refine (l8_known.calls  t305 _ A42.out).mono ?_);rintro e w43 ⟨rfl,hb⟩;replace BK297:=(kmv hb BK297);replace HB:=am (below_step (HB.out) hb);(try clear hb);(try clear hb2);(try clear hk);(try clear hi)))
        go_ret
        exact ⟨by first | rfl | (simp [*]<;>rfl),HB.out⟩
      ·replace c39:=Bool.eq_false_iff.mpr c39
       subst c39
       replace H : (if t301 = 0 then ((q8_Feeds.f kj18 l0_0 l0_1 l1 l2).bind fun t306=>(if (t300 == t306) = true then ((l8_known.f).bind fun t307=>(some t307)) else (some false))) else (some false)) = some r:=by rw [if_neg (show ¬ (false = true) by decide)] at H;exact H
       by_cases c44 : t301 = 0
       case neg =>
        rw [if_neg c44] at H
        have c44b0 : (t301 == 0) = false:=beq_eq_false_iff_ne.mpr c44
        have c44b1 : (t301 != 0) = true:=bne_iff_ne.mpr c44
        obtain rfl:=Option.some.inj H
        go_wp2
        go_ret
        exact ⟨by first | rfl | (simp [*]<;>rfl),HB.out⟩
       rw [if_pos c44] at H
       have c44b0 : (t301 == 0) = true:=beq_iff_eq.mpr c44
       have c44b1 : (t301 != 0) = false:=bne_eq_false_iff_eq.mpr c44
       clear c44
       replace H:=obm H
       obtain ⟨t306,A450,H⟩:=H
       replace H : (if (t300 == t306) = true then ((l8_known.f).bind fun t307=>(some t307)) else (some false)) = some r:=H
       have A45:=am A450
       clear A450
       by_cases c46 : (t300 == t306) = true
       case neg =>
        rw [if_neg c46] at H
        have c46b0 : (t300 == t306) = false:=by simpa using c46
        (try (have c46b1 : decide (t300 = t306) = false:=by simpa using c46))
        (try (have c46b2 : (t300 == t306) = false:=by simpa using c46))
        (try (have c46b3 : ¬ (t300 = t306):=by simpa using c46))
        clear c46
        obtain rfl:=Option.some.inj H
        obtain ⟨hcz51_0,hcz51_1⟩:=cO2 BK297.out
        go_wp2_with (first | (go_at_call 20;(refine (q8_Feeds.calls kj18 _ _ l0_0 _ _ l0_1 _ _ l1 _ _ l2 t306 _ ?side1 ?side2 ?side3 ?side4 ?side5 ?side6 ?side7 ?side8 A45.out).mono ?_);(case side1=>exact kC HR0_0.out HB.out);(case side2=>exact HC0_0.out);(case side3=>exact kC HR0_1.out HB.out);(case side4=>exact HC0_1.out);(case side5=>exact kC HR1.out HB.out);(case side6=>exact HC1.out);(case side7=>exact kC HR2.out HB.out);(case side8=>exact HC2.out);rintro e w52 ⟨rfl,hb⟩;replace BK297:=(kmv hb BK297);replace HB:=am (below_step (HB.out) hb);(try clear hb);(try clear hb2);(try clear hk);(try clear hi)))
        go_ret
        exact ⟨by first | rfl | (simp [*]<;>rfl),HB.out⟩
       rw [if_pos c46] at H
       have c46b0 : (t300 == t306) = true:=c46
       (try (have c46b1 : decide (t300 = t306) = true:=by simpa using c46))
       (try (have c46b2 : (t300 == t306) = true:=by simpa using c46))
       clear c46
       replace H:=obm H
       obtain ⟨t307,A470,H⟩:=H
       replace H : (some t307) = some r:=H
       have A47:=am A470
       clear A470
       obtain rfl:=Option.some.inj H
       obtain ⟨hcz48_0,hcz48_1⟩:=cO2 BK297.out
       go_wp2_with (first | (go_at_call 20;(refine (q8_Feeds.calls kj18 _ _ l0_0 _ _ l0_1 _ _ l1 _ _ l2 t306 _ ?side1 ?side2 ?side3 ?side4 ?side5 ?side6 ?side7 ?side8 A45.out).mono ?_);(case side1=>exact kC HR0_0.out HB.out);(case side2=>exact HC0_0.out);(case side3=>exact kC HR0_1.out HB.out);(case side4=>exact HC0_1.out);(case side5=>exact kC HR1.out HB.out);(case side6=>exact HC1.out);(case side7=>exact kC HR2.out HB.out);(case side8=>exact HC2.out);rintro e w49 ⟨rfl,hb⟩;replace BK297:=(kmv hb BK297);replace HB:=am (below_step (HB.out) hb);(try clear hb);(try clear hb2);(try clear hk);(try clear hi)) | (go_at_call 15;(refine (l8_known.calls  t307 _ A47.out).mono ?_);rintro e w50 ⟨rfl,hb⟩;replace BK297:=(kmv hb BK297);replace HB:=am (below_step (HB.out) hb);(try clear hb);(try clear hb2);(try clear hk);(try clear hi)))
       go_ret
       exact ⟨by first | rfl | (simp [*]<;>rfl),HB.out⟩
end Go.Proofs.YtclkbedbocnpkaaGreatDoor.C
namespace Go.Proofs.YtclkbedbocnpkaaGreatDoor.C
open Go Go.RowKit Go.Proofs.YtclkbedbocnpkaaGreatDoorW.PrintWords Go.Proofs.YtclkbedbocnpkaaGreatDoorW.PrintLast Go.Proofs.YtclkbedbocnpkaaGreatDoorW.PrintMore
set_option linter.unusedVariables false
set_option linter.unusedSimpArgs false
set_option maxHeartbeats 16000000
set_option maxRecDepth 100000
theorem feeds_pure (pts : List Pt) (ch : List Ch) (op fl : List Int) {k : Nat} (hk : 130000≤k) : l8_GateFeeds.f k pts ch op fl = some true:=by
 obtain ⟨k,rfl⟩ : ∃ m,k = m + 2:=⟨k - 2,by omega⟩
 unfold l8_GateFeeds.f
 rw [short_eq]
 simp only [Option.bind_some]
 by_cases hs : shortB pts ch = true
 case neg=>rw [if_neg hs];simp only [l8_GateFeeds.j0,known_true];rfl
 obtain ⟨hp,hc⟩:=shortB_iff.1 hs
 rw [if_pos hs]
 by_cases hl : (op.length : Int) > 10
 ·rw [if_pos hl];simp only [l8_GateFeeds.j0,known_true];rfl
 rw [if_neg hl]
 by_cases hl2 : (fl.length : Int) > 13
 ·rw [decide_eq_true hl2];simp only [l8_GateFeeds.j0,known_true];rfl
 rw [decide_eq_false hl2]
 simp only [l8_GateFeeds.j0]
 rw [if_neg (by simp),gFeeds_eq (by omega) (by omega) (by omega) (by omega),rNet_eq (by omega) (by omega) (by omega)]
 simp only [Option.bind_some]
 by_cases hn : netS pts ch = true
 case neg=>simp [hn,openS,l8_GateFeeds.j1,known_true]
 rw [if_pos hn,rSome_eq (by omega) (by omega) (by omega)]
 simp only [Option.bind_some]
 by_cases hm : someS ch op = true
 case neg=>simp [hn,hm,openS,l8_GateFeeds.j1,known_true]
 rw [if_pos hm,rFlows_eq (by omega) (by omega)]
 simp only [Option.bind_some]
 by_cases hf : flowsS ch fl = true
 case neg=>simp [hn,hm,hf,openS,l8_GateFeeds.j1,known_true]
 simp only [l8_GateFeeds.j1,hn,hm,hf,openS]
 rw [if_neg (by simp),rFeeds_eq hn (by omega) hf (by omega)]
 simp [known_true]
end Go.Proofs.YtclkbedbocnpkaaGreatDoor.C

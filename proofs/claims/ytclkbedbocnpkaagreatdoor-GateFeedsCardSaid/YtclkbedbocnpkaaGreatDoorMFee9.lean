/- A part of the proof: the walks of the functions that it reaches. TIGHT. -/
import Derived.Test.YtclkbedbocnpkaaGreatDoorMFee8
import Derived.Test.YtclkbedbocnpkaaGreatDoorMFee5
set_option linter.unusedVariables false
set_option linter.unusedSimpArgs false
namespace Go.Proofs.YtclkbedbocnpkaaGreatDoor.C
open Go.RowKit Go.Proofs.YtclkbedbocnpkaaGreatDoorW.PrintWords Go.Proofs.YtclkbedbocnpkaaGreatDoorW.PrintLast Go.Proofs.YtclkbedbocnpkaaGreatDoorW.PrintMore
set_option linter.unusedVariables false
set_option linter.unusedSimpArgs false
set_option maxHeartbeats 16000000
set_option maxRecDepth 100000
def q8_Some.l0 : Nat→List Int→Int→List (S37)→List (S65)→Option (Bool)
 | 0,_,_,_,_=>none
 | k + 1,x1,x5,x273000,x273001=>if x5 < (x1.length : Int) then (if 0≤x5 then ((q8_Gate.f x273000 x273001 (rd x1 x5)).bind fun t274=>(if t274 = true then (if x5 > 0 then (if 0≤(wrap64 (x5 - 1)) then (if (wrap64 (x5 - 1)) < (x1.length : Int) then (if (rd x1 x5)≤(rd x1 (wrap64 (x5 - 1))) then (some false) else (q8_Some.l0 k x1 (wrap64 (x5 + 1)) x273000 x273001)) else (none)) else (none)) else (q8_Some.l0 k x1 (wrap64 (x5 + 1)) x273000 x273001)) else (some false))) else (none)) else (some true)
def q8_Some.f (k : Nat) (l0_0 : List (S37)) (l0_1 : List (S65)) (l1 : List Int) : Option (Bool):=q8_Some.l0 k l1 0 l0_0 l0_1
def q8_Some.T4 : Bool × List (List Nat × List Nat):=(true,[([],[]),([],[]),([],[]),([1,2],[1,2]),([3],[3]),([0,4],[0,4]),([5],[5]),([6,5],[6]),([7],[7]),([8,7],[7,8]),([9,7,7],[7,9]),([10],[10]),([10],[10]),([11,12,10],[10,11,12]),([13,10],[10,13]),([10],[10]),([10],[10]),([16,10],[10,16]),([15,17,10],[10,15,17]),([18,10],[10,18]),([14,19,10],[10,14,19]),([10,20,7],[7,10,20]),([7,21],[7,21])])
def q8_Some.B4 : List Nat:=[0,0,0,6,14,31,63,127,255,511,1023,2047,2047,8191,16383,2047,2047,67583,231423,493567,1048575,2097151,4194303]
theorem q8_Some.tab4 : rtab .any (opsOf Tryz.f18 4) = q8_Some.T4:=by kernel_rfl
theorem q8_Some.bits4 : waitsOk q8_Some.T4.2 q8_Some.B4 = true:=by kernel_rfl
theorem q8_Some.calls (k : Nat) (A0_0 : Option Addr) (c0_0 : Nat) (l0_0 : List (S37)) (A0_1 : Option Addr) (c0_1 : Nat) (l0_1 : List (S65)) (A1 : Option Addr) (c1 : Nat) (l1 : List Int) (r : Bool) (w : World) (hr0_0 : Kd.C k37 w A0_0 l0_0.length l0_0) (hc0_0 : l0_0.length≤c0_0) (hr0_1 : Kd.C k65 w A0_1 l0_1.length l0_1) (hc0_1 : l0_1.length≤c0_1) (hr1 : Kd.C (Kd.int .i64) w A1 l1.length l1) (hc1 : l1.length≤c1) (h : q8_Some.f k l0_0 l0_1 l1 = some r) :
 Calls Tryz.prog 18 #[.agg #[.slice A0_0 l0_0.length c0_0,.slice A0_1 l0_1.length c0_1],.slice A1 l1.length c1] w fun e w'=>e = .returned (.bool r)∧Below w.heap.size w w':=by
 have hu25:=Tryz.underlying25
 have HR0_0:=am hr0_0
 have HC0_0:=am hc0_0
 clear hr0_0 hc0_0
 have HR0_1:=am hr0_1
 have HC0_1:=am hc0_1
 clear hr0_1 hc0_1
 have HR1:=am hr1
 have HC1:=am hc1
 clear hr1 hc1
 have HB:=am (Below.refl w.heap.size w)
 have H : (q8_Some.l0 k l1 0 l0_0 l0_1) = some r:=h
 clear h
 replace H':=am H
 go_enter Tryz.func18,Tryz.ntmps18
 go_wp2_with (first | ((refine ga_dst (N:=2) rfl ?_);refine box_event rfl (N:=2) rfl (cs:=#[.slice A0_0 l0_0.length c0_0,.slice A0_1 l0_1.length c0_1]) (t:=25) ?hr ?_;(case hr=>go_simp;try rfl);intro gb272 hg w3 hbox hb;have BK272:=am (hbox);have GW272:=am (ge_new (HB.out) hg);have GE272:=am (ge_new (HB.out) hg);replace HB:=am (below_step (HB.out) hb);clear hb hbox hg))
 go_loopg [5] k (fun kq v5 w'=>∃ (x5_1 : Int),v5 = .int .i64 x5_1∧Aside0 (q8_Some.l0 kq l1 x5_1 l0_0 l0_1 = some r)∧Aside0 (kq≤k)∧Aside0 (w'.heap[gb272]? = some (.cells #[(.slice A0_0 l0_0.length c0_0),(.slice A0_1 l0_1.length c0_1)] 25 (0,0)))∧Aside0 (Below w.heap.size w w'))
 case atStart=>exact ⟨(0),(by first | rfl | (simp;done) | (simp [*];done)),H',⟨Nat.le_refl _⟩,⟨BK272.out⟩,⟨HB.out⟩⟩
 case round =>
  clear H'
  obtain ⟨x5_1,rfl,HA,HK1,BK272,HB⟩:=hrel
  cases gk with
  | zero=>exact absurd HA.out (by simp [q8_Some.l0])
  | succ k1 =>
   have H:=HA.out
   clear HA
   simp only [q8_Some.l0] at H
   by_cases c4 : x5_1 < (l1.length : Int)
   case neg =>
    rw [if_neg c4] at H
    have c4b0 : decide (x5_1 < (l1.length : Int)) = false:=decide_eq_false c4
    clear c4
    obtain rfl:=Option.some.inj H
    go_wp2
    go_ret
    exact ⟨by first | rfl | (simp [*]<;>rfl),HB.out⟩
   rw [if_pos c4] at H
   have c4b0 : decide (x5_1 < (l1.length : Int)) = true:=decide_eq_true c4
   clear c4
   by_cases c5 : 0≤x5_1
   case neg =>
    rw [if_neg c5] at H
    exact absurd H (by simp)
   rw [if_pos c5] at H
   have c5b0 : decide (0≤x5_1) = true:=decide_eq_true c5
   clear c5
   replace H:=obm H
   obtain ⟨t274,A60,H⟩:=H
   replace H : (if t274 = true then (if x5_1 > 0 then (if 0≤(wrap64 (x5_1 - 1)) then (if (wrap64 (x5_1 - 1)) < (l1.length : Int) then (if (rd l1 x5_1)≤(rd l1 (wrap64 (x5_1 - 1))) then (some false) else (q8_Some.l0 k1 l1 (wrap64 (x5_1 + 1)) l0_0 l0_1)) else (none)) else (none)) else (q8_Some.l0 k1 l1 (wrap64 (x5_1 + 1)) l0_0 l0_1)) else (some false)) = some r:=H
   have A6:=am A60
   clear A60
   by_cases c7 : t274 = true
   case neg =>
    replace c7:=Bool.eq_false_iff.mpr c7
    subst c7
    replace H : (some false) = some r:=by rw [if_neg (show ¬ (false = true) by decide)] at H;exact H
    obtain rfl:=Option.some.inj H
    try go_wp2
    replace BK272:=am (blk_drew BK272.out)
    replace HB:=am (below_drew1 HB.out)
    have p273 : 0≤(x5_1 : Int):=of_decide_eq_true (by assumption)
    have q273 : x5_1 < (l1.length : Int):=of_decide_eq_true (by assumption)
    obtain ⟨ad273,e273,hx273_0⟩:=Kd.at_int HR1.out x5_1 p273 q273
    have hw273_0:=hx273_0
    cases e273
    replace hx273_0:=(HB.out.cell (wbl hx273_0)).trans hx273_0
    replace p273:=eq_true p273
    replace q273:=eq_true q273
    refine start_ (n:=23) (S:=fun w'=>w'.cell? ⟨gb272,0,none⟩ = some (.slice A0_0 l0_0.length c0_0)∧w'.cell? ⟨gb272,1,none⟩ = some (.slice A0_1 l0_1.length c0_1)∧w'.cell? (ad273.add (x5_1).toNat) = some (.int .i64 (rd l1 x5_1))) (ds:=[]) (ba 23 0) (by kernel_rfl) rfl rfl ⟨(blk_cell BK272.out 0).trans rfl,(blk_cell BK272.out 1).trans rfl,((HB.out.cell (wbl hw273_0)).trans hw273_0)⟩ (fun hHeld=>?_);refine with_tabW q8_Some.tab4 q8_Some.bits4 (fun HT_ HW_=>?_)
    generalize wr.drew = w19 at BK272 HB hx273_0 hHeld ⊢
    refine pure_ (i:=1) (N:=some 13) (v:=?_) (a':=?_) (ba 23 2) rfl rfl (any_of HT_.out (by kernel_rfl)) (fun _ _ _ h=>h) (Or.inl ⟨by rfl,?_⟩) ?_ ?_
    rotate_left
    ·intro w'
     go_simp
     with_reducible rfl
    rotate_left
    ·simp only [Act.put,NRM]
     rfl
    refine pure_ (i:=2) (N:=some 14) (v:=?_) (a':=?_) (ba 23 6) rfl rfl (any_of HT_.out (by kernel_rfl)) (fun _ _ _ h=>h) (Or.inl ⟨by rfl,?_⟩) ?_ ?_
    rotate_left
    ·intro w'
     go_simp
     with_reducible rfl
    rotate_left
    ·simp only [Act.put,NRM]
     rfl
    refine pure_ (i:=3) (N:=some 15) (v:=?_) (a':=?_) (ba 23 14) rfl rfl (any_of HT_.out (by kernel_rfl)) (fun _ _ _ h=>h) (Or.inl ⟨by rfl,?_⟩) ?_ ?_
    rotate_left
    ·intro w'
     go_simp
     with_reducible rfl
    rotate_left
    ·simp only [Act.put,NRM]
     rfl
    refine take_ (i:=0) (N:=some 12) (v:=?_) (a':=?_) (ba 23 15) rfl rfl (take_ofW HT_.out HW_.out (by kernel_rfl)) (fun _ _ _ h=>h) (Or.inl ⟨by rfl,?_⟩) hHeld ?_ ?_
    rotate_left
    ·rintro w' ⟨s0,s1,s2⟩
     go_simp
     with_reducible rfl
    rotate_left
    ·simp only [Act.put,NRM]
     rfl
    refine take_ (i:=4) (N:=some 16) (v:=?_) (a':=?_) (ba 23 31) rfl rfl (take_ofW HT_.out HW_.out (by kernel_rfl)) (fun _ _ _ h=>h) (Or.inl ⟨by rfl,?_⟩) hHeld ?_ ?_
    rotate_left
    ·rintro w' ⟨s0,s1,s2⟩
     go_simp
     with_reducible rfl
    rotate_left
    ·simp only [Act.put,NRM]
     rfl
    refine one_ (i:=5) (N:=some 17) (ba 23 63) rfl rfl (one_of HT_.out (by kernel_rfl)) (by decide) (fun K hK=>?_)
    refine goes_ Tryz.func42 (by kernel_rfl) rfl #[.agg #[.slice A0_0 l0_0.length c0_0,.slice A0_1 l0_1.length c0_1],.int .i64 (rd l1 x5_1)] (by rfl) rfl rfl (by (try simp only [List.map_toArray,List.map_cons,List.map_nil]);first | done | rfl | (simp only [List.length_drop,List.length_take];rfl)) ?_
    with_reducible refine (q8_Gate.calls _ _ l0_0 _ _ l0_1 (rd l1 x5_1) false _ ?side1 ?side2 ?side3 ?side4 A6.out).mono ?_
    (case side1=>exact kC HR0_0.out HB.out)
    (case side2=>exact HC0_0.out)
    (case side3=>exact kC HR0_1.out HB.out)
    (case side4=>exact HC0_1.out)
    rintro e w20 ⟨rfl,hb⟩
    refine ⟨_,rfl,?_⟩
    replace BK272:=(kmv hb BK272)
    replace HB:=am (below_step (HB.out) hb)
    (try clear hb)
    (try clear hb2)
    (try clear hk)
    (try clear hi)
    refine hK.out _ _ ⟨(blk_cell BK272.out 0).trans rfl,(blk_cell BK272.out 1).trans rfl,((HB.out.cell (wbl hw273_0)).trans hw273_0)⟩ (fun hHeld=>?_)
    clear hK K
    refine norm_ (a':=?_) ?_ ?_
    rotate_left
    ·show Act.put _ (some 17) _ = _
     simp only [Act.put,NRM]
     rfl
    refine pure_ (i:=6) (N:=some 18) (v:=?_) (a':=?_) (ba 23 127) rfl rfl (any_of HT_.out (by kernel_rfl)) (fun _ _ _ h=>h) (Or.inl ⟨by rfl,?_⟩) ?_ ?_
    rotate_left
    ·intro w'
     go_simp
     with_reducible rfl
    rotate_left
    ·simp only [Act.put,NRM]
     rfl
    refine pure_ (i:=7) (N:=some 19) (v:=?_) (a':=?_) (ba 23 255) rfl rfl (any_of HT_.out (by kernel_rfl)) (fun _ _ _ h=>h) (Or.inl ⟨by rfl,?_⟩) ?_ ?_
    rotate_left
    ·intro w'
     go_simp
     with_reducible rfl
    rotate_left
    ·simp only [Act.put,NRM]
     rfl
    refine pure_ (i:=8) (N:=some 20) (v:=undef) (a':=?_) (ba 23 511) rfl rfl (any_of HT_.out (by kernel_rfl)) (fun _ _ _ h=>h) (Or.inr ⟨by rfl,rfl⟩) ?_ ?_
    rotate_left
    ·simp only [Act.put,NRM]
     rfl
    refine pure_ (i:=9) (N:=some 21) (v:=undef) (a':=?_) (ba 23 1023) rfl rfl (any_of HT_.out (by kernel_rfl)) (fun _ _ _ h=>h) (Or.inr ⟨by rfl,rfl⟩) ?_ ?_
    rotate_left
    ·simp only [Act.put,NRM]
     rfl
    refine pure_ (i:=10) (N:=some 22) (v:=undef) (a':=?_) (ba 23 2047) rfl rfl (any_of HT_.out (by kernel_rfl)) (fun _ _ _ h=>h) (Or.inr ⟨by rfl,rfl⟩) ?_ ?_
    rotate_left
    ·simp only [Act.put,NRM]
     rfl
    refine pure_ (i:=11) (N:=some 23) (v:=undef) (a':=?_) (ba 23 4095) rfl rfl (any_of HT_.out (by kernel_rfl)) (fun _ _ _ h=>h) (Or.inr ⟨by rfl,rfl⟩) ?_ ?_
    rotate_left
    ·simp only [Act.put,NRM]
     rfl
    refine pure_ (i:=12) (N:=some 24) (v:=undef) (a':=?_) (ba 23 8191) rfl rfl (any_of HT_.out (by kernel_rfl)) (fun _ _ _ h=>h) (Or.inr ⟨by rfl,rfl⟩) ?_ ?_
    rotate_left
    ·simp only [Act.put,NRM]
     rfl
    refine pure_ (i:=13) (N:=some 25) (v:=undef) (a':=?_) (ba 23 16383) rfl rfl (any_of HT_.out (by kernel_rfl)) (fun _ _ _ h=>h) (Or.inr ⟨by rfl,rfl⟩) ?_ ?_
    rotate_left
    ·simp only [Act.put,NRM]
     rfl
    refine pure_ (i:=14) (N:=some 26) (v:=undef) (a':=?_) (ba 23 32767) rfl rfl (any_of HT_.out (by kernel_rfl)) (fun _ _ _ h=>h) (Or.inr ⟨by rfl,rfl⟩) ?_ ?_
    rotate_left
    ·simp only [Act.put,NRM]
     rfl
    refine pure_ (i:=15) (N:=some 27) (v:=undef) (a':=?_) (ba 23 65535) rfl rfl (any_of HT_.out (by kernel_rfl)) (fun _ _ _ h=>h) (Or.inr ⟨by rfl,rfl⟩) ?_ ?_
    rotate_left
    ·simp only [Act.put,NRM]
     rfl
    refine pure_ (i:=16) (N:=some 28) (v:=undef) (a':=?_) (ba 23 131071) rfl rfl (any_of HT_.out (by kernel_rfl)) (fun _ _ _ h=>h) (Or.inr ⟨by rfl,rfl⟩) ?_ ?_
    rotate_left
    ·simp only [Act.put,NRM]
     rfl
    refine pure_ (i:=17) (N:=some 29) (v:=undef) (a':=?_) (ba 23 262143) rfl rfl (any_of HT_.out (by kernel_rfl)) (fun _ _ _ h=>h) (Or.inr ⟨by rfl,rfl⟩) ?_ ?_
    rotate_left
    ·simp only [Act.put,NRM]
     rfl
    refine pure_ (i:=18) (N:=some 30) (v:=undef) (a':=?_) (ba 23 524287) rfl rfl (any_of HT_.out (by kernel_rfl)) (fun _ _ _ h=>h) (Or.inr ⟨by rfl,rfl⟩) ?_ ?_
    rotate_left
    ·simp only [Act.put,NRM]
     rfl
    refine pure_ (i:=19) (N:=some 31) (v:=undef) (a':=?_) (ba 23 1048575) rfl rfl (any_of HT_.out (by kernel_rfl)) (fun _ _ _ h=>h) (Or.inr ⟨by rfl,rfl⟩) ?_ ?_
    rotate_left
    ·simp only [Act.put,NRM]
     rfl
    refine pure_ (i:=20) (N:=some 32) (v:=undef) (a':=?_) (ba 23 2097151) rfl rfl (any_of HT_.out (by kernel_rfl)) (fun _ _ _ h=>h) (Or.inr ⟨by rfl,rfl⟩) ?_ ?_
    rotate_left
    ·simp only [Act.put,NRM]
     rfl
    refine pure_ (i:=21) (N:=some 33) (v:=undef) (a':=?_) (ba 23 4194303) rfl rfl (any_of HT_.out (by kernel_rfl)) (fun _ _ _ h=>h) (Or.inr ⟨by rfl,rfl⟩) ?_ ?_
    rotate_left
    ·simp only [Act.put,NRM]
     rfl
    refine pure_ (i:=22) (N:=some 34) (v:=?_) (a':=?_) (ba 23 8388607) rfl rfl (any_of HT_.out (by kernel_rfl)) (fun _ _ _ h=>h) (Or.inl ⟨by rfl,?_⟩) ?_ ?_
    rotate_left
    ·intro w'
     go_simp
     with_reducible rfl
    rotate_left
    ·simp only [Act.put,NRM]
     rfl
    refine done_ (done_of HT_.out (by kernel_rfl)) ?_
    try go_wp2
    go_ret
    exact ⟨by first | rfl | (simp [*]<;>rfl),HB.out⟩
   subst c7
   replace H : (if x5_1 > 0 then (if 0≤(wrap64 (x5_1 - 1)) then (if (wrap64 (x5_1 - 1)) < (l1.length : Int) then (if (rd l1 x5_1)≤(rd l1 (wrap64 (x5_1 - 1))) then (some false) else (q8_Some.l0 k1 l1 (wrap64 (x5_1 + 1)) l0_0 l0_1)) else (none)) else (none)) else (q8_Some.l0 k1 l1 (wrap64 (x5_1 + 1)) l0_0 l0_1)) = some r:=by rw [if_pos rfl] at H;exact H
   by_cases c8 : x5_1 > 0
   case neg =>
    rw [if_neg c8] at H
    have c8b0 : decide (0 < x5_1) = false:=decide_eq_false c8
    clear c8
    replace H':=am H
    try go_wp2
    replace BK272:=am (blk_drew BK272.out)
    replace HB:=am (below_drew1 HB.out)
    have p273 : 0≤(x5_1 : Int):=of_decide_eq_true (by assumption)
    have q273 : x5_1 < (l1.length : Int):=of_decide_eq_true (by assumption)
    obtain ⟨ad273,e273,hx273_0⟩:=Kd.at_int HR1.out x5_1 p273 q273
    have hw273_0:=hx273_0
    cases e273
    replace hx273_0:=(HB.out.cell (wbl hx273_0)).trans hx273_0
    replace p273:=eq_true p273
    replace q273:=eq_true q273
    refine start_ (n:=23) (S:=fun w'=>w'.cell? ⟨gb272,0,none⟩ = some (.slice A0_0 l0_0.length c0_0)∧w'.cell? ⟨gb272,1,none⟩ = some (.slice A0_1 l0_1.length c0_1)∧w'.cell? (ad273.add (x5_1).toNat) = some (.int .i64 (rd l1 x5_1))) (ds:=[]) (ba 23 0) (by kernel_rfl) rfl rfl ⟨(blk_cell BK272.out 0).trans rfl,(blk_cell BK272.out 1).trans rfl,((HB.out.cell (wbl hw273_0)).trans hw273_0)⟩ (fun hHeld=>?_);refine with_tabW q8_Some.tab4 q8_Some.bits4 (fun HT_ HW_=>?_)
    generalize wr.drew = w17 at BK272 HB hx273_0 hHeld ⊢
    refine pure_ (i:=1) (N:=some 13) (v:=?_) (a':=?_) (ba 23 2) rfl rfl (any_of HT_.out (by kernel_rfl)) (fun _ _ _ h=>h) (Or.inl ⟨by rfl,?_⟩) ?_ ?_
    rotate_left
    ·intro w'
     go_simp
     with_reducible rfl
    rotate_left
    ·simp only [Act.put,NRM]
     rfl
    refine pure_ (i:=2) (N:=some 14) (v:=?_) (a':=?_) (ba 23 6) rfl rfl (any_of HT_.out (by kernel_rfl)) (fun _ _ _ h=>h) (Or.inl ⟨by rfl,?_⟩) ?_ ?_
    rotate_left
    ·intro w'
     go_simp
     with_reducible rfl
    rotate_left
    ·simp only [Act.put,NRM]
     rfl
    refine pure_ (i:=3) (N:=some 15) (v:=?_) (a':=?_) (ba 23 14) rfl rfl (any_of HT_.out (by kernel_rfl)) (fun _ _ _ h=>h) (Or.inl ⟨by rfl,?_⟩) ?_ ?_
    rotate_left
    ·intro w'
     go_simp
     with_reducible rfl
    rotate_left
    ·simp only [Act.put,NRM]
     rfl
    refine take_ (i:=0) (N:=some 12) (v:=?_) (a':=?_) (ba 23 15) rfl rfl (take_ofW HT_.out HW_.out (by kernel_rfl)) (fun _ _ _ h=>h) (Or.inl ⟨by rfl,?_⟩) hHeld ?_ ?_
    rotate_left
    ·rintro w' ⟨s0,s1,s2⟩
     go_simp
     with_reducible rfl
    rotate_left
    ·simp only [Act.put,NRM]
     rfl
    refine take_ (i:=4) (N:=some 16) (v:=?_) (a':=?_) (ba 23 31) rfl rfl (take_ofW HT_.out HW_.out (by kernel_rfl)) (fun _ _ _ h=>h) (Or.inl ⟨by rfl,?_⟩) hHeld ?_ ?_
    rotate_left
    ·rintro w' ⟨s0,s1,s2⟩
     go_simp
     with_reducible rfl
    rotate_left
    ·simp only [Act.put,NRM]
     rfl
    refine one_ (i:=5) (N:=some 17) (ba 23 63) rfl rfl (one_of HT_.out (by kernel_rfl)) (by decide) (fun K hK=>?_)
    refine goes_ Tryz.func42 (by kernel_rfl) rfl #[.agg #[.slice A0_0 l0_0.length c0_0,.slice A0_1 l0_1.length c0_1],.int .i64 (rd l1 x5_1)] (by rfl) rfl rfl (by (try simp only [List.map_toArray,List.map_cons,List.map_nil]);first | done | rfl | (simp only [List.length_drop,List.length_take];rfl)) ?_
    with_reducible refine (q8_Gate.calls _ _ l0_0 _ _ l0_1 (rd l1 x5_1) true _ ?side1 ?side2 ?side3 ?side4 A6.out).mono ?_
    (case side1=>exact kC HR0_0.out HB.out)
    (case side2=>exact HC0_0.out)
    (case side3=>exact kC HR0_1.out HB.out)
    (case side4=>exact HC0_1.out)
    rintro e w18 ⟨rfl,hb⟩
    refine ⟨_,rfl,?_⟩
    replace BK272:=(kmv hb BK272)
    replace HB:=am (below_step (HB.out) hb)
    (try clear hb)
    (try clear hb2)
    (try clear hk)
    (try clear hi)
    refine hK.out _ _ ⟨(blk_cell BK272.out 0).trans rfl,(blk_cell BK272.out 1).trans rfl,((HB.out.cell (wbl hw273_0)).trans hw273_0)⟩ (fun hHeld=>?_)
    clear hK K
    refine norm_ (a':=?_) ?_ ?_
    rotate_left
    ·show Act.put _ (some 17) _ = _
     simp only [Act.put,NRM]
     rfl
    refine pure_ (i:=6) (N:=some 18) (v:=?_) (a':=?_) (ba 23 127) rfl rfl (any_of HT_.out (by kernel_rfl)) (fun _ _ _ h=>h) (Or.inl ⟨by rfl,?_⟩) ?_ ?_
    rotate_left
    ·intro w'
     go_simp
     with_reducible rfl
    rotate_left
    ·simp only [Act.put,NRM]
     rfl
    refine pure_ (i:=7) (N:=some 19) (v:=?_) (a':=?_) (ba 23 255) rfl rfl (any_of HT_.out (by kernel_rfl)) (fun _ _ _ h=>h) (Or.inl ⟨by rfl,?_⟩) ?_ ?_
    rotate_left
    ·intro w'
     go_simp
     with_reducible rfl
    rotate_left
    ·simp only [Act.put,NRM]
     rfl
    refine pure_ (i:=8) (N:=some 20) (v:=?_) (a':=?_) (ba 23 511) rfl rfl (any_of HT_.out (by kernel_rfl)) (fun _ _ _ h=>h) (Or.inl ⟨by rfl,?_⟩) ?_ ?_
    rotate_left
    ·intro w'
     go_simp
     with_reducible rfl
    rotate_left
    ·simp only [Act.put,NRM]
     rfl
    refine pure_ (i:=9) (N:=some 21) (v:=?_) (a':=?_) (ba 23 1023) rfl rfl (any_of HT_.out (by kernel_rfl)) (fun _ _ _ h=>h) (Or.inl ⟨by rfl,?_⟩) ?_ ?_
    rotate_left
    ·intro w'
     go_simp
     with_reducible rfl
    rotate_left
    ·simp only [Act.put,NRM]
     rfl
    refine pure_ (i:=10) (N:=some 22) (v:=?_) (a':=?_) (ba 23 2047) rfl rfl (any_of HT_.out (by kernel_rfl)) (fun _ _ _ h=>h) (Or.inl ⟨by rfl,?_⟩) ?_ ?_
    rotate_left
    ·intro w'
     go_simp
     with_reducible rfl
    rotate_left
    ·simp only [Act.put,NRM]
     rfl
    refine pure_ (i:=11) (N:=some 23) (v:=undef) (a':=?_) (ba 23 4095) rfl rfl (any_of HT_.out (by kernel_rfl)) (fun _ _ _ h=>h) (Or.inr ⟨by rfl,rfl⟩) ?_ ?_
    rotate_left
    ·simp only [Act.put,NRM]
     rfl
    refine pure_ (i:=12) (N:=some 24) (v:=undef) (a':=?_) (ba 23 8191) rfl rfl (any_of HT_.out (by kernel_rfl)) (fun _ _ _ h=>h) (Or.inr ⟨by rfl,rfl⟩) ?_ ?_
    rotate_left
    ·simp only [Act.put,NRM]
     rfl
    refine pure_ (i:=13) (N:=some 25) (v:=undef) (a':=?_) (ba 23 16383) rfl rfl (any_of HT_.out (by kernel_rfl)) (fun _ _ _ h=>h) (Or.inr ⟨by rfl,rfl⟩) ?_ ?_
    rotate_left
    ·simp only [Act.put,NRM]
     rfl
    refine pure_ (i:=14) (N:=some 26) (v:=undef) (a':=?_) (ba 23 32767) rfl rfl (any_of HT_.out (by kernel_rfl)) (fun _ _ _ h=>h) (Or.inr ⟨by rfl,rfl⟩) ?_ ?_
    rotate_left
    ·simp only [Act.put,NRM]
     rfl
    refine pure_ (i:=15) (N:=some 27) (v:=undef) (a':=?_) (ba 23 65535) rfl rfl (any_of HT_.out (by kernel_rfl)) (fun _ _ _ h=>h) (Or.inr ⟨by rfl,rfl⟩) ?_ ?_
    rotate_left
    ·simp only [Act.put,NRM]
     rfl
    refine pure_ (i:=16) (N:=some 28) (v:=undef) (a':=?_) (ba 23 131071) rfl rfl (any_of HT_.out (by kernel_rfl)) (fun _ _ _ h=>h) (Or.inr ⟨by rfl,rfl⟩) ?_ ?_
    rotate_left
    ·simp only [Act.put,NRM]
     rfl
    refine pure_ (i:=17) (N:=some 29) (v:=undef) (a':=?_) (ba 23 262143) rfl rfl (any_of HT_.out (by kernel_rfl)) (fun _ _ _ h=>h) (Or.inr ⟨by rfl,rfl⟩) ?_ ?_
    rotate_left
    ·simp only [Act.put,NRM]
     rfl
    refine pure_ (i:=18) (N:=some 30) (v:=undef) (a':=?_) (ba 23 524287) rfl rfl (any_of HT_.out (by kernel_rfl)) (fun _ _ _ h=>h) (Or.inr ⟨by rfl,rfl⟩) ?_ ?_
    rotate_left
    ·simp only [Act.put,NRM]
     rfl
    refine pure_ (i:=19) (N:=some 31) (v:=undef) (a':=?_) (ba 23 1048575) rfl rfl (any_of HT_.out (by kernel_rfl)) (fun _ _ _ h=>h) (Or.inr ⟨by rfl,rfl⟩) ?_ ?_
    rotate_left
    ·simp only [Act.put,NRM]
     rfl
    refine pure_ (i:=20) (N:=some 32) (v:=undef) (a':=?_) (ba 23 2097151) rfl rfl (any_of HT_.out (by kernel_rfl)) (fun _ _ _ h=>h) (Or.inr ⟨by rfl,rfl⟩) ?_ ?_
    rotate_left
    ·simp only [Act.put,NRM]
     rfl
    refine pure_ (i:=21) (N:=some 33) (v:=?_) (a':=?_) (ba 23 4194303) rfl rfl (any_of HT_.out (by kernel_rfl)) (fun _ _ _ h=>h) (Or.inl ⟨by rfl,?_⟩) ?_ ?_
    rotate_left
    ·intro w'
     go_simp
     with_reducible rfl
    rotate_left
    ·simp only [Act.put,NRM]
     rfl
    refine pure_ (i:=22) (N:=some 34) (v:=?_) (a':=?_) (ba 23 8388607) rfl rfl (any_of HT_.out (by kernel_rfl)) (fun _ _ _ h=>h) (Or.inl ⟨by rfl,?_⟩) ?_ ?_
    rotate_left
    ·intro w'
     go_simp
     with_reducible rfl
    rotate_left
    ·simp only [Act.put,NRM]
     rfl
    refine done_ (done_of HT_.out (by kernel_rfl)) ?_
    try go_wp2
    go_roundg k1
    case measure=>have:=HK1.out;omega
    case rel=>exact ⟨(wrap64 (x5_1 + 1)),(by first | rfl | (simp;done) | (simp [*];done)),H',⟨by have:=HK1.out;omega⟩,⟨BK272.out⟩,⟨HB.out⟩⟩
   rw [if_pos c8] at H
   have c8b0 : decide (0 < x5_1) = true:=decide_eq_true c8
   clear c8
   obtain ⟨ji9,hji9⟩ : ∃ j_ : Int,(wrap64 (x5_1 - 1)) = j_:=⟨_,rfl⟩
   replace H : (if 0≤(ji9) then (if (ji9) < (l1.length : Int) then (if (rd l1 x5_1)≤(rd l1 (ji9)) then (some false) else (q8_Some.l0 k1 l1 (wrap64 (x5_1 + 1)) l0_0 l0_1)) else (none)) else (none)) = some r:=by first | (rw [hji9] at H;exact H) | (simp only [hji9] at H ⊢;exact H)
   (try rw [hji9] at A6)
   have hji9w : (IntKind.i64.wrap (x5_1 - 1)) = ji9:=(i64_w _).trans hji9
   by_cases c10 : 0≤(ji9)
   case neg =>
    rw [if_neg c10] at H
    exact absurd H (by simp)
   rw [if_pos c10] at H
   have c10b0 : decide (0≤(ji9)) = true:=decide_eq_true c10
   clear c10
   by_cases c11 : (ji9) < (l1.length : Int)
   case neg =>
    rw [if_neg c11] at H
    exact absurd H (by simp)
   rw [if_pos c11] at H
   have c11b0 : decide ((ji9) < (l1.length : Int)) = true:=decide_eq_true c11
   clear c11
   by_cases c12 : (rd l1 x5_1)≤(rd l1 (ji9))
   ·rw [if_pos c12] at H
    have c12b0 : decide ((rd l1 x5_1)≤(rd l1 (ji9))) = true:=decide_eq_true c12
    clear c12
    obtain rfl:=Option.some.inj H
    try go_wp2
    replace BK272:=am (blk_drew BK272.out)
    replace HB:=am (below_drew1 HB.out)
    have p273 : 0≤(x5_1 : Int):=of_decide_eq_true (by assumption)
    have q273 : x5_1 < (l1.length : Int):=of_decide_eq_true (by assumption)
    obtain ⟨ad273,e273,hx273_0⟩:=Kd.at_int HR1.out x5_1 p273 q273
    have hw273_0:=hx273_0
    cases e273
    replace hx273_0:=(HB.out.cell (wbl hx273_0)).trans hx273_0
    replace p273:=eq_true p273
    replace q273:=eq_true q273
    have p275 : 0≤(x5_1 : Int):=of_decide_eq_true (by assumption)
    have q275 : x5_1 < (l1.length : Int):=of_decide_eq_true (by assumption)
    obtain ⟨ad275,e275,hx275_0⟩:=Kd.at_int HR1.out x5_1 p275 q275
    have hw275_0:=hx275_0
    obtain rfl : ad273 = ad275:=(by injection e275)
    replace hx275_0:=(HB.out.cell (wbl hx275_0)).trans hx275_0
    replace p275:=eq_true p275
    replace q275:=eq_true q275
    have p276 : 0≤((ji9) : Int):=of_decide_eq_true (by assumption)
    have q276 : (ji9) < (l1.length : Int):=of_decide_eq_true (by assumption)
    obtain ⟨ad276,e276,hx276_0⟩:=Kd.at_int HR1.out (ji9) p276 q276
    have hw276_0:=hx276_0
    obtain rfl : ad273 = ad276:=(by injection e276)
    replace hx276_0:=(HB.out.cell (wbl hx276_0)).trans hx276_0
    replace p276:=eq_true p276
    replace q276:=eq_true q276
    refine start_ (n:=23) (S:=fun w'=>w'.cell? ⟨gb272,0,none⟩ = some (.slice A0_0 l0_0.length c0_0)∧w'.cell? ⟨gb272,1,none⟩ = some (.slice A0_1 l0_1.length c0_1)∧w'.cell? (ad273.add (x5_1).toNat) = some (.int .i64 (rd l1 x5_1))∧w'.cell? (ad273.add (x5_1).toNat) = some (.int .i64 (rd l1 x5_1))∧w'.cell? (ad273.add ((ji9)).toNat) = some (.int .i64 (rd l1 (ji9)))) (ds:=[]) (ba 23 0) (by kernel_rfl) rfl rfl ⟨(blk_cell BK272.out 0).trans rfl,(blk_cell BK272.out 1).trans rfl,((HB.out.cell (wbl hw273_0)).trans hw273_0),((HB.out.cell (wbl hw275_0)).trans hw275_0),((HB.out.cell (wbl hw276_0)).trans hw276_0)⟩ (fun hHeld=>?_);refine with_tabW q8_Some.tab4 q8_Some.bits4 (fun HT_ HW_=>?_)
    generalize wr.drew = w13 at BK272 HB hx273_0 hx275_0 hx276_0 hHeld ⊢
    refine pure_ (i:=1) (N:=some 13) (v:=?_) (a':=?_) (ba 23 2) rfl rfl (any_of HT_.out (by kernel_rfl)) (fun _ _ _ h=>h) (Or.inl ⟨by rfl,?_⟩) ?_ ?_
    rotate_left
    ·intro w'
     go_simp
     with_reducible rfl
    rotate_left
    ·simp only [Act.put,NRM]
     rfl
    refine pure_ (i:=2) (N:=some 14) (v:=?_) (a':=?_) (ba 23 6) rfl rfl (any_of HT_.out (by kernel_rfl)) (fun _ _ _ h=>h) (Or.inl ⟨by rfl,?_⟩) ?_ ?_
    rotate_left
    ·intro w'
     go_simp
     with_reducible rfl
    rotate_left
    ·simp only [Act.put,NRM]
     rfl
    refine pure_ (i:=3) (N:=some 15) (v:=?_) (a':=?_) (ba 23 14) rfl rfl (any_of HT_.out (by kernel_rfl)) (fun _ _ _ h=>h) (Or.inl ⟨by rfl,?_⟩) ?_ ?_
    rotate_left
    ·intro w'
     go_simp
     with_reducible rfl
    rotate_left
    ·simp only [Act.put,NRM]
     rfl
    refine take_ (i:=0) (N:=some 12) (v:=?_) (a':=?_) (ba 23 15) rfl rfl (take_ofW HT_.out HW_.out (by kernel_rfl)) (fun _ _ _ h=>h) (Or.inl ⟨by rfl,?_⟩) hHeld ?_ ?_
    rotate_left
    ·rintro w' ⟨s0,s1,s2,s3,s4⟩
     go_simp
     with_reducible rfl
    rotate_left
    ·simp only [Act.put,NRM]
     rfl
    refine take_ (i:=4) (N:=some 16) (v:=?_) (a':=?_) (ba 23 31) rfl rfl (take_ofW HT_.out HW_.out (by kernel_rfl)) (fun _ _ _ h=>h) (Or.inl ⟨by rfl,?_⟩) hHeld ?_ ?_
    rotate_left
    ·rintro w' ⟨s0,s1,s2,s3,s4⟩
     go_simp
     with_reducible rfl
    rotate_left
    ·simp only [Act.put,NRM]
     rfl
    refine one_ (i:=5) (N:=some 17) (ba 23 63) rfl rfl (one_of HT_.out (by kernel_rfl)) (by decide) (fun K hK=>?_)
    refine goes_ Tryz.func42 (by kernel_rfl) rfl #[.agg #[.slice A0_0 l0_0.length c0_0,.slice A0_1 l0_1.length c0_1],.int .i64 (rd l1 x5_1)] (by rfl) rfl rfl (by (try simp only [List.map_toArray,List.map_cons,List.map_nil]);first | done | rfl | (simp only [List.length_drop,List.length_take];rfl)) ?_
    with_reducible refine (q8_Gate.calls _ _ l0_0 _ _ l0_1 (rd l1 x5_1) true _ ?side1 ?side2 ?side3 ?side4 A6.out).mono ?_
    (case side1=>exact kC HR0_0.out HB.out)
    (case side2=>exact HC0_0.out)
    (case side3=>exact kC HR0_1.out HB.out)
    (case side4=>exact HC0_1.out)
    rintro e w14 ⟨rfl,hb⟩
    refine ⟨_,rfl,?_⟩
    replace BK272:=(kmv hb BK272)
    replace HB:=am (below_step (HB.out) hb)
    (try clear hb)
    (try clear hb2)
    (try clear hk)
    (try clear hi)
    refine hK.out _ _ ⟨(blk_cell BK272.out 0).trans rfl,(blk_cell BK272.out 1).trans rfl,((HB.out.cell (wbl hw273_0)).trans hw273_0),((HB.out.cell (wbl hw275_0)).trans hw275_0),((HB.out.cell (wbl hw276_0)).trans hw276_0)⟩ (fun hHeld=>?_)
    clear hK K
    refine norm_ (a':=?_) ?_ ?_
    rotate_left
    ·show Act.put _ (some 17) _ = _
     simp only [Act.put,NRM]
     rfl
    refine pure_ (i:=6) (N:=some 18) (v:=?_) (a':=?_) (ba 23 127) rfl rfl (any_of HT_.out (by kernel_rfl)) (fun _ _ _ h=>h) (Or.inl ⟨by rfl,?_⟩) ?_ ?_
    rotate_left
    ·intro w'
     go_simp
     with_reducible rfl
    rotate_left
    ·simp only [Act.put,NRM]
     rfl
    refine pure_ (i:=7) (N:=some 19) (v:=?_) (a':=?_) (ba 23 255) rfl rfl (any_of HT_.out (by kernel_rfl)) (fun _ _ _ h=>h) (Or.inl ⟨by rfl,?_⟩) ?_ ?_
    rotate_left
    ·intro w'
     go_simp
     with_reducible rfl
    rotate_left
    ·simp only [Act.put,NRM]
     rfl
    refine pure_ (i:=8) (N:=some 20) (v:=?_) (a':=?_) (ba 23 511) rfl rfl (any_of HT_.out (by kernel_rfl)) (fun _ _ _ h=>h) (Or.inl ⟨by rfl,?_⟩) ?_ ?_
    rotate_left
    ·intro w'
     go_simp
     with_reducible rfl
    rotate_left
    ·simp only [Act.put,NRM]
     rfl
    refine pure_ (i:=9) (N:=some 21) (v:=?_) (a':=?_) (ba 23 1023) rfl rfl (any_of HT_.out (by kernel_rfl)) (fun _ _ _ h=>h) (Or.inl ⟨by rfl,?_⟩) ?_ ?_
    rotate_left
    ·intro w'
     go_simp
     with_reducible rfl
    rotate_left
    ·simp only [Act.put,NRM]
     rfl
    refine pure_ (i:=10) (N:=some 22) (v:=?_) (a':=?_) (ba 23 2047) rfl rfl (any_of HT_.out (by kernel_rfl)) (fun _ _ _ h=>h) (Or.inl ⟨by rfl,?_⟩) ?_ ?_
    rotate_left
    ·intro w'
     go_simp
     with_reducible rfl
    rotate_left
    ·simp only [Act.put,NRM]
     rfl
    refine pure_ (i:=11) (N:=some 23) (v:=?_) (a':=?_) (ba 23 4095) rfl rfl (any_of HT_.out (by kernel_rfl)) (fun _ _ _ h=>h) (Or.inl ⟨by rfl,?_⟩) ?_ ?_
    rotate_left
    ·intro w'
     go_simp
     with_reducible rfl
    rotate_left
    ·simp only [Act.put,NRM]
     rfl
    refine pure_ (i:=12) (N:=some 24) (v:=?_) (a':=?_) (ba 23 8191) rfl rfl (any_of HT_.out (by kernel_rfl)) (fun _ _ _ h=>h) (Or.inl ⟨by rfl,?_⟩) ?_ ?_
    rotate_left
    ·intro w'
     go_simp
     with_reducible rfl
    rotate_left
    ·simp only [Act.put,NRM]
     rfl
    refine pure_ (i:=13) (N:=some 25) (v:=?_) (a':=?_) (ba 23 16383) rfl rfl (any_of HT_.out (by kernel_rfl)) (fun _ _ _ h=>h) (Or.inl ⟨by rfl,?_⟩) ?_ ?_
    rotate_left
    ·intro w'
     go_simp
     with_reducible rfl
    rotate_left
    ·simp only [Act.put,NRM]
     rfl
    refine pure_ (i:=15) (N:=some 27) (v:=?_) (a':=?_) (ba 23 49151) rfl rfl (any_of HT_.out (by kernel_rfl)) (fun _ _ _ h=>h) (Or.inl ⟨by rfl,?_⟩) ?_ ?_
    rotate_left
    ·intro w'
     go_simp
     with_reducible rfl
    rotate_left
    ·simp only [Act.put,NRM]
     rfl
    refine pure_ (i:=16) (N:=some 28) (v:=?_) (a':=?_) (ba 23 114687) rfl rfl (any_of HT_.out (by kernel_rfl)) (fun _ _ _ h=>h) (Or.inl ⟨by rfl,?_⟩) ?_ ?_
    rotate_left
    ·intro w'
     go_simp
     with_reducible rfl
    rotate_left
    ·simp only [Act.put,NRM]
     rfl
    refine pure_ (i:=17) (N:=some 29) (v:=?_) (a':=?_) (ba 23 245759) rfl rfl (any_of HT_.out (by kernel_rfl)) (fun _ _ _ h=>h) (Or.inl ⟨by rfl,?_⟩) ?_ ?_
    rotate_left
    ·intro w'
     go_simp
     with_reducible rfl
    rotate_left
    ·simp only [Act.put,NRM]
     rfl
    refine pure_ (i:=18) (N:=some 30) (v:=?_) (a':=?_) (ba 23 507903) rfl rfl (any_of HT_.out (by kernel_rfl)) (fun _ _ _ h=>h) (Or.inl ⟨by rfl,?_⟩) ?_ ?_
    rotate_left
    ·intro w'
     go_simp
     with_reducible rfl
    rotate_left
    ·simp only [Act.put,NRM]
     rfl
    refine take_ (i:=14) (N:=some 26) (v:=?_) (a':=?_) (ba 23 524287) rfl rfl (take_ofW HT_.out HW_.out (by kernel_rfl)) (fun _ _ _ h=>h) (Or.inl ⟨by rfl,?_⟩) hHeld ?_ ?_
    rotate_left
    ·rintro w' ⟨s0,s1,s2,s3,s4⟩
     go_simp
     with_reducible rfl
    rotate_left
    ·simp only [Act.put,NRM]
     rfl
    refine take_ (i:=19) (N:=some 31) (v:=?_) (a':=?_) (ba 23 1048575) rfl rfl (take_ofW HT_.out HW_.out (by kernel_rfl)) (fun _ _ _ h=>h) (Or.inl ⟨by rfl,?_⟩) hHeld ?_ ?_
    rotate_left
    ·rintro w' ⟨s0,s1,s2,s3,s4⟩
     go_simp
     with_reducible rfl
    rotate_left
    ·simp only [Act.put,NRM]
     rfl
    refine pure_ (i:=20) (N:=some 32) (v:=?_) (a':=?_) (ba 23 2097151) rfl rfl (any_of HT_.out (by kernel_rfl)) (fun _ _ _ h=>h) (Or.inl ⟨by rfl,?_⟩) ?_ ?_
    rotate_left
    ·intro w'
     go_simp
     with_reducible rfl
    rotate_left
    ·simp only [Act.put,NRM]
     rfl
    refine pure_ (i:=21) (N:=some 33) (v:=?_) (a':=?_) (ba 23 4194303) rfl rfl (any_of HT_.out (by kernel_rfl)) (fun _ _ _ h=>h) (Or.inl ⟨by rfl,?_⟩) ?_ ?_
    rotate_left
    ·intro w'
     go_simp
     with_reducible rfl
    rotate_left
    ·simp only [Act.put,NRM]
     rfl
    refine pure_ (i:=22) (N:=some 34) (v:=?_) (a':=?_) (ba 23 8388607) rfl rfl (any_of HT_.out (by kernel_rfl)) (fun _ _ _ h=>h) (Or.inl ⟨by rfl,?_⟩) ?_ ?_
    rotate_left
    ·intro w'
     go_simp
     with_reducible rfl
    rotate_left
    ·simp only [Act.put,NRM]
     rfl
    refine done_ (done_of HT_.out (by kernel_rfl)) ?_
    try go_wp2
    go_ret
    exact ⟨by first | rfl | (simp [errW_none,errW_some]<;>rfl) | (simp only [← hji9];first | rfl | (simp [errW_none,errW_some]<;>rfl)) | (simp [*,errW_none,errW_some]<;>rfl),HB.out⟩
   ·rw [if_neg c12] at H
    have c12b0 : decide ((rd l1 x5_1)≤(rd l1 (ji9))) = false:=decide_eq_false c12
    clear c12
    replace H':=am H
    try go_wp2
    replace BK272:=am (blk_drew BK272.out)
    replace HB:=am (below_drew1 HB.out)
    have p273 : 0≤(x5_1 : Int):=of_decide_eq_true (by assumption)
    have q273 : x5_1 < (l1.length : Int):=of_decide_eq_true (by assumption)
    obtain ⟨ad273,e273,hx273_0⟩:=Kd.at_int HR1.out x5_1 p273 q273
    have hw273_0:=hx273_0
    cases e273
    replace hx273_0:=(HB.out.cell (wbl hx273_0)).trans hx273_0
    replace p273:=eq_true p273
    replace q273:=eq_true q273
    have p275 : 0≤(x5_1 : Int):=of_decide_eq_true (by assumption)
    have q275 : x5_1 < (l1.length : Int):=of_decide_eq_true (by assumption)
    obtain ⟨ad275,e275,hx275_0⟩:=Kd.at_int HR1.out x5_1 p275 q275
    have hw275_0:=hx275_0
    obtain rfl : ad273 = ad275:=(by injection e275)
    replace hx275_0:=(HB.out.cell (wbl hx275_0)).trans hx275_0
    replace p275:=eq_true p275
    replace q275:=eq_true q275
    have p276 : 0≤((ji9) : Int):=of_decide_eq_true (by assumption)
    have q276 : (ji9) < (l1.length : Int):=of_decide_eq_true (by assumption)
    obtain ⟨ad276,e276,hx276_0⟩:=Kd.at_int HR1.out (ji9) p276 q276
    have hw276_0:=hx276_0
    obtain rfl : ad273 = ad276:=(by injection e276)
    replace hx276_0:=(HB.out.cell (wbl hx276_0)).trans hx276_0
    replace p276:=eq_true p276
    replace q276:=eq_true q276
    refine start_ (n:=23) (S:=fun w'=>w'.cell? ⟨gb272,0,none⟩ = some (.slice A0_0 l0_0.length c0_0)∧w'.cell? ⟨gb272,1,none⟩ = some (.slice A0_1 l0_1.length c0_1)∧w'.cell? (ad273.add (x5_1).toNat) = some (.int .i64 (rd l1 x5_1))∧w'.cell? (ad273.add (x5_1).toNat) = some (.int .i64 (rd l1 x5_1))∧w'.cell? (ad273.add ((ji9)).toNat) = some (.int .i64 (rd l1 (ji9)))) (ds:=[]) (ba 23 0) (by kernel_rfl) rfl rfl ⟨(blk_cell BK272.out 0).trans rfl,(blk_cell BK272.out 1).trans rfl,((HB.out.cell (wbl hw273_0)).trans hw273_0),((HB.out.cell (wbl hw275_0)).trans hw275_0),((HB.out.cell (wbl hw276_0)).trans hw276_0)⟩ (fun hHeld=>?_);refine with_tabW q8_Some.tab4 q8_Some.bits4 (fun HT_ HW_=>?_)
    generalize wr.drew = w15 at BK272 HB hx273_0 hx275_0 hx276_0 hHeld ⊢
    refine pure_ (i:=1) (N:=some 13) (v:=?_) (a':=?_) (ba 23 2) rfl rfl (any_of HT_.out (by kernel_rfl)) (fun _ _ _ h=>h) (Or.inl ⟨by rfl,?_⟩) ?_ ?_
    rotate_left
    ·intro w'
     go_simp
     with_reducible rfl
    rotate_left
    ·simp only [Act.put,NRM]
     rfl
    refine pure_ (i:=2) (N:=some 14) (v:=?_) (a':=?_) (ba 23 6) rfl rfl (any_of HT_.out (by kernel_rfl)) (fun _ _ _ h=>h) (Or.inl ⟨by rfl,?_⟩) ?_ ?_
    rotate_left
    ·intro w'
     go_simp
     with_reducible rfl
    rotate_left
    ·simp only [Act.put,NRM]
     rfl
    refine pure_ (i:=3) (N:=some 15) (v:=?_) (a':=?_) (ba 23 14) rfl rfl (any_of HT_.out (by kernel_rfl)) (fun _ _ _ h=>h) (Or.inl ⟨by rfl,?_⟩) ?_ ?_
    rotate_left
    ·intro w'
     go_simp
     with_reducible rfl
    rotate_left
    ·simp only [Act.put,NRM]
     rfl
    refine take_ (i:=0) (N:=some 12) (v:=?_) (a':=?_) (ba 23 15) rfl rfl (take_ofW HT_.out HW_.out (by kernel_rfl)) (fun _ _ _ h=>h) (Or.inl ⟨by rfl,?_⟩) hHeld ?_ ?_
    rotate_left
    ·rintro w' ⟨s0,s1,s2,s3,s4⟩
     go_simp
     with_reducible rfl
    rotate_left
    ·simp only [Act.put,NRM]
     rfl
    refine take_ (i:=4) (N:=some 16) (v:=?_) (a':=?_) (ba 23 31) rfl rfl (take_ofW HT_.out HW_.out (by kernel_rfl)) (fun _ _ _ h=>h) (Or.inl ⟨by rfl,?_⟩) hHeld ?_ ?_
    rotate_left
    ·rintro w' ⟨s0,s1,s2,s3,s4⟩
     go_simp
     with_reducible rfl
    rotate_left
    ·simp only [Act.put,NRM]
     rfl
    refine one_ (i:=5) (N:=some 17) (ba 23 63) rfl rfl (one_of HT_.out (by kernel_rfl)) (by decide) (fun K hK=>?_)
    refine goes_ Tryz.func42 (by kernel_rfl) rfl #[.agg #[.slice A0_0 l0_0.length c0_0,.slice A0_1 l0_1.length c0_1],.int .i64 (rd l1 x5_1)] (by rfl) rfl rfl (by (try simp only [List.map_toArray,List.map_cons,List.map_nil]);first | done | rfl | (simp only [List.length_drop,List.length_take];rfl)) ?_
    with_reducible refine (q8_Gate.calls _ _ l0_0 _ _ l0_1 (rd l1 x5_1) true _ ?side1 ?side2 ?side3 ?side4 A6.out).mono ?_
    (case side1=>exact kC HR0_0.out HB.out)
    (case side2=>exact HC0_0.out)
    (case side3=>exact kC HR0_1.out HB.out)
    (case side4=>exact HC0_1.out)
    rintro e w16 ⟨rfl,hb⟩
    refine ⟨_,rfl,?_⟩
    replace BK272:=(kmv hb BK272)
    replace HB:=am (below_step (HB.out) hb)
    (try clear hb)
    (try clear hb2)
    (try clear hk)
    (try clear hi)
    refine hK.out _ _ ⟨(blk_cell BK272.out 0).trans rfl,(blk_cell BK272.out 1).trans rfl,((HB.out.cell (wbl hw273_0)).trans hw273_0),((HB.out.cell (wbl hw275_0)).trans hw275_0),((HB.out.cell (wbl hw276_0)).trans hw276_0)⟩ (fun hHeld=>?_)
    clear hK K
    refine norm_ (a':=?_) ?_ ?_
    rotate_left
    ·show Act.put _ (some 17) _ = _
     simp only [Act.put,NRM]
     rfl
    refine pure_ (i:=6) (N:=some 18) (v:=?_) (a':=?_) (ba 23 127) rfl rfl (any_of HT_.out (by kernel_rfl)) (fun _ _ _ h=>h) (Or.inl ⟨by rfl,?_⟩) ?_ ?_
    rotate_left
    ·intro w'
     go_simp
     with_reducible rfl
    rotate_left
    ·simp only [Act.put,NRM]
     rfl
    refine pure_ (i:=7) (N:=some 19) (v:=?_) (a':=?_) (ba 23 255) rfl rfl (any_of HT_.out (by kernel_rfl)) (fun _ _ _ h=>h) (Or.inl ⟨by rfl,?_⟩) ?_ ?_
    rotate_left
    ·intro w'
     go_simp
     with_reducible rfl
    rotate_left
    ·simp only [Act.put,NRM]
     rfl
    refine pure_ (i:=8) (N:=some 20) (v:=?_) (a':=?_) (ba 23 511) rfl rfl (any_of HT_.out (by kernel_rfl)) (fun _ _ _ h=>h) (Or.inl ⟨by rfl,?_⟩) ?_ ?_
    rotate_left
    ·intro w'
     go_simp
     with_reducible rfl
    rotate_left
    ·simp only [Act.put,NRM]
     rfl
    refine pure_ (i:=9) (N:=some 21) (v:=?_) (a':=?_) (ba 23 1023) rfl rfl (any_of HT_.out (by kernel_rfl)) (fun _ _ _ h=>h) (Or.inl ⟨by rfl,?_⟩) ?_ ?_
    rotate_left
    ·intro w'
     go_simp
     with_reducible rfl
    rotate_left
    ·simp only [Act.put,NRM]
     rfl
    refine pure_ (i:=10) (N:=some 22) (v:=?_) (a':=?_) (ba 23 2047) rfl rfl (any_of HT_.out (by kernel_rfl)) (fun _ _ _ h=>h) (Or.inl ⟨by rfl,?_⟩) ?_ ?_
    rotate_left
    ·intro w'
     go_simp
     with_reducible rfl
    rotate_left
    ·simp only [Act.put,NRM]
     rfl
    refine pure_ (i:=11) (N:=some 23) (v:=?_) (a':=?_) (ba 23 4095) rfl rfl (any_of HT_.out (by kernel_rfl)) (fun _ _ _ h=>h) (Or.inl ⟨by rfl,?_⟩) ?_ ?_
    rotate_left
    ·intro w'
     go_simp
     with_reducible rfl
    rotate_left
    ·simp only [Act.put,NRM]
     rfl
    refine pure_ (i:=12) (N:=some 24) (v:=?_) (a':=?_) (ba 23 8191) rfl rfl (any_of HT_.out (by kernel_rfl)) (fun _ _ _ h=>h) (Or.inl ⟨by rfl,?_⟩) ?_ ?_
    rotate_left
    ·intro w'
     go_simp
     with_reducible rfl
    rotate_left
    ·simp only [Act.put,NRM]
     rfl
    refine pure_ (i:=13) (N:=some 25) (v:=?_) (a':=?_) (ba 23 16383) rfl rfl (any_of HT_.out (by kernel_rfl)) (fun _ _ _ h=>h) (Or.inl ⟨by rfl,?_⟩) ?_ ?_
    rotate_left
    ·intro w'
     go_simp
     with_reducible rfl
    rotate_left
    ·simp only [Act.put,NRM]
     rfl
    refine pure_ (i:=15) (N:=some 27) (v:=?_) (a':=?_) (ba 23 49151) rfl rfl (any_of HT_.out (by kernel_rfl)) (fun _ _ _ h=>h) (Or.inl ⟨by rfl,?_⟩) ?_ ?_
    rotate_left
    ·intro w'
     go_simp
     with_reducible rfl
    rotate_left
    ·simp only [Act.put,NRM]
     rfl
    refine pure_ (i:=16) (N:=some 28) (v:=?_) (a':=?_) (ba 23 114687) rfl rfl (any_of HT_.out (by kernel_rfl)) (fun _ _ _ h=>h) (Or.inl ⟨by rfl,?_⟩) ?_ ?_
    rotate_left
    ·intro w'
     go_simp
     with_reducible rfl
    rotate_left
    ·simp only [Act.put,NRM]
     rfl
    refine pure_ (i:=17) (N:=some 29) (v:=?_) (a':=?_) (ba 23 245759) rfl rfl (any_of HT_.out (by kernel_rfl)) (fun _ _ _ h=>h) (Or.inl ⟨by rfl,?_⟩) ?_ ?_
    rotate_left
    ·intro w'
     go_simp
     with_reducible rfl
    rotate_left
    ·simp only [Act.put,NRM]
     rfl
    refine pure_ (i:=18) (N:=some 30) (v:=?_) (a':=?_) (ba 23 507903) rfl rfl (any_of HT_.out (by kernel_rfl)) (fun _ _ _ h=>h) (Or.inl ⟨by rfl,?_⟩) ?_ ?_
    rotate_left
    ·intro w'
     go_simp
     with_reducible rfl
    rotate_left
    ·simp only [Act.put,NRM]
     rfl
    refine take_ (i:=14) (N:=some 26) (v:=?_) (a':=?_) (ba 23 524287) rfl rfl (take_ofW HT_.out HW_.out (by kernel_rfl)) (fun _ _ _ h=>h) (Or.inl ⟨by rfl,?_⟩) hHeld ?_ ?_
    rotate_left
    ·rintro w' ⟨s0,s1,s2,s3,s4⟩
     go_simp
     with_reducible rfl
    rotate_left
    ·simp only [Act.put,NRM]
     rfl
    refine take_ (i:=19) (N:=some 31) (v:=?_) (a':=?_) (ba 23 1048575) rfl rfl (take_ofW HT_.out HW_.out (by kernel_rfl)) (fun _ _ _ h=>h) (Or.inl ⟨by rfl,?_⟩) hHeld ?_ ?_
    rotate_left
    ·rintro w' ⟨s0,s1,s2,s3,s4⟩
     go_simp
     with_reducible rfl
    rotate_left
    ·simp only [Act.put,NRM]
     rfl
    refine pure_ (i:=20) (N:=some 32) (v:=?_) (a':=?_) (ba 23 2097151) rfl rfl (any_of HT_.out (by kernel_rfl)) (fun _ _ _ h=>h) (Or.inl ⟨by rfl,?_⟩) ?_ ?_
    rotate_left
    ·intro w'
     go_simp
     with_reducible rfl
    rotate_left
    ·simp only [Act.put,NRM]
     rfl
    refine pure_ (i:=21) (N:=some 33) (v:=?_) (a':=?_) (ba 23 4194303) rfl rfl (any_of HT_.out (by kernel_rfl)) (fun _ _ _ h=>h) (Or.inl ⟨by rfl,?_⟩) ?_ ?_
    rotate_left
    ·intro w'
     go_simp
     with_reducible rfl
    rotate_left
    ·simp only [Act.put,NRM]
     rfl
    refine pure_ (i:=22) (N:=some 34) (v:=?_) (a':=?_) (ba 23 8388607) rfl rfl (any_of HT_.out (by kernel_rfl)) (fun _ _ _ h=>h) (Or.inl ⟨by rfl,?_⟩) ?_ ?_
    rotate_left
    ·intro w'
     go_simp
     with_reducible rfl
    rotate_left
    ·simp only [Act.put,NRM]
     rfl
    refine done_ (done_of HT_.out (by kernel_rfl)) ?_
    try go_wp2
    go_roundg k1
    case measure=>have:=HK1.out;omega
    case rel=>exact ⟨(wrap64 (x5_1 + 1)),(by first | rfl | (simp;done) | (simp [*];done)),H',⟨by have:=HK1.out;omega⟩,⟨BK272.out⟩,⟨HB.out⟩⟩
set_option linter.unusedSimpArgs false
def q8_Listed.l0 : Nat→List Int→Int→Int→Option (Bool)
 | 0,_,_,_=>none
 | k + 1,x0,x1,x5=>if x5 < (x0.length : Int) then (if 0≤x5 then (if (rd x0 x5) = x1 then (some true) else (q8_Listed.l0 k x0 x1 (wrap64 (x5 + 1)))) else (none)) else (some false)
def q8_Listed.f (k : Nat) (l0 : List Int) (a1 : Int) : Option (Bool):=q8_Listed.l0 k l0 a1 0
theorem q8_Listed.calls (k : Nat) (A0 : Option Addr) (c0 : Nat) (l0 : List Int) (a1 : Int) (r : Bool) (w : World) (hr0 : Kd.C (Kd.int .i64) w A0 l0.length l0) (hc0 : l0.length≤c0) (h : q8_Listed.f k l0 a1 = some r) :
 Calls Tryz.prog 43 #[.slice A0 l0.length c0,.int .i64 a1] w fun e w'=>e = .returned (.bool r)∧Drawn0 w w':=by
 have HR0:=am hr0
 have HC0:=am hc0
 clear hr0 hc0
 have H : (q8_Listed.l0 k l0 a1 0) = some r:=h
 clear h
 replace H':=am H
 go_enter Tryz.func43,Tryz.ntmps43
 go_wp2
 go_loopg [5] k (fun kq v5 w'=>∃ (x5_1 : Int),v5 = .int .i64 x5_1∧Aside0 (q8_Listed.l0 kq l0 a1 x5_1 = some r)∧Aside0 (kq≤k)∧Drawn0 w w')
 case atStart=>exact ⟨(0),(by first | rfl | (simp;done) | (simp [*];done)),H',⟨Nat.le_refl _⟩,by repeat (first | exact Drawn0.refl _ | apply Drawn0.step)⟩
 case round =>
  clear H'
  obtain ⟨x5_1,rfl,HA,HK1,⟨m1,rfl⟩⟩:=hrel
  cases gk with
  | zero=>exact absurd HA.out (by simp [q8_Listed.l0])
  | succ k1 =>
   have H:=HA.out
   clear HA
   simp only [q8_Listed.l0] at H
   by_cases c3 : x5_1 < (l0.length : Int)
   case neg =>
    rw [if_neg c3] at H
    have c3b0 : decide (x5_1 < (l0.length : Int)) = false:=decide_eq_false c3
    clear c3
    obtain rfl:=Option.some.inj H
    go_wp2
    go_ret
    exact ⟨by first | rfl | (simp;done) | (simp [*];done),by repeat (first | exact Drawn0.refl _ | apply Drawn0.step)⟩
   rw [if_pos c3] at H
   have c3b0 : decide (x5_1 < (l0.length : Int)) = true:=decide_eq_true c3
   clear c3
   by_cases c4 : 0≤x5_1
   case neg =>
    rw [if_neg c4] at H
    exact absurd H (by simp)
   rw [if_pos c4] at H
   have c4b0 : decide (0≤x5_1) = true:=decide_eq_true c4
   clear c4
   by_cases c5 : (rd l0 x5_1) = a1
   ·rw [if_pos c5] at H
    have c5b0 : ((rd l0 x5_1) == a1) = true:=beq_iff_eq.mpr c5
    have c5b1 : ((rd l0 x5_1) != a1) = false:=bne_eq_false_iff_eq.mpr c5
    clear c5
    obtain rfl:=Option.some.inj H
    have p280 : 0≤(x5_1 : Int):=of_decide_eq_true (by assumption)
    have q280 : x5_1 < (l0.length : Int):=of_decide_eq_true (by assumption)
    obtain ⟨ad280,e280,hx280_0⟩:=Kd.at_int HR0.out x5_1 p280 q280
    cases e280
    replace p280:=eq_true p280
    replace q280:=eq_true q280
    go_wp2
    go_ret
    exact ⟨by first | rfl | (simp;done) | (simp [*];done),by repeat (first | exact Drawn0.refl _ | apply Drawn0.step)⟩
   ·rw [if_neg c5] at H
    have c5b0 : ((rd l0 x5_1) == a1) = false:=beq_eq_false_iff_ne.mpr c5
    have c5b1 : ((rd l0 x5_1) != a1) = true:=bne_iff_ne.mpr c5
    replace H':=am H
    have p280 : 0≤(x5_1 : Int):=of_decide_eq_true (by assumption)
    have q280 : x5_1 < (l0.length : Int):=of_decide_eq_true (by assumption)
    obtain ⟨ad280,e280,hx280_0⟩:=Kd.at_int HR0.out x5_1 p280 q280
    cases e280
    replace p280:=eq_true p280
    replace q280:=eq_true q280
    go_wp2
    go_roundg k1
    case measure=>have:=HK1.out;omega
    case rel=>exact ⟨(wrap64 (x5_1 + 1)),(by first | rfl | (simp;done) | (simp [*];done)),H',⟨by have:=HK1.out;omega⟩,by repeat (first | exact Drawn0.refl _ | apply Drawn0.step)⟩
def l8_short.f (l0_0 : List (S37)) (l0_1 : List (S65)) : Option (Bool):=if (l0_0.length : Int)≤9 then (some (decide ((l0_1.length : Int)≤13))) else (some false)
theorem l8_short.calls (A0_0 : Option Addr) (c0_0 : Nat) (l0_0 : List (S37)) (A0_1 : Option Addr) (c0_1 : Nat) (l0_1 : List (S65)) (r : Bool) (w : World) (hr0_0 : Kd.C k37 w A0_0 l0_0.length l0_0) (hc0_0 : l0_0.length≤c0_0) (hr0_1 : Kd.C k65 w A0_1 l0_1.length l0_1) (hc0_1 : l0_1.length≤c0_1) (h : l8_short.f l0_0 l0_1 = some r) :
 Calls Tryz.prog 14 #[.agg #[.slice A0_0 l0_0.length c0_0,.slice A0_1 l0_1.length c0_1]] w fun e w'=>e = .returned (.bool r)∧Below w.heap.size w w':=by
 have hu25:=Tryz.underlying25
 have HR0_0:=am hr0_0
 have HC0_0:=am hc0_0
 clear hr0_0 hc0_0
 have HR0_1:=am hr0_1
 have HC0_1:=am hc0_1
 clear hr0_1 hc0_1
 have HB:=am (Below.refl w.heap.size w)
 have H : (if (l0_0.length : Int)≤9 then (some (decide ((l0_1.length : Int)≤13))) else (some false)) = some r:=h
 clear h
 by_cases c2 : (l0_0.length : Int)≤9
 ·rw [if_pos c2] at H
  have c2b0 : decide ((l0_0.length : Int)≤9) = true:=decide_eq_true c2
  have c2b1 : decide (l0_0.length≤9) = true:=decide_eq_true (by omega)
  clear c2
  obtain rfl:=Option.some.inj H
  go_enter Tryz.func14,Tryz.ntmps14
  go_wp2_with (first | ((refine ga_dst (N:=1) rfl ?_);(try (refine ga_guard (by rfl) ?_;dsimp only));refine box_event rfl (N:=1) rfl (cs:=#[.slice A0_0 l0_0.length c0_0,.slice A0_1 l0_1.length c0_1]) (t:=25) ?hr ?_;(case hr=>go_simp;try rfl);intro gb101 hg w3 hbox hb;have BK101:=am (hbox);have GW101:=am (ge_new (HB.out) hg);have GE101:=am (ge_new (HB.out) hg);replace HB:=am (below_step (HB.out) hb);clear hb hbox hg;obtain ⟨hcz4_0,hcz4_1⟩:=cO2 BK101.out))
  go_ret
  exact ⟨by first | rfl | (simp [*]<;>rfl),HB.out⟩
 ·rw [if_neg c2] at H
  have c2b0 : decide ((l0_0.length : Int)≤9) = false:=decide_eq_false c2
  have c2b1 : decide (l0_0.length≤9) = false:=decide_eq_false (by omega)
  clear c2
  obtain rfl:=Option.some.inj H
  go_enter Tryz.func14,Tryz.ntmps14
  go_wp2_with (first | ((refine ga_dst (N:=1) rfl ?_);(try (refine ga_guard (by rfl) ?_;dsimp only));refine box_event rfl (N:=1) rfl (cs:=#[.slice A0_0 l0_0.length c0_0,.slice A0_1 l0_1.length c0_1]) (t:=25) ?hr ?_;(case hr=>go_simp;try rfl);intro gb101 hg w5 hbox hb;have BK101:=am (hbox);have GW101:=am (ge_new (HB.out) hg);have GE101:=am (ge_new (HB.out) hg);replace HB:=am (below_step (HB.out) hb);clear hb hbox hg;obtain ⟨hcz6_0,hcz6_1⟩:=cO2 BK101.out))
  go_ret
  exact ⟨by first | rfl | (simp [*]<;>rfl),HB.out⟩
abbrev Pt:=S37
abbrev Ch:=S65
theorem wr {x : Int} (h0 : -1000000000000≤x) (h1 : x≤1000000000000) : wrap64 x = x:=by unfold wrap64;omega
def allFrom (P : Nat→Bool) : Nat→Nat→Bool
 | 0,_=>true
 | d + 1,i=>P i && allFrom P d (i + 1)
theorem allFrom_iff {P : Nat→Bool} : ∀ {d i : Nat},allFrom P d i = true↔∀ j,i≤j→j < i + d→P j = true
 | 0,i=>by simp only [allFrom,true_iff];intro j h1 h2;omega
 | d + 1,i=>by
  simp only [allFrom,Bool.and_eq_true,allFrom_iff]
  constructor
  ·rintro ⟨h1,h2⟩ j h3 h4
   by_cases e : j = i
   ·subst e;exact h1
   ·exact h2 j (by omega) (by omega)
  ·exact fun h=>⟨h i (Nat.le_refl _) (by omega),fun j h1 h2=>h j (by omega) (by omega)⟩
def cupS (n : Int) : Bool:=decide (0≤n∧n≤10000)
def ptS (p : Pt) : Bool:=cupS p.f0.f0 && (cupS p.f0.f1 && (decide (p.f0.f0≤p.f0.f1) && cupS p.f1))
def isPtS (n : Nat) (p : Int) : Bool:=decide (0≤p∧p < (n : Int))
def chS (n : Nat) (c : Ch) : Bool:=isPtS n c.f0 && (isPtS n c.f1 && (decide (c.f0 ≠ c.f1) && cupS c.f2))
def gatesFrom : Int→List Ch→List Int
 | _,[]=>[]
 | i,c :: cs=>if c.f3 = true then i :: gatesFrom (i + 1) cs else gatesFrom (i + 1) cs
def gatesL (ch : List Ch) : List Int:=gatesFrom 0 ch
def netS (pts : List Pt) (ch : List Ch) : Bool:=decide (1≤pts.length∧pts.length≤7) && (decide (ch.length≤10) && (pts.all ptS && (ch.all (chS pts.length) && decide ((gatesL ch).length≤7))))
def gateAt (ch : List Ch) (c : Int) : Bool:=decide (0≤c∧c < (ch.length : Int)) && (rd_T65 ch c).f3
def someS (ch : List Ch) (l : List Int) : Bool:=allFrom (fun j=>gateAt ch (l.getD j 0) && (decide (j = 0) || decide (l.getD (j - 1) 0 < l.getD j 0))) l.length 0
def shortB (pts : List Pt) (ch : List Ch) : Bool:=decide (pts.length≤9∧ch.length≤13)
section
variable {pts : List Pt} {ch : List Ch}
theorem short_eq : l8_short.f pts ch = some (shortB pts ch):=by
 unfold l8_short.f shortB
 by_cases h : (pts.length : Int)≤9
 ·rw [if_pos h];congr 1;rw [decide_eq_decide];omega
 ·rw [if_neg h];congr 1;symm;rw [decide_eq_false_iff_not];omega
theorem in_eq (a b c : Int) : ga_in.f a b c = some (decide (b≤a∧a≤c)):=by
 unfold ga_in.f
 split
 ·congr 1;rw [decide_eq_decide];omega
 ·congr 1;symm;rw [decide_eq_false_iff_not];omega
theorem rin_eq (a b c : Int) : q8_in.f a b c = some (decide (b≤a∧a≤c)):=by
 unfold q8_in.f
 split
 ·congr 1;rw [decide_eq_decide];omega
 ·congr 1;symm;rw [decide_eq_false_iff_not];omega
theorem isCups_eq (n : Int) : ga_isCups.f n = some (cupS n):=by unfold ga_isCups.f;rw [in_eq];rfl
theorem rcups_eq (n : Int) : q8_cups.f n = some (cupS n):=by unfold q8_cups.f;rw [rin_eq];rfl
theorem isPoint_eq (hp : pts.length≤1000) (p : Int) : ga_isPoint.f pts ch p = some (isPtS pts.length p):=by
 unfold ga_isPoint.f
 rw [in_eq,wr (by omega) (by omega)]
 simp only [Option.bind_some,isPtS]
 congr 1;rw [decide_eq_decide];omega
theorem rPoint_eq (hp : pts.length≤1000) (p : Int) : q8_Point.f pts ch p = some (isPtS pts.length p):=by
 unfold q8_Point.f
 rw [rin_eq,wr (by omega) (by omega)]
 simp only [Option.bind_some,isPtS]
 congr 1;rw [decide_eq_decide];omega
theorem isGate_eq (hc : ch.length≤1000) (c : Int) : ga_isGate.f pts ch c = some (gateAt ch c):=by
 unfold ga_isGate.f gateAt
 rw [in_eq,wr (by omega) (by omega)]
 simp only [Option.bind_some,decide_eq_true_eq]
 by_cases h : 0≤c∧c≤(ch.length : Int) - 1
 ·rw [if_pos h,if_pos h.1,if_pos (by omega),decide_eq_true (show 0≤c∧c < (ch.length : Int) by omega)];rfl
 ·rw [if_neg h,decide_eq_false (show ¬ (0≤c∧c < (ch.length : Int)) by omega)];rfl
theorem rGate_eq (hc : ch.length≤1000) (c : Int) : q8_Gate.f pts ch c = some (gateAt ch c):=by
 unfold q8_Gate.f gateAt
 rw [rin_eq,wr (by omega) (by omega)]
 simp only [Option.bind_some,decide_eq_true_eq]
 by_cases h : 0≤c∧c≤(ch.length : Int) - 1
 ·rw [if_pos h,if_pos h.1,if_pos (by omega),decide_eq_true (show 0≤c∧c < (ch.length : Int) by omega)];rfl
 ·rw [if_neg h,decide_eq_false (show ¬ (0≤c∧c < (ch.length : Int)) by omega)];rfl
theorem rd_nat (l : List Int) (i : Nat) : rd l (i : Int) = l.getD i 0:=rfl
theorem areGates_go (hc : ch.length≤1000) (l : List Int) (hl : l.length≤1000) : ∀ (d k i : Nat),i + d = l.length→d < k→
 ga_areGates.l0 k l l (l.length : Int) (i : Int) pts ch = some (allFrom (fun j=>gateAt ch (l.getD j 0) && (decide (j = 0) || decide (l.getD (j - 1) 0 < l.getD j 0))) d i)
 | _,0,_,_,hk=>by omega
 | 0,k + 1,i,hi,_=>by
  unfold ga_areGates.l0
  rw [if_neg (by omega)];rfl
 | d + 1,k + 1,i,hi,hk=>by
  have ih:=areGates_go hc l hl d k (i + 1) (by omega) (by omega)
  unfold ga_areGates.l0
  rw [if_pos (by omega),if_pos (by omega),if_pos (by omega),isGate_eq hc,rd_nat]
  simp only [Option.bind_some,allFrom]
  cases hg : gateAt ch (l.getD i 0) with
  | false=>rw [if_neg (by decide)];rfl
  | true =>
   rw [if_pos rfl]
   rw [show wrap64 ((i : Int) + 1) = ((i + 1 : Nat) : Int) by rw [wr (by omega) (by omega)];rfl,ih]
   by_cases h0 : i = 0
   ·subst h0
    rw [if_neg (by omega)];simp
   ·rw [if_pos (by omega),wr (by omega) (by omega),if_pos (by omega),if_pos (by omega),show (i : Int) - 1 = ((i - 1 : Nat) : Int) by omega,rd_nat]
    by_cases hle : l.getD i 0≤l.getD (i - 1) 0
    ·rw [if_pos hle,decide_eq_false h0,decide_eq_false (show ¬ l.getD (i - 1) 0 < l.getD i 0 by omega)];rfl
    ·rw [if_neg hle,decide_eq_true (show l.getD (i - 1) 0 < l.getD i 0 by omega)];simp
theorem areGates_eq (hc : ch.length≤1000) {l : List Int} (hl : l.length≤1000) {k : Nat} (hk : l.length < k) : ga_areGates.f k pts ch l = some (someS ch l):=areGates_go hc l hl l.length k 0 (by omega) hk
theorem rSome_go (hc : ch.length≤1000) (l : List Int) (hl : l.length≤1000) : ∀ (d k i : Nat),i + d = l.length→d < k→
 q8_Some.l0 k l (i : Int) pts ch = some (allFrom (fun j=>gateAt ch (l.getD j 0) && (decide (j = 0) || decide (l.getD (j - 1) 0 < l.getD j 0))) d i)
 | _,0,_,_,hk=>by omega
 | 0,k + 1,i,hi,_=>by
  unfold q8_Some.l0
  rw [if_neg (by omega)];rfl
 | d + 1,k + 1,i,hi,hk=>by
  have ih:=rSome_go hc l hl d k (i + 1) (by omega) (by omega)
  unfold q8_Some.l0
  rw [if_pos (by omega),if_pos (by omega),rGate_eq hc,rd_nat]
  simp only [Option.bind_some,allFrom]
  cases hg : gateAt ch (l.getD i 0) with
  | false=>rw [if_neg (by decide)];rfl
  | true =>
   rw [if_pos rfl]
   rw [show wrap64 ((i : Int) + 1) = ((i + 1 : Nat) : Int) by rw [wr (by omega) (by omega)];rfl,ih]
   by_cases h0 : i = 0
   ·subst h0
    rw [if_neg (by omega)];simp
   ·rw [if_pos (by omega),wr (by omega) (by omega),if_pos (by omega),if_pos (by omega),show (i : Int) - 1 = ((i - 1 : Nat) : Int) by omega,rd_nat]
    by_cases hle : l.getD i 0≤l.getD (i - 1) 0
    ·rw [if_pos hle,decide_eq_false h0,decide_eq_false (show ¬ l.getD (i - 1) 0 < l.getD i 0 by omega)];rfl
    ·rw [if_neg hle,decide_eq_true (show l.getD (i - 1) 0 < l.getD i 0 by omega)];simp
theorem rSome_eq (hc : ch.length≤1000) {l : List Int} (hl : l.length≤1000) {k : Nat} (hk : l.length < k) : q8_Some.f k pts ch l = some (someS ch l):=rSome_go hc l hl l.length k 0 (by omega) hk
theorem rdT_nat (l : List Ch) (i : Nat) (x : Ch) (rest : List Ch) (h : l.drop i = x :: rest) : rd_T65 l (i : Int) = x:=by
 have h2 : l[i]? = some x:=by
  have:=congrArg (fun z=>z[0]?) h
  simpa using this
 show l.getD i _ = x
 rw [List.getD_eq_getElem?_getD,h2];rfl
theorem rdP_nat (l : List Pt) (i : Nat) (x : Pt) (rest : List Pt) (h : l.drop i = x :: rest) : rd_T37 l (i : Int) = x:=by
 have h2 : l[i]? = some x:=by
  have:=congrArg (fun z=>z[0]?) h
  simpa using this
 show l.getD i _ = x
 rw [List.getD_eq_getElem?_getD,h2];rfl
theorem drop_succ {α : Type} {l : List α} {i : Nat} {x : α} {rest : List α} (h : l.drop i = x :: rest) : l.drop (i + 1) = rest∧i < l.length:=by
 refine ⟨by rw [← List.drop_drop,h];rfl,?_⟩
 have:=congrArg List.length h
 simp at this;omega
theorem gates_go (hc : ch.length≤1000) : ∀ (rest : List Ch) (k i : Nat) (acc : List Int),ch.drop i = rest→acc.length≤i→rest.length < k→
 ga_gates.l0 k acc ch (ch.length : Int) (i : Int) = some (acc ++ gatesFrom (i : Int) rest)
 | _,0,_,_,_,_,hk=>by omega
 | [],k + 1,i,acc,hd,_,_=>by
  have : ch.length≤i:=by have:=congrArg List.length hd;simp at this;omega
  unfold ga_gates.l0
  rw [if_neg (by omega)];simp [gatesFrom]
 | x :: rest,k + 1,i,acc,hd,ha,hk=>by
  obtain ⟨hd2,hlt⟩:=drop_succ hd
  have ih:=fun acc h=>gates_go hc rest k (i + 1) acc hd2 h (by simp at hk;omega)
  unfold ga_gates.l0
  rw [if_pos (by omega),if_pos (by omega),if_pos (by omega),rdT_nat ch i x rest hd,wr (by omega) (by omega),show (i : Int) + 1 = ((i + 1 : Nat) : Int) from rfl]
  unfold gatesFrom
  by_cases hg : x.f3 = true
  ·rw [if_pos hg,if_pos (by omega),if_pos hg,ih _ (by simp;omega)];simp
  ·rw [if_neg hg,if_neg hg,ih _ (by omega)];rfl
theorem gates_eq (hc : ch.length≤1000) {k : Nat} (hk : ch.length < k) : ga_gates.f k pts ch = some (gatesL ch):=by
 have:=gates_go hc ch k 0 [] rfl (by simp) hk
 exact this
theorem anyM_eq {α : Type} {q : α→Option Bool} {p : α→Bool} : ∀ {l : List α},(∀ x ∈ l,q x = some (p x))→anyM q l = some (l.any p)
 | [],_=>rfl
 | x :: l,h=>by
  unfold anyM
  rw [h x List.mem_cons_self,anyM_eq (fun y hy=>h y (List.mem_cons_of_mem _ hy))]
  simp only [Option.bind_some,List.any_cons]
  cases p x<;>rfl
theorem isNet1_eq (p : Pt) : ga_isNet_1.f p.f0.f0 p.f0.f1 p.f1 = some (!ptS p):=by
 unfold ga_isNet_1.f ptS
 simp only [isCups_eq,Option.bind_some]
 cases cupS p.f0.f0<;>cases cupS p.f0.f1<;>simp
 by_cases h : p.f0.f1 < p.f0.f0
 ·rw [if_pos h];simp [h]
 ·rw [if_neg h];simp;intro h2;exact absurd h2 h
theorem isNet2_eq (hp : pts.length≤1000) (c : Ch) : ga_isNet_2.f pts ch c = some (!chS pts.length c):=by
 unfold ga_isNet_2.f chS
 simp only [isPoint_eq hp,isCups_eq,Option.bind_some]
 cases isPtS pts.length c.f0<;>cases isPtS pts.length c.f1<;>simp
 by_cases h : c.f0 = c.f1
 ·rw [if_pos h];simp [h]
 ·rw [if_neg h];simp [h]
theorem any_not {α : Type} (p : α→Bool) (l : List α) : l.any (fun x=>!p x) = !l.all p:=by
 induction l with
 | nil=>rfl
 | cons x l ih=>simp [ih]
theorem isNet_eq (hp : pts.length≤1000) (hc : ch.length≤1000) {k : Nat} (hk : ch.length < k) : ga_isNet.f k pts ch = some (netS pts ch):=by
 unfold ga_isNet.f netS
 rw [in_eq,anyM_eq (fun x _=>isNet1_eq x),anyM_eq (fun x _=>isNet2_eq hp x),gates_eq hc hk]
 simp only [Option.bind_some,any_not]
 by_cases h1 : 1≤pts.length∧pts.length≤7
 ·rw [decide_eq_true h1,decide_eq_true (show (1 : Int)≤(pts.length : Int)∧(pts.length : Int)≤7 by omega),if_pos rfl]
  by_cases h2 : ch.length≤10
  ·rw [decide_eq_true h2,if_neg (by omega)]
   cases pts.all ptS<;>cases ch.all (chS pts.length)<;>simp
   omega
  ·rw [decide_eq_false h2,if_pos (by omega)];simp
 ·rw [decide_eq_false h1,decide_eq_false (show ¬ ((1 : Int)≤(pts.length : Int)∧(pts.length : Int)≤7) by omega)];simp
end
def q8_Open.f (k : Nat) (l0_0 : List (S37)) (l0_1 : List (S65)) (l1 : List Int) (a2 : Int) : Option (Bool):=if 0≤a2 then (if a2 < (l0_1.length : Int) then (if ((rd_T65 l0_1 a2).f3 = true) then ((q8_Listed.f k l1 a2).bind fun t283=>(some t283)) else (some true)) else (none)) else (none)
theorem q8_Open.calls (k : Nat) (A0_0 : Option Addr) (c0_0 : Nat) (l0_0 : List (S37)) (A0_1 : Option Addr) (c0_1 : Nat) (l0_1 : List (S65)) (A1 : Option Addr) (c1 : Nat) (l1 : List Int) (a2 : Int) (r : Bool) (w : World) (hr0_0 : Kd.C k37 w A0_0 l0_0.length l0_0) (hc0_0 : l0_0.length≤c0_0) (hr0_1 : Kd.C k65 w A0_1 l0_1.length l0_1) (hc0_1 : l0_1.length≤c0_1) (hr1 : Kd.C (Kd.int .i64) w A1 l1.length l1) (hc1 : l1.length≤c1) (h : q8_Open.f k l0_0 l0_1 l1 a2 = some r) :
 Calls Tryz.prog 64 #[.agg #[.slice A0_0 l0_0.length c0_0,.slice A0_1 l0_1.length c0_1],.slice A1 l1.length c1,.int .i64 a2] w fun e w'=>e = .returned (.bool r)∧Below w.heap.size w w':=by
 have hu25:=Tryz.underlying25
 have HR0_0:=am hr0_0
 have HC0_0:=am hc0_0
 clear hr0_0 hc0_0
 have HR0_1:=am hr0_1
 have HC0_1:=am hc0_1
 clear hr0_1 hc0_1
 have HR1:=am hr1
 have HC1:=am hc1
 clear hr1 hc1
 have HB:=am (Below.refl w.heap.size w)
 have H : (if 0≤a2 then (if a2 < (l0_1.length : Int) then (if ((rd_T65 l0_1 a2).f3 = true) then ((q8_Listed.f k l1 a2).bind fun t283=>(some t283)) else (some true)) else (none)) else (none)) = some r:=h
 clear h
 by_cases c4 : 0≤a2
 case neg =>
  rw [if_neg c4] at H
  exact absurd H (by simp)
 rw [if_pos c4] at H
 have c4b0 : decide (0≤a2) = true:=decide_eq_true c4
 clear c4
 by_cases c5 : a2 < (l0_1.length : Int)
 case neg =>
  rw [if_neg c5] at H
  exact absurd H (by simp)
 rw [if_pos c5] at H
 have c5b0 : decide (a2 < (l0_1.length : Int)) = true:=decide_eq_true c5
 clear c5
 obtain ⟨bq6,hbq6⟩ : ∃ b_ : Bool,b_ = ((rd_T65 l0_1 a2).f3):=⟨_,rfl⟩
 replace H : (if (bq6 = true) then ((q8_Listed.f k l1 a2).bind fun t283=>(some t283)) else (some true)) = some r:=by rw [← hbq6] at H;exact H
 have Nbq6:=am hbq6
 clear hbq6
 by_cases c7 : (bq6 = true)
 case neg =>
  replace c7:=Bool.eq_false_iff.mpr c7
  subst c7
  replace H : (some true) = some r:=by rw [if_neg (show ¬ (false = true) by decide)] at H;exact H
  obtain rfl:=Option.some.inj H
  go_enter Tryz.func64,Tryz.ntmps64
  go_wp2_with (first | ((refine ga_dst (N:=3) rfl ?_);refine box_event rfl (N:=3) rfl (cs:=#[.slice A0_0 l0_0.length c0_0,.slice A0_1 l0_1.length c0_1]) (t:=25) ?hr ?_;(case hr=>go_simp;try rfl);intro gb281 hg w11 hbox hb;have BK281:=am (hbox);have GW281:=am (ge_new (HB.out) hg);have GE281:=am (ge_new (HB.out) hg);replace HB:=am (below_step (HB.out) hb);clear hb hbox hg;obtain ⟨hcz12_0,hcz12_1⟩:=cO2 BK281.out;have p282 : 0≤(a2 : Int):=of_decide_eq_true (by assumption);have q282 : a2 < (l0_1.length : Int):=of_decide_eq_true (by assumption);obtain ⟨ad282,e282,hx282_0,hx282_1,hx282_2,hx282_3⟩:=at_T65 HR0_1.out a2 p282 q282;(try rw [← Nbq6.out] at hx282_3);cases e282;replace hx282_0:=(HB.out.cell (wbl hx282_0)).trans hx282_0;replace hx282_1:=(HB.out.cell (wbl hx282_1)).trans hx282_1;replace hx282_2:=(HB.out.cell (wbl hx282_2)).trans hx282_2;replace hx282_3:=(HB.out.cell (wbl hx282_3)).trans hx282_3;replace p282:=eq_true p282;replace q282:=eq_true q282))
  go_ret
  exact ⟨by first | rfl | (simp [*]<;>rfl),HB.out⟩
 subst c7
 replace H : ((q8_Listed.f k l1 a2).bind fun t283=>(some t283)) = some r:=by rw [if_pos rfl] at H;exact H
 replace H:=obm H
 obtain ⟨t283,A80,H⟩:=H
 replace H : (some t283) = some r:=H
 have A8:=am A80
 clear A80
 obtain rfl:=Option.some.inj H
 go_enter Tryz.func64,Tryz.ntmps64
 go_wp2_with (first | ((refine ga_dst (N:=3) rfl ?_);refine box_event rfl (N:=3) rfl (cs:=#[.slice A0_0 l0_0.length c0_0,.slice A0_1 l0_1.length c0_1]) (t:=25) ?hr ?_;(case hr=>go_simp;try rfl);intro gb281 hg w9 hbox hb;have BK281:=am (hbox);have GW281:=am (ge_new (HB.out) hg);have GE281:=am (ge_new (HB.out) hg);replace HB:=am (below_step (HB.out) hb);clear hb hbox hg;obtain ⟨hcz10_0,hcz10_1⟩:=cO2 BK281.out;have p282 : 0≤(a2 : Int):=of_decide_eq_true (by assumption);have q282 : a2 < (l0_1.length : Int):=of_decide_eq_true (by assumption);obtain ⟨ad282,e282,hx282_0,hx282_1,hx282_2,hx282_3⟩:=at_T65 HR0_1.out a2 p282 q282;(try rw [← Nbq6.out] at hx282_3);cases e282;replace hx282_0:=(HB.out.cell (wbl hx282_0)).trans hx282_0;replace hx282_1:=(HB.out.cell (wbl hx282_1)).trans hx282_1;replace hx282_2:=(HB.out.cell (wbl hx282_2)).trans hx282_2;replace hx282_3:=(HB.out.cell (wbl hx282_3)).trans hx282_3;replace p282:=eq_true p282;replace q282:=eq_true q282) | (go_at_call 43;(refine (q8_Listed.calls k _ _ l1 a2 t283 _ ?side1 ?side2 A8.out).mono ?_);(case side1=>exact kC HR1.out HB.out);(case side2=>exact HC1.out);rintro e w' ⟨rfl,⟨nd,rfl⟩⟩))
 go_ret
 exact ⟨by first | rfl | (simp [*]<;>rfl),pw_below_drewN HB.out _⟩
set_option linter.unusedSimpArgs false
section
variable {pts : List Pt} {ch : List Ch}
theorem gatesFrom_len : ∀ (i j : Int) (l : List Ch),(gatesFrom i l).length = (gatesFrom j l).length
 | _,_,[]=>rfl
 | i,j,c :: l=>by
  unfold gatesFrom
  split
  ·simp only [List.length_cons];rw [gatesFrom_len (i + 1) (j + 1) l]
  ·exact gatesFrom_len (i + 1) (j + 1) l
def finS (pts : List Pt) (ch : List Ch) (g : Nat) : Bool:=decide (1≤pts.length∧pts.length≤7) && (decide (ch.length≤10) && decide (g≤7))
theorem rNet_l1 (hp : pts.length≤1000) (hc : ch.length≤1000) : ∀ (rest : List Ch) (k i g : Nat),ch.drop i = rest→g≤i→2 * rest.length < k→
 q8_Net.l1 k (g : Int) (i : Int) pts ch = some (rest.all (chS pts.length) && finS pts ch (g + (gatesFrom 0 rest).length))
 | _,0,_,_,_,_,hk=>by omega
 | [],k + 1,i,g,hd,_,_=>by
  have : ch.length≤i:=by have:=congrArg List.length hd;simp at this;omega
  unfold q8_Net.l1
  rw [if_neg (by omega),rin_eq,show g + (gatesFrom 0 ([] : List Ch)).length = g from rfl,List.all_nil,Bool.true_and]
  unfold finS
  simp only [Option.bind_some]
  by_cases h1 : 1≤pts.length∧pts.length≤7
  ·rw [decide_eq_true h1,decide_eq_true (show (1 : Int)≤(pts.length : Int)∧(pts.length : Int)≤7 by omega),if_pos rfl]
   by_cases h2 : ch.length≤10
   ·rw [decide_eq_true h2,if_pos (by omega)];simp only [Bool.true_and];congr 1;exact Bool.eq_iff_iff.2 (by simp only [decide_eq_true_eq];omega)
   ·rw [decide_eq_false h2,if_neg (by omega)];simp
  ·rw [decide_eq_false h1,decide_eq_false (show ¬ ((1 : Int)≤(pts.length : Int)∧(pts.length : Int)≤7) by omega)];simp
 | x :: rest,k + 1,i,g,hd,hg,hk=>by
  obtain ⟨hd2,hlt⟩:=drop_succ hd
  obtain ⟨k,rfl⟩ : ∃ k',k = k' + 1:=⟨k - 1,by simp at hk;omega⟩
  have ih:=fun g h=>rNet_l1 hp hc rest k (i + 1) g hd2 h (by simp at hk;omega)
  unfold q8_Net.l1
  rw [if_pos (by omega),if_pos (by omega),rdT_nat ch i x rest hd]
  have hj : ∀ b : Bool,q8_Net.j2 (k + 1) (g : Int) (i : Int) b pts ch x.f0 x.f1 x.f2 x.f3 = some (!b && (rest.all (chS pts.length) && finS pts ch (g + (gatesFrom 0 (x :: rest)).length))):=by
   intro b
   unfold q8_Net.j2
   cases b with
   | true=>rfl
   | false =>
    rw [if_neg (by decide),wr (x:=(g : Int) + 1) (by omega) (by omega),wr (x:=(i : Int) + 1) (by omega) (by omega),show (i : Int) + 1 = ((i + 1 : Nat) : Int) from rfl,show (g : Int) + 1 = ((g + 1 : Nat) : Int) from rfl]
    unfold gatesFrom
    by_cases hx : x.f3 = true
    ·rw [if_pos hx,if_pos hx,ih _ (by omega),List.length_cons,gatesFrom_len (0 + 1) 0,show g + 1 + (gatesFrom 0 rest).length = g + ((gatesFrom 0 rest).length + 1) by omega];rfl
    ·rw [if_neg hx,if_neg hx,ih _ (by omega),gatesFrom_len (0 + 1) 0];rfl
  simp only [rPoint_eq hp,rcups_eq,Option.bind_some,hj,List.all_cons]
  unfold chS
  cases isPtS pts.length x.f0<;>cases isPtS pts.length x.f1<;>simp
  by_cases h : x.f0 = x.f1
  ·rw [if_pos h];simp [h]
  ·rw [if_neg h];simp [h,Bool.and_assoc]
theorem rNet_l0 (hp : pts.length≤1000) (hc : ch.length≤1000) : ∀ (rest : List Pt) (k i : Nat),pts.drop i = rest→rest.length + 2 * ch.length + 1 < k→
 q8_Net.l0 k (i : Int) pts ch = some (rest.all ptS && (ch.all (chS pts.length) && finS pts ch (gatesL ch).length))
 | _,0,_,_,hk=>by omega
 | [],k + 1,i,hd,hk=>by
  have : pts.length≤i:=by have:=congrArg List.length hd;simp at this;omega
  unfold q8_Net.l0
  rw [if_neg (by omega)]
  have:=rNet_l1 hp hc ch k 0 0 rfl (Nat.le_refl _) (by simp at hk;omega)
  rw [Nat.zero_add] at this
  rw [List.all_nil,Bool.true_and]
  exact this
 | x :: rest,k + 1,i,hd,hk=>by
  obtain ⟨hd2,hlt⟩:=drop_succ hd
  have ih:=rNet_l0 hp hc rest k (i + 1) hd2 (by simp at hk;omega)
  unfold q8_Net.l0
  rw [if_pos (by omega),if_pos (by omega),rdP_nat pts i x rest hd,wr (by omega) (by omega),show (i : Int) + 1 = ((i + 1 : Nat) : Int) from rfl,ih]
  simp only [rcups_eq,Option.bind_some,List.all_cons]
  unfold ptS
  cases cupS x.f0.f0<;>cases cupS x.f0.f1<;>simp
  by_cases h : x.f0.f1 < x.f0.f0
  ·rw [if_pos h,decide_eq_false (by omega)];simp
  ·rw [if_neg h,decide_eq_true (show x.f0.f0≤x.f0.f1 by omega)];cases cupS x.f1<;>simp
theorem rNet_eq (hp : pts.length≤1000) (hc : ch.length≤1000) {k : Nat} (hk : pts.length + 2 * ch.length + 1 < k) : q8_Net.f k pts ch = some (netS pts ch):=by
 have:=rNet_l0 hp hc pts k 0 rfl hk
 unfold q8_Net.f
 rw [show (0 : Int) = ((0 : Nat) : Int) from rfl,this]
 unfold netS finS
 cases decide (1≤pts.length∧pts.length≤7)<;>cases decide (ch.length≤10)<;>cases pts.all ptS<;>cases ch.all (chS pts.length)<;>rfl
theorem index_go (l : List Int) (hl : l.length≤1000) (a : Int) : ∀ (d k i : Nat),i + d = l.length→d < k→∃ r,sl_Index_int_int.l0 k l a (l.length : Int) (i : Int) = some r∧(0≤r↔a ∈ l.drop i)
 | _,0,_,_,hk=>by omega
 | 0,k + 1,i,hi,_=>by
  refine ⟨-1,?_,?_⟩
  ·unfold sl_Index_int_int.l0;rw [if_neg (by omega)]
  ·rw [List.drop_of_length_le (by omega)];simp
 | d + 1,k + 1,i,hi,hk=>by
  obtain ⟨r,h1,h2⟩:=index_go l hl a d k (i + 1) (by omega) (by omega)
  have hd : l.drop i = l.getD i 0 :: l.drop (i + 1):=by rw [List.drop_eq_getElem_cons (show i < l.length by omega),List.getD_eq_getElem?_getD,List.getElem?_eq_getElem (show i < l.length by omega)];rfl
  unfold sl_Index_int_int.l0
  rw [if_pos (by omega),if_pos (by omega),if_pos (by omega),rd_nat,wr (by omega) (by omega),show (i : Int) + 1 = ((i + 1 : Nat) : Int) from rfl,h1]
  by_cases h : a = l.getD i 0
  ·rw [if_pos h];exact ⟨i,rfl,by rw [hd,h];simp⟩
  ·rw [if_neg h];exact ⟨r,rfl,by rw [hd,List.mem_cons,h2];exact ⟨.inr,fun e=>e.elim (fun e=>absurd e h) id⟩⟩
theorem contains_eq {l : List Int} (hl : l.length≤1000) (a : Int) {k : Nat} (hk : l.length < k) : sl_Contains_int_int.f k l a = some (decide (a ∈ l)):=by
 obtain ⟨r,h1,h2⟩:=index_go l hl a l.length k 0 (by omega) hk
 unfold sl_Contains_int_int.f sl_Index_int_int.f
 rw [show (0 : Int) = ((0 : Nat) : Int) from rfl,h1]
 simp only [Option.bind_some]
 congr 1;rw [decide_eq_decide];rw [List.drop_zero] at h2;exact h2
theorem listed_go (l : List Int) (hl : l.length≤1000) (a : Int) : ∀ (d k i : Nat),i + d = l.length→d < k→q8_Listed.l0 k l a (i : Int) = some (decide (a ∈ l.drop i))
 | _,0,_,_,hk=>by omega
 | 0,k + 1,i,hi,_=>by
  unfold q8_Listed.l0;rw [if_neg (by omega),List.drop_of_length_le (by omega)];simp
 | d + 1,k + 1,i,hi,hk=>by
  have h1:=listed_go l hl a d k (i + 1) (by omega) (by omega)
  have hd : l.drop i = l.getD i 0 :: l.drop (i + 1):=by rw [List.drop_eq_getElem_cons (show i < l.length by omega),List.getD_eq_getElem?_getD,List.getElem?_eq_getElem (show i < l.length by omega)];rfl
  unfold q8_Listed.l0
  rw [if_pos (by omega),if_pos (by omega),rd_nat,wr (by omega) (by omega),show (i : Int) + 1 = ((i + 1 : Nat) : Int) from rfl,h1]
  by_cases h : l.getD i 0 = a
  ·rw [if_pos h,hd,h,decide_eq_true (List.mem_cons_self)]
  ·rw [if_neg h,hd];simp only [List.mem_cons];congr 1;rw [decide_eq_decide];constructor
   ·exact .inr
   ·rintro (e | e)
    ·exact absurd e.symm h
    ·exact e
theorem listed_eq {l : List Int} (hl : l.length≤1000) (a : Int) {k : Nat} (hk : l.length < k) : q8_Listed.f k l a = some (decide (a ∈ l)):=listed_go l hl a l.length k 0 (by omega) hk
def openC (op : List Int) (x : Ch) (c : Int) : Bool:=!x.f3 || decide (c ∈ op)
theorem carries_eq {op : List Int} (ho : op.length≤1000) {k : Nat} (hk : op.length < k) {i : Nat} {x : Ch} {rest : List Ch} (hd : ch.drop i = x :: rest) : gs_carries.f k pts ch op (i : Int) = some (if openC op x (i : Int) = true then x.f2 else 0):=by
 obtain ⟨_,hlt⟩:=drop_succ hd
 unfold gs_carries.f openC
 rw [if_pos (by omega),if_pos (by omega),rdT_nat ch i x rest hd,contains_eq ho _ hk]
 simp only [Option.bind_some]
 cases x.f3 with
 | false=>rw [if_neg (by decide)];rfl
 | true =>
  rw [if_pos rfl]
  by_cases h : (i : Int) ∈ op
  ·rw [decide_eq_true h];rfl
  ·rw [decide_eq_false h];rfl
theorem open_eq {op : List Int} (ho : op.length≤1000) {k : Nat} (hk : op.length < k) {i : Nat} {x : Ch} {rest : List Ch} (hd : ch.drop i = x :: rest) : q8_Open.f k pts ch op (i : Int) = some (openC op x (i : Int)):=by
 obtain ⟨_,hlt⟩:=drop_succ hd
 unfold q8_Open.f openC
 rw [if_pos (by omega),if_pos (by omega),rdT_nat ch i x rest hd,listed_eq ho _ hk]
 simp only [Option.bind_some]
 cases x.f3<;>rfl
theorem pt_in (h : pts.all ptS = true) {p : Int} (h0 : 0≤p) (h1 : p < (pts.length : Int)) : ptS (rd_T37 pts p) = true:=by
 rw [List.all_eq_true] at h
 refine h _ ?_
 show pts.getD p.toNat _ ∈ pts
 rw [List.getD_eq_getElem?_getD,List.getElem?_eq_getElem (show p.toNat < pts.length by omega)]
 simp
theorem ptS_iff {p : Pt} : ptS p = true↔(0≤p.f0.f0∧p.f0.f0≤10000)∧(0≤p.f0.f1∧p.f0.f1≤10000)∧p.f0.f0≤p.f0.f1∧0≤p.f1∧p.f1≤10000:=by
 unfold ptS cupS
 simp only [Bool.and_eq_true,decide_eq_true_eq]
theorem chS_iff {n : Nat} {c : Ch} : chS n c = true↔(0≤c.f0∧c.f0 < (n : Int))∧(0≤c.f1∧c.f1 < (n : Int))∧c.f0 ≠ c.f1∧0≤c.f2∧c.f2≤10000:=by
 unfold chS cupS isPtS
 simp only [Bool.and_eq_true,decide_eq_true_eq]
end
set_option linter.unusedSimpArgs false
set_option linter.unusedSimpArgs false
set_option linter.unusedSimpArgs false
set_option linter.unusedSimpArgs false
section
variable {pts : List Pt} {ch : List Ch}
theorem getD_of_drop {l : List Int} {i : Nat} {x : Int} {rest : List Int} (hd : l.drop i = x :: rest) : rd l (i : Int) = x:=by
 have:=congrArg (fun z=>z[0]?) hd
 show l.getD i 0 = x
 rw [List.getD_eq_getElem?_getD,show l[i]? = some x by simpa using this];rfl
end
section
variable {pts : List Pt} {ch : List Ch}
theorem netS_iff : netS pts ch = true↔(1≤pts.length∧pts.length≤7)∧ch.length≤10∧pts.all ptS = true∧ch.all (chS pts.length) = true∧(gatesL ch).length≤7:=by
 unfold netS
 simp only [Bool.and_eq_true,decide_eq_true_eq]
end
end Go.Proofs.YtclkbedbocnpkaaGreatDoor.C
namespace Go.Abs
open Go.RowKit Go.Proofs.YtclkbedbocnpkaaGreatDoorW.PrintWords Go.Proofs.YtclkbedbocnpkaaGreatDoorW.PrintMore
set_option linter.unusedVariables false
set_option linter.unusedSimpArgs false
set_option maxHeartbeats 16000000
set_option maxRecDepth 100000
noncomputable def capOk (k : Nat) (s : St) (v : AV) : Bool:=
 match v with
 | .nilSlice=>true
 | .slice _ _ n c=>Nat.ble n c
 | .opn b n=>match s.heap.get b with
  | some (.cells _ (some k') cs)=>Nat.beq k' k && Nat.ble 1 k && Nat.ble (n * k) cs.length
  | some (.ro _ (some k') cs)=>Nat.beq k' k && Nat.ble 1 k && Nat.ble (n * k) cs.length
  | _=>false
 | _=>false
theorem capOk_le {e : Env} {s : St} {w : World} (hs : Sim e s w) {k n m c : Nat} {v : AV} {A : Option Addr} (h : capOk k s v = true) (hx : conc e v = some (.slice A m c)) : m≤c:=by
 unfold capOk at h
 split at h
 ·simp only [conc,Option.some.injEq,Value.slice.injEq] at hx;omega
 ·simp only [conc,Option.map_eq_some_iff,Value.slice.injEq] at hx
  obtain ⟨p,_,_,rfl,rfl⟩:=hx
  exact Nat.le_of_ble_eq_true h
 ·simp only [conc,Option.map_eq_some_iff,Value.slice.injEq] at hx
  obtain ⟨p,hp,_,rfl,rfl⟩:=hx
  have key : ∀ {n' k' : Nat} {cs : List AV} {vs rest : List Value},(Nat.beq k' k && Nat.ble 1 k && Nat.ble (n' * k) cs.length) = true→concL e cs = some vs→(vs ++ rest).length = p.2 * k'→n'≤p.2:=by
   intro n' k' cs vs rest h h1 h2
   simp only [Bool.and_eq_true,Nat.beq_eq,Nat.ble_eq] at h
   obtain ⟨⟨rfl,h3⟩,h4⟩:=h
   rw [List.length_append,concL_length h1] at h2
   exact Nat.le_of_mul_le_mul_right (by omega : n' * k'≤p.2 * k') (by omega)
  split at h
  ·rename_i hb
   obtain ⟨b,q,ob,he,_,vs,rest,h1,rfl,h2⟩:=hs.at_ _ _ hb
   rw [hp] at he;cases he
   exact key h h1 h2
  ·rename_i hb
   obtain ⟨b,q,ob,he,_,vs,rest,h1,rfl,h2⟩:=hs.at_ _ _ hb
   rw [hp] at he;cases he
   exact key h h1 (h2 _ rfl)
  ·cases h
 ·cases h
theorem first_cells {e : Env} {s : St} {w : World} (hs : Sim e s w) {m n c : Nat} {v : AV} {cs : List AV} {A : Option Addr} (h : firstA m v s = some cs) (hx : conc e v = some (.slice A n c)) (hm : 0 < m) :
 ∃ ad vs,A = some ad∧concL e cs = some vs∧∀ i u,vs[i]? = some u→w.cell? (ad.add i) = some u:=by
 have cell : ∀ {g o : Nat} {t : TypeId} {vs rest us : List Value},w.heap[g]? = some (.cells (vs ++ rest).toArray t (0,0))→(∀ i u,us[i]? = some u→vs[o + i]? = some u)→∀ i u,us[i]? = some u→w.cell? ((⟨g,o,none⟩ : Addr).add i) = some u:=by
  intro g o t vs rest us hg hus i u hu
  have h1:=hus i u hu
  have h2 : o + i < vs.length:=(List.getElem?_eq_some_iff.1 h1).1
  rw [addr_add]
  simp only [World.cell?,hg]
  simp only [Option.isSome_none,Bool.false_eq_true,if_false,List.getElem?_toArray]
  rw [List.getElem?_append_left h2];exact h1
 unfold firstA at h
 split at h
 ·split at h
  ·omega
  ·cases h
 ·simp only [Option.bind_eq_some_iff] at h
  obtain ⟨ds,hg,h⟩:=h
  split at h
  ·simp only [Option.some.injEq] at h;subst h
   obtain ⟨g,q,t,vs,rest,he,hb,hvs⟩:=rd_at hs hg
   simp only [conc,he,Option.map_some,Option.some.injEq,Value.slice.injEq] at hx
   obtain ⟨rfl,_,_⟩:=hx
   refine ⟨_,_,rfl,concL_take (concL_drop hvs _) _,cell hb fun i u hu=>?_⟩
   rw [List.getElem?_take] at hu
   split at hu
   ·rw [List.getElem?_drop] at hu;exact hu
   ·cases hu
  ·cases h
 ·simp only [Option.bind_eq_some_iff] at h
  obtain ⟨ds,hg,h⟩:=h
  split at h
  ·simp only [Option.some.injEq] at h;subst h
   obtain ⟨g,q,t,vs,rest,he,hb,hvs⟩:=rd_at hs hg
   simp only [conc,he,Option.map_some,Option.some.injEq,Value.slice.injEq] at hx
   obtain ⟨rfl,_,_⟩:=hx
   refine ⟨_,_,rfl,concL_take hvs _,cell hb fun i u hu=>?_⟩
   rw [List.getElem?_take] at hu
   split at hu
   ·rw [Nat.zero_add];exact hu
   ·cases hu
  ·cases h
 ·cases h
noncomputable def rdG {α : Type} (sz : Nat) (dec : List AV→Option (List α)) (s : St) (v : AV) : Option (List α):=
 if capOk sz s v then (lenSl v).bind fun n=>if Nat.ble n 1000000 then (firstA (n * sz) v s).bind fun cs=>(dec cs).bind fun xs=>if Nat.beq xs.length n then some xs else none else none else none
theorem rdG_ok {α : Type} {d : Kd α} {e : Env} {s : St} {w : World} (hs : Sim e s w) {dec : List AV→Option (List α)} (hsz : 0 < d.sz)
 (hdec : ∀ cs xs vs,dec cs = some xs→concL e cs = some vs→∀ j p,xs[j]? = some p→d.K w p ((vs.drop (j * d.sz)).take d.sz))
 {v : AV} {xs : List α} {x : Value} (h : rdG d.sz dec s v = some xs) (hx : conc e v = some x) : ∃ A c,x = .slice A xs.length c∧xs.length≤c∧d.C w A xs.length xs:=by
 unfold rdG at h
 split at h
 case isFalse=>cases h
 rename_i hcap
 simp only [Option.bind_eq_some_iff] at h
 obtain ⟨n,hn,h⟩:=h
 split at h
 case isFalse=>cases h
 rename_i hle
 simp only [Option.bind_eq_some_iff] at h
 obtain ⟨cs,hcs,xs',hxs,h⟩:=h
 split at h
 case isFalse=>cases h
 rename_i hlen
 cases h
 have hlen : xs.length = n:=Nat.eq_of_beq_eq_true hlen
 subst hlen
 obtain ⟨_,A,c,rfl⟩:=lenSl_run hn hx
 refine ⟨A,c,rfl,capOk_le hs (n:=0) hcap hx,rfl,by have:=Nat.le_of_ble_eq_true hle;omega,fun h0=>?_⟩
 obtain ⟨ad,vs,rfl,hvs,hcell⟩:=first_cells hs hcs hx (Nat.mul_pos h0 hsz)
 refine ⟨ad,rfl,fun j p hj=>⟨_,d.K_len (hdec cs xs vs hxs hvs j p hj),hdec cs xs vs hxs hvs j p hj,fun i u hu=>?_⟩⟩
 rw [List.getElem?_take] at hu
 split at hu
 ·rw [List.getElem?_drop] at hu
  exact hcell _ u hu
 ·cases hu
def intsA : List AV→Option (List Int)
 | []=>some []
 | .int .i64 a :: l=>(intsA l).map (a :: ·)
 | _=>none
theorem intsA_eq : ∀ {cs : List AV} {xs : List Int},intsA cs = some xs→cs = xs.map (.int .i64)
 | [],_,h=>by cases h;rfl
 | a :: l,xs,h=>by
  unfold intsA at h
  split at h
  ·cases ‹_ :: _ = []›
  ·rename_i heq;cases heq
   simp only [Option.map_eq_some_iff] at h
   obtain ⟨ys,h1,rfl⟩:=h
   rw [intsA_eq h1];rfl
  ·cases h
theorem concL_ints (e : Env) : ∀ xs : List Int,concL e (xs.map (.int .i64)) = some (xs.map (Value.int .i64))
 | []=>rfl
 | x :: xs=>by simp [concL,conc,concL_ints e xs]
noncomputable def rdInts : St→AV→Option (List Int):=rdG 1 intsA
theorem rdInts_ok {e : Env} {s : St} {w : World} (hs : Sim e s w) {v : AV} {xs : List Int} {x : Value} (h : rdInts s v = some xs) (hx : conc e v = some x) : ∃ A c,x = .slice A xs.length c∧xs.length≤c∧(Kd.int .i64).C w A xs.length xs:=by
 refine rdG_ok (d:=Kd.int .i64) hs (by show 0 < 1;omega) (fun cs xs vs h1 h2 j p hj=>?_) h hx
 rw [intsA_eq h1,concL_ints] at h2;cases h2
 show ((xs.map (Value.int .i64)).drop (j * 1)).take 1 = [.int .i64 p]
 have : (xs.map (Value.int .i64))[j * 1]? = some (.int .i64 p):=by simp [hj]
 rw [List.drop_eq_getElem?_toList_append]
 rw [this];rfl
theorem grow {e : Env} {s : St} {w w' : World} (h : Sim e s w) (hb : Below w.heap.size w w') : Sim e s w'∧Goes e s w e s w':=by
 refine ⟨⟨fun n x hx=>?_,h.inj,fun n b q hn=>Nat.lt_of_lt_of_le (h.bound n b q hn) hb.size⟩,⟨Env.le.refl e,fun _ h=>.inl h,fun _ _ h=>h,fun _ _ h=>h,fun b hb' _=>hb.block b hb',hb.size,hb.os,hb.tape,hb.output,fun _ _=>rfl,fun _ h=>h,Nat.le_refl _⟩⟩
 obtain ⟨b,q,ob,he,hw,hr⟩:=h.at_ n x hx
 exact ⟨b,q,ob,he,(hb.block b (h.bound n b q he)).trans hw,hr⟩
theorem endsC {P : Program} {f : FuncId} {xs : Array Value} {w : World} {R : Ending→World→Prop} (h : Calls P f xs w R) (c : Frame) (cs : List Frame) :
 ∃ e w',R e w'∧∀ v,e = .returned v→Steps P (lone (Frame.enter P f xs .normal) (c :: cs) w) (lone (c.finish v) cs w'):=by
 obtain ⟨e,w',fr,hR,hc,_,hl⟩:=h (c :: cs)
 refine ⟨e,w',hR,fun v hv=>?_⟩
 subst hv
 exact Steps.trans hc (.one (step_leave_returned hl))
end Go.Abs
namespace Go.Proofs.YtclkbedbocnpkaaGreatDoor.C
open Go.RowKit Go.Abs Go.Proofs.YtclkbedbocnpkaaGreatDoorW.PrintWords Go.Proofs.YtclkbedbocnpkaaGreatDoorW.PrintLast Go.Proofs.YtclkbedbocnpkaaGreatDoorW.PrintMore
set_option linter.unusedVariables false
set_option linter.unusedSimpArgs false
set_option maxHeartbeats 16000000
set_option maxRecDepth 100000
def decPts : List AV→Option (List S37)
 | []=>some []
 | .int .i64 a :: .int .i64 b :: .int .i64 c :: l=>(decPts l).map (⟨⟨a,b⟩,c⟩ :: ·)
 | _=>none
theorem decPts_eq : ∀ {cs : List AV} {xs : List S37} {e : Env} {vs : List Value},decPts cs = some xs→concL e cs = some vs→∀ (j : Nat) p,xs[j]? = some p→(vs.drop (j * 3)).take 3 = [.int .i64 p.f0.f0,.int .i64 p.f0.f1,.int .i64 p.f1]
 | [],_,e,vs,h,hv,j,p,hj=>by cases h;simp at hj
 | a :: l,xs,e,vs,h,hv,j,p,hj=>by
  unfold decPts at h
  split at h
  ·cases ‹_ :: _ = []›
  ·rename_i heq;cases heq
   simp only [Option.map_eq_some_iff] at h
   obtain ⟨ys,h1,rfl⟩:=h
   simp only [concL,conc,Option.bind_some,Option.map_eq_some_iff] at hv
   obtain ⟨_,⟨_,⟨zs,hz,rfl⟩,rfl⟩,rfl⟩:=hv
   cases j with
   | zero=>cases hj;rfl
   | succ j=>rw [show (j + 1) * 3 = j * 3 + 3 by omega];exact decPts_eq h1 hz j p (by simpa using hj)
  ·cases h
def decChs : List AV→Option (List S65)
 | []=>some []
 | .int .i64 a :: .int .i64 b :: .int .i64 c :: .bool d :: l=>(decChs l).map (⟨a,b,c,d⟩ :: ·)
 | _=>none
theorem decChs_eq : ∀ {cs : List AV} {xs : List S65} {e : Env} {vs : List Value},decChs cs = some xs→concL e cs = some vs→∀ (j : Nat) p,xs[j]? = some p→(vs.drop (j * 4)).take 4 = [.int .i64 p.f0,.int .i64 p.f1,.int .i64 p.f2,.bool p.f3]
 | [],_,e,vs,h,hv,j,p,hj=>by cases h;simp at hj
 | a :: l,xs,e,vs,h,hv,j,p,hj=>by
  unfold decChs at h
  split at h
  ·cases ‹_ :: _ = []›
  ·rename_i heq;cases heq
   simp only [Option.map_eq_some_iff] at h
   obtain ⟨ys,h1,rfl⟩:=h
   simp only [concL,conc,Option.bind_some,Option.map_eq_some_iff] at hv
   obtain ⟨_,⟨_,⟨_,⟨zs,hz,rfl⟩,rfl⟩,rfl⟩,rfl⟩:=hv
   cases j with
   | zero=>cases hj;rfl
   | succ j=>rw [show (j + 1) * 4 = j * 4 + 4 by omega];exact decChs_eq h1 hz j p (by simpa using hj)
  ·cases h
noncomputable def rdPts : St→AV→Option (List S37):=rdG 3 decPts
noncomputable def rdChs : St→AV→Option (List S65):=rdG 4 decChs
theorem rdPts_ok {e : Env} {s : St} {w : World} (hs : Sim e s w) {v : AV} {xs : List S37} {x : Value} (h : rdPts s v = some xs) (hx : conc e v = some x) : ∃ A c,x = .slice A xs.length c∧xs.length≤c∧Kd.C k37 w A xs.length xs:=
 rdG_ok (d:=k37) hs (by show 0 < 3;omega) (fun cs xs vs h1 h2 j p hj=>by
  show k37.K w p ((vs.drop (j * 3)).take 3)
  rw [decPts_eq h1 h2 j p hj];exact k37_mk w p) h hx
theorem rdChs_ok {e : Env} {s : St} {w : World} (hs : Sim e s w) {v : AV} {xs : List S65} {x : Value} (h : rdChs s v = some xs) (hx : conc e v = some x) : ∃ A c,x = .slice A xs.length c∧xs.length≤c∧Kd.C k65 w A xs.length xs:=
 rdG_ok (d:=k65) hs (by show 0 < 4;omega) (fun cs xs vs h1 h2 j p hj=>by
  show k65.K w p ((vs.drop (j * 4)).take 4)
  rw [decChs_eq h1 h2 j p hj];exact k65_mk w p) h hx
noncomputable def surelyG (args : List AV) (s : St) : Option (Rt × St):=
 match args with
 | [.agg [p,c],o]=>(rdPts s p).bind fun ps=>(rdChs s c).bind fun cs=>(rdInts s o).bind fun op=>(ga_surely.f 400 ps cs op).bind fun r=>some (.ret (.bool r),s)
 | _=>none
noncomputable def gateHook : Hook:=fun f=>if Nat.beq f 65 then some surelyG else none
theorem surelyG_ok {args : List AV} {s : St} {r : Rt} {s' : St} (h : surelyG args s = some (r,s')) {e : Env} {w : World} (hs : Sim e s w) (hf : Free e s.next s'.next) {xs : List Value} (hxs : concL e args = some xs) (c : Frame) (cs : List Frame) :
 ∃ e' w',Sim e' s' w'∧Goes e s w e' s' w'∧EndsAt Tryz.prog (lone (Frame.enter Tryz.prog 65 xs.toArray .normal) (c :: cs) w) c cs e' r w':=by
 unfold surelyG at h
 split at h
 case h_2=>cases h
 rename_i p q o
 simp only [Option.bind_eq_some_iff] at h
 obtain ⟨ps,hps,qs,hqs,os,hos,rr,hr,h⟩:=h
 cases h
 simp only [concL,conc,Option.bind_eq_some_iff,Option.map_eq_some_iff,Option.some.injEq] at hxs
 obtain ⟨_,⟨_,⟨xp,hxp,_,⟨xq,hxq,_,rfl,rfl⟩,rfl⟩,rfl⟩,_,⟨xo,hxo,_,rfl,rfl⟩,rfl⟩:=hxs
 obtain ⟨A0,c0,rfl,hc0,hC0⟩:=rdPts_ok hs hps hxp
 obtain ⟨A1,c1,rfl,hc1,hC1⟩:=rdChs_ok hs hqs hxq
 obtain ⟨A2,c2,rfl,hc2,hC2⟩:=rdInts_ok hs hos hxo
 obtain ⟨en,w',⟨rfl,hB⟩,hst⟩:=endsC (ga_surely.calls 400 A0 c0 ps A1 c1 qs A2 c2 os rr w hC0 hc0 hC1 hc1 hC2 hc2 hr) c cs
 obtain ⟨hg1,hg2⟩:=grow hs hB
 exact ⟨e,w',hg1,hg2,_,rfl,hst _ rfl⟩
theorem gateHook_ok : HookOk Tryz.prog gateHook:=by
 intro f g hg args s r s' h e w hs hf xs hxs c cs
 unfold gateHook at hg
 split at hg
 ·rename_i hb;cases hg;cases Nat.eq_of_beq_eq_true hb;exact surelyG_ok h hs hf hxs c cs
 ·cases hg
end Go.Proofs.YtclkbedbocnpkaaGreatDoor.C
namespace Go.Proofs.YtclkbedbocnpkaaGreatDoor.C
open Go Go.Abs Go.RowKit
set_option linter.unusedVariables false
set_option linter.unusedSimpArgs false
set_option maxHeartbeats 16000000
set_option maxRecDepth 100000
abbrev I (n : Int) : AV:=.int .i64 n
abbrev U : AV:=.tup []
abbrev L {α : Type} : T4 α:=.leaf
abbrev N {α : Type} (v : α) (a b c d : T4 α) : T4 α:=.node v a b c d
abbrev N0 {α : Type} (v : α) : T4 α:=.node v .leaf .leaf .leaf .leaf
abbrev N1 {α : Type} (v : α) (a : T4 α) : T4 α:=.node v a .leaf .leaf .leaf
abbrev N2 {α : Type} (v : α) (a : T4 α) : T4 α:=.node v .leaf a .leaf .leaf
abbrev N3 {α : Type} (v : α) (a : T4 α) : T4 α:=.node v .leaf .leaf a .leaf
abbrev N4 {α : Type} (v : α) (a : T4 α) : T4 α:=.node v .leaf .leaf .leaf a
noncomputable def knownCall : CallF:=fCall Tryz.prog Go.Proofs.YtclkbedbocnpkaaGreatDoor.C.gateHook 100000 60
noncomputable def kt0 : FT:=ofL []
noncomputable def kg0 : Sg:=sgOf ⟨.leaf,0,[]⟩
noncomputable def kt1 : FT:=(N U (N U L (N1 U (N0 (I 0))) (N (.bool true) (N0 (I 0)) L L L) L) (N U L (N1 U (N0 (I 0))) (N (I 2) (N0 (.bool false)) L L L) L) (N U L (N (I 60) (N0 (I 0)) L L L) (N0 (I 3)) L) (N2 U (N (.opn 1095 4) (N0 (I 0)) L L L)))
noncomputable def kg1 : Sg:=sgOf ⟨(N none (N (some (.cells 37 none [(I 100),(I 120),(I 0),(I 0),(I 0),(I 0),(I 0),(I 0),(I 40),(I 0),(I 0),(I 50)])) L L (N2 none (N0 (some (.cells 65 none [(I 0),(I 1),(I 100),(.bool true),(I 0),(I 1),(I 95),(.bool true),(I 1),(I 2),(I 50),(.bool false),(I 1),(I 3),(I 60),(.bool true),(I 2),(I 3),(I 30),(.bool true)])))) (N none (N1 none (N4 none (N0 (some (.cells 3 none [(I 0),(I 3)]))))) (N none (N2 none (N0 (some (.cells 37 none [(I 80),(I 120),(I 0),(I 0),(I 0),(I 0),(I 0),(I 0),(I 40),(I 0),(I 0),(I 50)])))) L L (N1 none (N0 (some (.cells 65 none [(I 0),(I 1),(I 100),(.bool true),(I 0),(I 1),(I 95),(.bool true),(I 1),(I 2),(I 50),(.bool false),(I 1),(I 3),(I 60),(.bool true),(I 2),(I 3),(I 30),(.bool true)]))))) L L)) (N (some (.cells 65 none [(I 0),(I 1),(I 100),(.bool true),(I 0),(I 1),(I 95),(.bool true),(I 1),(I 2),(I 50),(.bool false),(I 1),(I 3),(I 60),(.bool true),(I 2),(I 3),(I 30),(.bool true)])) L L L (N2 none (N none (N2 none (N0 (some (.cells 65 none [(I 0),(I 1),(I 100),(.bool true),(I 0),(I 1),(I 95),(.bool true),(I 1),(I 2),(I 50),(.bool false),(I 1),(I 3),(I 60),(.bool true),(I 2),(I 3),(I 30),(.bool true)])))) L L (N1 none (N0 (some (.cells 3 none [(I 0),(I 3)]))))))) (N (some (.cells 3 none [(I 0),(I 3)])) (N4 none (N4 none (N3 none (N0 (some (.cells 3 (some 1) [(I 0),(I 1),(I 2),(I 3)])))))) L (N none (N1 none (N4 none (N0 (some (.cells 37 none [(I 100),(I 120),(I 0),(I 0),(I 0),(I 0),(I 0),(I 0),(I 40),(I 0),(I 0),(I 50)]))))) (N0 (some (.cells 3 none [(I 0),(I 3)]))) L L) (N2 none (N4 none (N1 none (N0 (some (.cells 3 none [(I 90),(I 0),(I 40),(I 50),(I 0)]))))))) (N none L (N2 none (N0 (some (.cells 37 none [(I 80),(I 120),(I 0),(I 0),(I 0),(I 0),(I 0),(I 0),(I 40),(I 0),(I 0),(I 50)])))) (N none (N1 none (N4 none (N0 (some (.cells 65 none [(I 0),(I 1),(I 100),(.bool true),(I 0),(I 1),(I 95),(.bool true),(I 1),(I 2),(I 50),(.bool false),(I 1),(I 3),(I 60),(.bool true),(I 2),(I 3),(I 30),(.bool true)]))))) (N4 none (N1 none (N0 (some (.cells 37 none [(I 100),(I 120),(I 0),(I 0),(I 0),(I 0),(I 0),(I 0),(I 40),(I 0),(I 0),(I 50)]))))) L L) (N2 none (N1 none (N2 none (N0 (some (.cells 3 none [(I 0),(I 3)])))))))),1989,[1121,1120,1119,1095,628,626,625,563,562,561,560,47,45,44,3,2,1]⟩
noncomputable def kt2 : FT:=(N U (N U (N (.opn 3553 2) (N0 (I 0)) L L L) (N (.opn 2262 1) (N0 (I 0)) L L L) (N (.bool true) (N0 (I 0)) L L L) L) (N U (N1 U (N0 (I 0))) (N (.opn 2094 2) (N0 (I 0)) L L L) (N (I 2) (N0 (.bool false)) L L L) L) (N U (N (.opn 2840 2) (N0 (I 0)) L L L) (N (I 60) (N0 (I 0)) L L L) (N0 (I 3)) L) (N (I 4) (N (.opn 2511 2) (N0 (I 0)) L L L) (N (.opn 1095 4) (N0 (I 0)) L L L) L (N0 (I 0))))
noncomputable def kg2 : Sg:=sgOf ⟨(N none (N (some (.cells 37 none [(I 100),(I 120),(I 0),(I 0),(I 0),(I 0),(I 0),(I 0),(I 40),(I 0),(I 0),(I 50)])) (N2 none (N3 none (N1 none (N2 none (N0 (some (.cells 37 none [(I 100),(I 120),(I 0),(I 0),(I 0),(I 0),(I 0),(I 0),(I 40),(I 0),(I 0),(I 50)]))))))) (N4 none (N4 none (N4 none (N2 none (N0 (some (.cells 3 (some 1) [(I 1),(I 3)]))))))) (N2 none (N0 (some (.cells 65 none [(I 0),(I 1),(I 100),(.bool true),(I 0),(I 1),(I 95),(.bool true),(I 1),(I 2),(I 50),(.bool false),(I 1),(I 3),(I 60),(.bool true),(I 2),(I 3),(I 30),(.bool true)])))) (N none (N none (N4 none (N0 (some (.cells 3 none [(I 0),(I 3)])))) L (N1 none (N3 none (N0 (some (.cells 26 (some 1) [(.opn 3401 2),(.opn 3551 2)]))))) L) (N none (N2 none (N0 (some (.cells 37 none [(I 80),(I 120),(I 0),(I 0),(I 0),(I 0),(I 0),(I 0),(I 40),(I 0),(I 0),(I 50)])))) L L (N none (N0 (some (.cells 65 none [(I 0),(I 1),(I 100),(.bool true),(I 0),(I 1),(I 95),(.bool true),(I 1),(I 2),(I 50),(.bool false),(I 1),(I 3),(I 60),(.bool true),(I 2),(I 3),(I 30),(.bool true)]))) (N2 none (N0 (some (.cells 65 none [(I 0),(I 1),(I 100),(.bool true),(I 0),(I 1),(I 95),(.bool true),(I 1),(I 2),(I 50),(.bool false),(I 1),(I 3),(I 60),(.bool true),(I 2),(I 3),(I 30),(.bool true)])))) (N1 none (N0 (some (.cells 65 none [(I 0),(I 1),(I 100),(.bool true),(I 0),(I 1),(I 95),(.bool true),(I 1),(I 2),(I 50),(.bool false),(I 1),(I 3),(I 60),(.bool true),(I 2),(I 3),(I 30),(.bool true)])))) L)) (N3 none (N4 none (N1 none (N0 (some (.cells 3 none [(I 0)])))))) L)) (N (some (.cells 65 none [(I 0),(I 1),(I 100),(.bool true),(I 0),(I 1),(I 95),(.bool true),(I 1),(I 2),(I 50),(.bool false),(I 1),(I 3),(I 60),(.bool true),(I 2),(I 3),(I 30),(.bool true)])) (N none (N3 none (N4 none (N1 none (N0 (some (.cells 3 (some 1) [(I 3)])))))) (N3 none (N1 none (N2 none (N0 (some (.cells 65 none [(I 0),(I 1),(I 100),(.bool true),(I 0),(I 1),(I 95),(.bool true),(I 1),(I 2),(I 50),(.bool false),(I 1),(I 3),(I 60),(.bool true),(I 2),(I 3),(I 30),(.bool true)])))))) L (N2 none (N3 none (N1 none (N0 (some (.cells 37 none [(I 100),(I 120),(I 0),(I 0),(I 0),(I 0),(I 0),(I 0),(I 40),(I 0),(I 0),(I 50)]))))))) L (N none L (N4 none (N3 none (N1 none (N0 (some (.cells 3 (some 1) [(I 0),(I 3)])))))) (N3 none (N4 none (N1 none (N0 (some (.cells 37 none [(I 100),(I 120),(I 0),(I 0),(I 0),(I 0),(I 0),(I 0),(I 40),(I 0),(I 0),(I 50)])))))) L) (N2 none (N none (N2 none (N0 (some (.cells 65 none [(I 0),(I 1),(I 100),(.bool true),(I 0),(I 1),(I 95),(.bool true),(I 1),(I 2),(I 50),(.bool false),(I 1),(I 3),(I 60),(.bool true),(I 2),(I 3),(I 30),(.bool true)])))) L L (N none (N0 (some (.cells 3 none [(I 0),(I 3)]))) (N2 none (N0 (some (.cells 3 none [(I 0),(I 3)])))) L L)))) (N (some (.cells 3 none [(I 0),(I 3)])) (N none L (N3 none (N1 none (N2 none (N0 (some (.cells 3 none [(I 0),(I 1)])))))) L (N none L (N3 none (N1 none (N0 (some (.cells 65 none [(I 0),(I 1),(I 100),(.bool true),(I 0),(I 1),(I 95),(.bool true),(I 1),(I 2),(I 50),(.bool false),(I 1),(I 3),(I 60),(.bool true),(I 2),(I 3),(I 30),(.bool true)]))))) L (N3 none (N0 (some (.cells 3 (some 1) [(I 0),(I 1),(I 2),(I 3)])))))) L (N none (N none (N4 none (N0 (some (.cells 37 none [(I 100),(I 120),(I 0),(I 0),(I 0),(I 0),(I 0),(I 0),(I 40),(I 0),(I 0),(I 50)])))) L (N1 none (N3 none (N0 (some (.cells 3 (some 1) [(I 0),(I 3)]))))) L) (N0 (some (.cells 3 none [(I 0),(I 3)]))) (N3 none (N4 none (N1 none (N0 (some (.cells 65 none [(I 0),(I 1),(I 100),(.bool true),(I 0),(I 1),(I 95),(.bool true),(I 1),(I 2),(I 50),(.bool false),(I 1),(I 3),(I 60),(.bool true),(I 2),(I 3),(I 30),(.bool true)])))))) (N2 none (N1 none (N2 none (N0 (some (.cells 3 (some 1) [(I 0),(I 1)]))))))) (N2 none (N4 none (N none (N0 (some (.cells 3 none [(I 90),(I 0),(I 40),(I 50),(I 0)]))) (N2 none (N0 (some (.cells 3 none [(I 0),(I 1)])))) L L)))) (N none (N1 none (N4 none (N2 none (N2 none (N0 (some (.cells 3 (some 1) [(I 1),(I 2)]))))))) (N2 none (N0 (some (.cells 37 none [(I 80),(I 120),(I 0),(I 0),(I 0),(I 0),(I 0),(I 0),(I 40),(I 0),(I 0),(I 50)])))) (N none (N1 none (N4 none (N0 (some (.cells 65 none [(I 0),(I 1),(I 100),(.bool true),(I 0),(I 1),(I 95),(.bool true),(I 1),(I 2),(I 50),(.bool false),(I 1),(I 3),(I 60),(.bool true),(I 2),(I 3),(I 30),(.bool true)]))))) (N4 none (N none (N0 (some (.cells 37 none [(I 100),(I 120),(I 0),(I 0),(I 0),(I 0),(I 0),(I 0),(I 40),(I 0),(I 0),(I 50)]))) (N2 none (N0 (some (.cells 37 none [(I 100),(I 120),(I 0),(I 0),(I 0),(I 0),(I 0),(I 0),(I 40),(I 0),(I 0),(I 50)])))) (N1 none (N0 (some (.cells 37 none [(I 100),(I 120),(I 0),(I 0),(I 0),(I 0),(I 0),(I 0),(I 40),(I 0),(I 0),(I 50)])))) L)) (N3 none (N4 none (N1 none (N0 (some (.cells 3 none [(I 0),(I 3)])))))) L) (N2 none (N1 none (N2 none (N0 (some (.cells 3 none [(I 0),(I 3)])))))))),3554,[3551,3401,3553,2867,2866,2865,2864,2840,2535,2534,2533,2511,2305,2304,2303,2302,2262,2097,2096,2094,1991,1990,1121,1120,1119,1095,628,626,625,563,562,561,560,47,45,44,3,2,1]⟩
noncomputable def kt3 : FT:=(N (.ptr 4157 0) (N U (N (.opn 3553 2) (N0 (I 0)) L L L) (N (.opn 2262 1) (N0 (I 0)) L L L) (N (.bool true) (N0 (I 0)) L L L) (N0 (I 0))) (N (.opn 4049 3) (N1 U (N0 (I 0))) (N (.opn 2094 2) (N0 (I 0)) L L L) (N (I 2) (N0 (.bool false)) L L L) (N0 (I 0))) (N (.opn 3710 2) (N (.opn 2840 2) (N0 (I 0)) L L L) (N (I 60) (N0 (I 0)) L L L) (N0 (I 3)) (N0 (I 0))) (N (I 4) (N (.opn 2511 2) (N0 (I 0)) L L L) (N (.opn 1095 4) (N0 (I 0)) L L L) (N0 (.bool false)) (N0 (I 0))))
noncomputable def kg3 : Sg:=sgOf ⟨(N none (N (some (.cells 37 none [(I 100),(I 120),(I 0),(I 0),(I 0),(I 0),(I 0),(I 0),(I 40),(I 0),(I 0),(I 50)])) (N2 none (N none L (N2 none (N3 none (N0 (some (.cells 3 none [(I 0),(I 1),(I 4)]))))) (N1 none (N none L (N0 (some (.cells 37 none [(I 100),(I 120),(I 0),(I 0),(I 0),(I 0),(I 0),(I 0),(I 40),(I 0),(I 0),(I 50)]))) (N0 (some (.cells 3 none [(I 0),(I 1),(I 4)]))) L)) L)) (N4 none (N4 none (N4 none (N2 none (N0 (some (.cells 3 (some 1) [(I 1),(I 3)]))))))) (N none L (N0 (some (.cells 65 none [(I 0),(I 1),(I 100),(.bool true),(I 0),(I 1),(I 95),(.bool true),(I 1),(I 2),(I 50),(.bool false),(I 1),(I 3),(I 60),(.bool true),(I 2),(I 3),(I 30),(.bool true)]))) (N4 none (N3 none (N3 none (N0 (some (.cells 25 none [(.opn 4115 2),(.opn 4126 1)])))))) L) (N none (N none (N4 none (N0 (some (.cells 3 none [(I 0),(I 3)])))) L (N1 none (N3 none (N0 (some (.cells 26 (some 1) [(.opn 3401 2),(.opn 3551 2)]))))) L) (N none (N2 none (N0 (some (.cells 37 none [(I 80),(I 120),(I 0),(I 0),(I 0),(I 0),(I 0),(I 0),(I 40),(I 0),(I 0),(I 50)])))) L L (N none (N0 (some (.cells 65 none [(I 0),(I 1),(I 100),(.bool true),(I 0),(I 1),(I 95),(.bool true),(I 1),(I 2),(I 50),(.bool false),(I 1),(I 3),(I 60),(.bool true),(I 2),(I 3),(I 30),(.bool true)]))) (N2 none (N0 (some (.cells 65 none [(I 0),(I 1),(I 100),(.bool true),(I 0),(I 1),(I 95),(.bool true),(I 1),(I 2),(I 50),(.bool false),(I 1),(I 3),(I 60),(.bool true),(I 2),(I 3),(I 30),(.bool true)])))) (N1 none (N0 (some (.cells 65 none [(I 0),(I 1),(I 100),(.bool true),(I 0),(I 1),(I 95),(.bool true),(I 1),(I 2),(I 50),(.bool false),(I 1),(I 3),(I 60),(.bool true),(I 2),(I 3),(I 30),(.bool true)])))) L)) (N3 none (N4 none (N1 none (N0 (some (.cells 3 none [(I 0)])))))) (N2 none (N3 none (N3 none (N0 (some (.cells 3 (some 1) [(I 0),(I 1),(I 0)])))))))) (N (some (.cells 65 none [(I 0),(I 1),(I 100),(.bool true),(I 0),(I 1),(I 95),(.bool true),(I 1),(I 2),(I 50),(.bool false),(I 1),(I 3),(I 60),(.bool true),(I 2),(I 3),(I 30),(.bool true)])) (N none (N3 none (N4 none (N1 none (N0 (some (.cells 3 (some 1) [(I 3)])))))) (N3 none (N1 none (N2 none (N0 (some (.cells 65 none [(I 0),(I 1),(I 100),(.bool true),(I 0),(I 1),(I 95),(.bool true),(I 1),(I 2),(I 50),(.bool false),(I 1),(I 3),(I 60),(.bool true),(I 2),(I 3),(I 30),(.bool true)])))))) L (N2 none (N3 none (N1 none (N0 (some (.cells 37 none [(I 100),(I 120),(I 0),(I 0),(I 0),(I 0),(I 0),(I 0),(I 40),(I 0),(I 0),(I 50)]))))))) L (N none (N4 none (N3 none (N3 none (N0 (some (.cells 65 (some 4) [(I 0),(I 1),(I 4),(.bool true)])))))) (N4 none (N3 none (N1 none (N0 (some (.cells 3 (some 1) [(I 0),(I 3)])))))) (N none (N2 none (N3 none (N0 (some (.cells 3 (some 1) [(I 0),(I 4)]))))) L (N4 none (N1 none (N0 (some (.cells 37 none [(I 100),(I 120),(I 0),(I 0),(I 0),(I 0),(I 0),(I 0),(I 40),(I 0),(I 0),(I 50)]))))) L) L) (N2 none (N none (N2 none (N0 (some (.cells 65 none [(I 0),(I 1),(I 100),(.bool true),(I 0),(I 1),(I 95),(.bool true),(I 1),(I 2),(I 50),(.bool false),(I 1),(I 3),(I 60),(.bool true),(I 2),(I 3),(I 30),(.bool true)])))) L L (N none (N0 (some (.cells 3 none [(I 0),(I 3)]))) (N2 none (N0 (some (.cells 3 none [(I 0),(I 3)])))) L L)))) (N (some (.cells 3 none [(I 0),(I 3)])) (N none L (N3 none (N1 none (N2 none (N0 (some (.cells 3 none [(I 0),(I 1)])))))) L (N none L (N3 none (N1 none (N0 (some (.cells 65 none [(I 0),(I 1),(I 100),(.bool true),(I 0),(I 1),(I 95),(.bool true),(I 1),(I 2),(I 50),(.bool false),(I 1),(I 3),(I 60),(.bool true),(I 2),(I 3),(I 30),(.bool true)]))))) L (N3 none (N0 (some (.cells 3 (some 1) [(I 0),(I 1),(I 2),(I 3)])))))) L (N none (N none (N4 none (N0 (some (.cells 37 none [(I 100),(I 120),(I 0),(I 0),(I 0),(I 0),(I 0),(I 0),(I 40),(I 0),(I 0),(I 50)])))) L (N1 none (N3 none (N0 (some (.cells 3 (some 1) [(I 0),(I 3)]))))) L) (N0 (some (.cells 3 none [(I 0),(I 3)]))) (N3 none (N4 none (N1 none (N0 (some (.cells 65 none [(I 0),(I 1),(I 100),(.bool true),(I 0),(I 1),(I 95),(.bool true),(I 1),(I 2),(I 50),(.bool false),(I 1),(I 3),(I 60),(.bool true),(I 2),(I 3),(I 30),(.bool true)])))))) (N2 none (N1 none (N2 none (N0 (some (.cells 3 (some 1) [(I 0),(I 1)]))))))) (N none (N none L (N2 none (N3 none (N0 (some (.cells 37 none [(I 100),(I 120),(I 0),(I 0),(I 0),(I 0),(I 0),(I 0),(I 40),(I 0),(I 0),(I 50)]))))) (N1 none (N3 none (N0 (some (.cells 37 none [(I 100),(I 120),(I 0),(I 0),(I 0),(I 0),(I 0),(I 0),(I 40),(I 0),(I 0),(I 50)]))))) L) (N4 none (N none (N0 (some (.cells 3 none [(I 90),(I 0),(I 40),(I 50),(I 0)]))) (N2 none (N0 (some (.cells 3 none [(I 0),(I 1)])))) L L)) L (N3 none (N3 none (N3 none (N0 (some (.cells 37 (some 3) [(I 5),(I 5),(I 0),(I 0),(I 0),(I 3)])))))))) (N none (N1 none (N4 none (N2 none (N2 none (N0 (some (.cells 3 (some 1) [(I 1),(I 2)]))))))) (N2 none (N0 (some (.cells 37 none [(I 80),(I 120),(I 0),(I 0),(I 0),(I 0),(I 0),(I 0),(I 40),(I 0),(I 0),(I 50)])))) (N none (N1 none (N4 none (N0 (some (.cells 65 none [(I 0),(I 1),(I 100),(.bool true),(I 0),(I 1),(I 95),(.bool true),(I 1),(I 2),(I 50),(.bool false),(I 1),(I 3),(I 60),(.bool true),(I 2),(I 3),(I 30),(.bool true)]))))) (N4 none (N none (N0 (some (.cells 37 none [(I 100),(I 120),(I 0),(I 0),(I 0),(I 0),(I 0),(I 0),(I 40),(I 0),(I 0),(I 50)]))) (N2 none (N0 (some (.cells 37 none [(I 100),(I 120),(I 0),(I 0),(I 0),(I 0),(I 0),(I 0),(I 40),(I 0),(I 0),(I 50)])))) (N1 none (N0 (some (.cells 37 none [(I 100),(I 120),(I 0),(I 0),(I 0),(I 0),(I 0),(I 0),(I 40),(I 0),(I 0),(I 50)])))) L)) (N3 none (N4 none (N1 none (N0 (some (.cells 3 none [(I 0),(I 3)])))))) L) (N none (N none L (N2 none (N3 none (N0 (some (.cells 65 none [(I 0),(I 1),(I 100),(.bool true),(I 0),(I 1),(I 95),(.bool true),(I 1),(I 2),(I 50),(.bool false),(I 1),(I 3),(I 60),(.bool true),(I 2),(I 3),(I 30),(.bool true)]))))) (N1 none (N3 none (N0 (some (.cells 65 none [(I 0),(I 1),(I 100),(.bool true),(I 0),(I 1),(I 95),(.bool true),(I 1),(I 2),(I 50),(.bool false),(I 1),(I 3),(I 60),(.bool true),(I 2),(I 3),(I 30),(.bool true)]))))) L) (N1 none (N2 none (N0 (some (.cells 3 none [(I 0),(I 3)]))))) L L))),4158,[4157,4157,4126,4115,4049,3749,3748,3747,3710,3557,3556,3555,3551,3401,3553,2867,2866,2865,2864,2840,2535,2534,2533,2511,2305,2304,2303,2302,2262,2097,2096,2094,1991,1990,1121,1120,1119,1095,628,626,625,563,562,561,560,47,45,44,3,2,1]⟩
theorem ks0 : ((kcOf Tryz.prog 15).drop 0).seqs 6 = true:=by kernel_rfl
theorem kr0 (kx : KX) (k : KT) : warm 1 (runKX 100000 (((kcOf Tryz.prog 15).drop 0).take 6) ⟨Tryz.prog,knownCall,kx⟩ kt0 kg0 k) = k kt1 kg1:=by kernel_rfl
theorem ks1 : ((kcOf Tryz.prog 15).drop 6).seqs 5 = true:=by kernel_rfl
theorem kr1 (kx : KX) (k : KT) : warm 32 (runKX 99994 (((kcOf Tryz.prog 15).drop 6).take 5) ⟨Tryz.prog,knownCall,kx⟩ kt1 kg1 k) = k kt2 kg2:=by kernel_rfl
theorem ks2 : ((kcOf Tryz.prog 15).drop 11).seqs 4 = true:=by kernel_rfl
theorem kr2 (kx : KX) (k : KT) : warm 56 (runKX 99989 (((kcOf Tryz.prog 15).drop 11).take 4) ⟨Tryz.prog,knownCall,kx⟩ kt2 kg2 k) = k kt3 kg3:=by kernel_rfl
theorem klast : okTrue (warm 65 (from_ Tryz.prog knownCall 15 15 99985 kt3 kg3)) = true:=by kernel_rfl
theorem known_run : okTrue (runF Tryz.prog Go.Proofs.YtclkbedbocnpkaaGreatDoor.C.gateHook 100000 60 15 []) = true:=by
 rw [runF_from]
 rw [show from_ Tryz.prog (fCall Tryz.prog Go.Proofs.YtclkbedbocnpkaaGreatDoor.C.gateHook 100000 60) 15 0 100000 (ofL []) (sgOf ⟨.leaf,0,[]⟩) = from_ Tryz.prog knownCall 15 0 100000 kt0 kg0 from rfl]
 rw [show from_ Tryz.prog knownCall 15 0 100000 kt0 kg0 = from_ Tryz.prog knownCall 15 6 99994 kt1 kg1 from from_step (K:=99993) (m:=6) ks0 fun kx k=>(warm_eq 1 _).symm.trans (kr0 kx k)]
 rw [show from_ Tryz.prog knownCall 15 6 99994 kt1 kg1 = from_ Tryz.prog knownCall 15 11 99989 kt2 kg2 from from_step (K:=99988) (m:=5) ks1 fun kx k=>(warm_eq 32 _).symm.trans (kr1 kx k)]
 rw [show from_ Tryz.prog knownCall 15 11 99989 kt2 kg2 = from_ Tryz.prog knownCall 15 15 99985 kt3 kg3 from from_step (K:=99984) (m:=4) ks2 fun kx k=>(warm_eq 56 _).symm.trans (kr2 kx k)]
 exact (congrArg okTrue (warm_eq 65 _)).symm.trans klast
end Go.Proofs.YtclkbedbocnpkaaGreatDoor.C
namespace Go.Proofs.YtclkbedbocnpkaaGreatDoor.C
open Go Go.RowKit Go.Abs
set_option linter.unusedVariables false
set_option linter.unusedSimpArgs false
set_option maxHeartbeats 16000000
set_option maxRecDepth 100000
def l8_known.f : Option Bool:=some true
theorem l8_known.calls (r : Bool) (w : World) (h : l8_known.f = some r) : Calls Tryz.prog 15 #[] w fun e w'=>e = .returned (.bool r)∧Below w.heap.size w w':=by
 cases h
 exact calls_true gateHook_ok known_run w
theorem known_true : l8_known.f = some true:=by simp [l8_known.f]
end Go.Proofs.YtclkbedbocnpkaaGreatDoor.C
namespace Go.Proofs.YtclkbedbocnpkaaGreatDoor.C
open Go.RowKit Go.Proofs.YtclkbedbocnpkaaGreatDoorW.PrintWords Go.Proofs.YtclkbedbocnpkaaGreatDoorW.PrintLast Go.Proofs.YtclkbedbocnpkaaGreatDoorW.PrintMore
set_option linter.unusedVariables false
set_option linter.unusedSimpArgs false
set_option maxHeartbeats 16000000
set_option maxRecDepth 100000
set_option linter.unusedSimpArgs false
set_option linter.unusedSimpArgs false
set_option linter.unusedSimpArgs false
set_option linter.unusedSimpArgs false
set_option linter.unusedSimpArgs false
set_option linter.unusedSimpArgs false
set_option linter.unusedSimpArgs false
end Go.Proofs.YtclkbedbocnpkaaGreatDoor.C
namespace Go.Proofs.YtclkbedbocnpkaaGreatDoor.C
open Go Go.RowKit Go.Proofs.YtclkbedbocnpkaaGreatDoorW.PrintWords Go.Proofs.YtclkbedbocnpkaaGreatDoorW.PrintLast Go.Proofs.YtclkbedbocnpkaaGreatDoorW.PrintMore
set_option linter.unusedVariables false
set_option linter.unusedSimpArgs false
set_option maxHeartbeats 16000000
set_option maxRecDepth 100000
section
variable {pts : List Pt} {ch : List Ch}
def openS (pts : List Pt) (ch : List Ch) (op : List Int) : Bool:=netS pts ch && someS ch op
theorem shortB_iff : shortB pts ch = true↔pts.length≤9∧ch.length≤13:=decide_eq_true_iff
end
end Go.Proofs.YtclkbedbocnpkaaGreatDoor.C
namespace Go.Proofs.YtclkbedbocnpkaaGreatDoor.C
open Go.RowKit Go.Proofs.YtclkbedbocnpkaaGreatDoorW.PrintWords Go.Proofs.YtclkbedbocnpkaaGreatDoorW.PrintLast Go.Proofs.YtclkbedbocnpkaaGreatDoorW.PrintMore
set_option linter.unusedVariables false
set_option linter.unusedSimpArgs false
set_option maxHeartbeats 16000000
set_option maxRecDepth 100000
set_option linter.unusedSimpArgs false
set_option linter.unusedSimpArgs false
set_option linter.unusedSimpArgs false
set_option linter.unusedSimpArgs false
set_option linter.unusedSimpArgs false
set_option linter.unusedSimpArgs false
end Go.Proofs.YtclkbedbocnpkaaGreatDoor.C
namespace Go.Proofs.YtclkbedbocnpkaaGreatDoor.C
open Go Go.RowKit Go.Proofs.YtclkbedbocnpkaaGreatDoorW.PrintWords Go.Proofs.YtclkbedbocnpkaaGreatDoorW.PrintLast Go.Proofs.YtclkbedbocnpkaaGreatDoorW.PrintMore
set_option linter.unusedVariables false
set_option linter.unusedSimpArgs false
set_option maxHeartbeats 16000000
set_option maxRecDepth 100000
section
variable {pts : List Pt} {ch : List Ch}
end
end Go.Proofs.YtclkbedbocnpkaaGreatDoor.C
namespace Go.Proofs.YtclkbedbocnpkaaGreatDoor.C
open Go.RowKit Go.Proofs.YtclkbedbocnpkaaGreatDoorW.PrintWords Go.Proofs.YtclkbedbocnpkaaGreatDoorW.PrintLast Go.Proofs.YtclkbedbocnpkaaGreatDoorW.PrintMore
set_option linter.unusedVariables false
set_option linter.unusedSimpArgs false
set_option maxHeartbeats 16000000
set_option maxRecDepth 100000
def ga_Feeds_1.f (a0 : Int) : Option (Bool):=(ga_isCups.f a0).bind fun t736=>(some (!t736))
theorem ga_Feeds_1.calls (a0 : Int) (r : Bool) (w : World) (h : ga_Feeds_1.f a0 = some r) :
 Calls Tryz.prog 58 #[.int .i64 a0] w fun e w'=>e = .returned (.bool r)∧Drawn0 w w':=by
 have H : ((ga_isCups.f a0).bind fun t736=>(some (!t736))) = some r:=h
 clear h
 replace H:=obm H
 obtain ⟨t736,A20,H⟩:=H
 replace H : (some (!t736)) = some r:=H
 have A2:=am A20
 clear A20
 obtain rfl:=Option.some.inj H
 go_enter Tryz.func58,Tryz.ntmps58
 go_wp2_with (first | ((with_reducible refine ga_callee (f:=59) rfl ?_);refine goesL_ (some 4) rfl rfl Tryz.func59 (by kernel_rfl) rfl #[.int .i64 a0] rfl (by (try simp only [List.map_toArray,List.map_cons,List.map_nil]);first | done | rfl | (simp only [List.length_drop,List.length_take];rfl)) ?_;(refine (ga_isCups.calls a0 t736 _ A2.out).mono ?_);rintro e w' ⟨rfl,⟨nd,rfl⟩⟩;refine ⟨_,rfl,?_⟩))
 go_ret
 exact ⟨by first | rfl | (simp;done) | (simp [*];done),by repeat (first | exact Drawn0.refl _ | apply Drawn0.step)⟩
def Pred_Feeds1 (q : Int→Option Bool) (w : World) (xs : List Int) : Prop:=∀ (x : Int) (b : Bool) (W : World) ,x ∈ xs→q x = some b→Below w.heap.size w W→
 Calls Tryz.prog 58 #[.int .i64 x] W fun e W'=>e = .returned (.bool b)∧Below W.heap.size W W'
theorem idx_Feeds1 (q : Int→Option Bool) (A : Option Addr) (c : Nat) (xs : List Int) (r : Int) (w : World) (hr : Kd.C (Kd.int .i64) w A xs.length xs) (hp : Pred_Feeds1 q w xs) (h : idxM q xs 0 = some r) :
 Calls Tryz.prog 104 #[.slice A xs.length c,.func (.func 58) #[] #[]] w fun e w'=>e = .returned (.int .i64 r)∧Below w.heap.size w w':=by
 have HR:=Aside0.mk hr
 have HP:=Aside0.mk hp
 have HQ:=Aside0.mk (show idxM q (xs.drop (0 : Int).toNat) 0 = some r from h)
 have hm : xs.length≤9223372036854775807:=Kd.C_max hr
 clear hr hp h
 go_enter Tryz.func104,Tryz.ntmps104
 go_wp2
 go_loopw [5,8] (fun v5 v8 w'=>∃ i : Int,0≤i∧i≤xs.length∧v8 = .int .i64 i∧Aside0 (idxM q (xs.drop i.toNat) i = some r)∧Aside0 (Below w.heap.size w w')) (fun _ v8 _=>xs.length - (intOf v8).toNat)
 case atStart=>exact ⟨0,by omega,by omega,rfl,HQ,⟨Below.refl _ _⟩⟩
 case round =>
  clear HQ
  obtain ⟨i,p1,hi,rfl,HQ,HB⟩:=hrel
  by_cases hlt : i < (xs.length : Int)
  ·obtain ⟨ad,e1,hx0⟩:=Kd.at_int HR.out i p1 hlt
   cases e1
   replace hx0:=(HB.out.cell (wbl hx0)).trans hx0
   rcases idxM_step (0 : Int) p1 hlt HQ.out with ⟨hq,he⟩ | ⟨hq,hn⟩
   ·have H1:=Aside0.mk hq
    have X1:=Aside0.mk (getD_mem (0 : Int) p1 hlt)
    have H2:=Aside0.mk he
    clear hq he
    go_wp2_with (go_at_call 58;refine (HP.out (xs.getD i.toNat (0 : Int)) _ _ X1.out H1.out HB.out).mono ?_;rintro e W' ⟨rfl,hb⟩)
    go_ret
    exact ⟨ret_int_eq H2.out,below_then HB.out HB.out.size hb⟩
   ·have H1:=Aside0.mk hq
    have X1:=Aside0.mk (getD_mem (0 : Int) p1 hlt)
    have H2:=Aside0.mk hn
    clear hq hn
    go_wp2_with (go_at_call 58;refine (HP.out (xs.getD i.toNat (0 : Int)) _ _ X1.out H1.out HB.out).mono ?_;rintro e W' ⟨rfl,hb⟩)
    go_roundw
    case rel=>exact ⟨i + 1,by omega,by omega,by go_num,H2,⟨below_then HB.out HB.out.size hb⟩⟩
    case measure=>simp [intOf];omega
  ·go_wp2
   go_ret
   exact ⟨ret_int_eq (idxM_end (by omega) HQ.out),HB.out⟩
theorem any_Feeds1 (q : Int→Option Bool) (A : Option Addr) (c : Nat) (xs : List Int) (r : Bool) (w : World) (hr : Kd.C (Kd.int .i64) w A xs.length xs) (hp : Pred_Feeds1 q w xs) (h : anyM q xs = some r) :
 Calls Tryz.prog 57 #[.slice A xs.length c,.func (.func 58) #[] #[]] w fun e w'=>e = .returned (.bool r)∧Below w.heap.size w w':=by
 obtain ⟨j,hj,hd⟩:=idxM_of_anyM q xs 0 r (by omega) h
 have H1:=Aside0.mk hj
 have H2:=Aside0.mk hd
 have HR:=Aside0.mk hr
 have HP:=Aside0.mk hp
 clear hr hp h hj hd
 go_enter Tryz.func57,Tryz.ntmps57
 go_wp2_with (go_at_call 104;refine (idx_Feeds1 q _ _ xs j _ HR.out HP.out H1.out).mono ?_;rintro e W' ⟨rfl,hb⟩)
 go_ret
 exact ⟨ret_bool_eq H2.out,hb⟩
def cf_Feeds1.f (l0 : List Int) : Option Bool:=anyM ga_Feeds_1.f l0
theorem cf_Feeds1.calls (A0 : Option Addr) (c0 : Nat) (l0 : List Int) (r : Bool) (w : World) (hr0 : Kd.C (Kd.int .i64) w A0 l0.length l0) (hc0 : l0.length≤c0) (h : cf_Feeds1.f l0 = some r) :
 Calls Tryz.prog 57 #[.slice A0 l0.length c0,.func (.func 58) #[] #[]] w fun e w'=>e = .returned (.bool r)∧Below w.heap.size w w':=
 any_Feeds1 ga_Feeds_1.f A0 c0 l0 r w hr0 (fun x b W hx hq hb=>(ga_Feeds_1.calls _ b W hq).mono fun e W' ⟨he,hd⟩=>⟨he,hd.below⟩) h
def ga_Feeds_2.f (a0 : Int) : Option (Bool):=some (decide (a0 < 0))
theorem ga_Feeds_2.calls (a0 : Int) (r : Bool) (w : World) (h : ga_Feeds_2.f a0 = some r) :
 Calls Tryz.prog 61 #[.int .i64 a0] w fun e w'=>e = .returned (.bool r)∧Drawn0 w w':=by
 have H : (some (decide (a0 < 0))) = some r:=h
 clear h
 obtain rfl:=Option.some.inj H
 go_enter Tryz.func61,Tryz.ntmps61
 go_wp2
 go_ret
 exact ⟨by first | rfl | (simp;done) | (simp [*];done),by repeat (first | exact Drawn0.refl _ | apply Drawn0.step)⟩
end Go.Proofs.YtclkbedbocnpkaaGreatDoor.C

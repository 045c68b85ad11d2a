/- A part of the proof: the walks of the functions that it reaches. TIGHT. -/
import Derived.Test.YtclkbedbocnpkaaGreatDoorMFlo8
import Derived.Test.YtclkbedbocnpkaaGreatDoorMFlo5
set_option linter.unusedVariables false
set_option linter.unusedSimpArgs false
namespace Go.Proofs.YtclkbedbocnpkaaGreatDoor.C
open Go.RowKit Go.Proofs.YtclkbedbocnpkaaGreatDoorW.PrintWords Go.Proofs.YtclkbedbocnpkaaGreatDoorW.PrintLast Go.Proofs.YtclkbedbocnpkaaGreatDoorW.PrintMore
set_option linter.unusedVariables false
set_option linter.unusedSimpArgs false
set_option maxHeartbeats 16000000
set_option maxRecDepth 100000
def q8_Some.l0 : Nat→List Int→Int→List (S37)→List (S65)→Option (Bool)
 | 0,_,_,_,_=>none
 | k + 1,x1,x5,x273000,x273001=>if x5 < (x1.length : Int) then (if 0≤x5 then ((q8_Gate.f x273000 x273001 (rd x1 x5)).bind fun t274=>(if t274 = true then (if x5 > 0 then (if 0≤(wrap64 (x5 - 1)) then (if (wrap64 (x5 - 1)) < (x1.length : Int) then (if (rd x1 x5)≤(rd x1 (wrap64 (x5 - 1))) then (some false) else (q8_Some.l0 k x1 (wrap64 (x5 + 1)) x273000 x273001)) else (none)) else (none)) else (q8_Some.l0 k x1 (wrap64 (x5 + 1)) x273000 x273001)) else (some false))) else (none)) else (some true)
def q8_Some.f (k : Nat) (l0_0 : List (S37)) (l0_1 : List (S65)) (l1 : List Int) : Option (Bool):=q8_Some.l0 k l1 0 l0_0 l0_1
def q8_Some.T4 : Bool × List (List Nat × List Nat):=(true,[([],[]),([],[]),([],[]),([1,2],[1,2]),([3],[3]),([0,4],[0,4]),([5],[5]),([6,5],[6]),([7],[7]),([8,7],[7,8]),([9,7,7],[7,9]),([10],[10]),([10],[10]),([11,12,10],[10,11,12]),([13,10],[10,13]),([10],[10]),([10],[10]),([16,10],[10,16]),([15,17,10],[10,15,17]),([18,10],[10,18]),([14,19,10],[10,14,19]),([10,20,7],[7,10,20]),([7,21],[7,21])])
def q8_Some.B4 : List Nat:=[0,0,0,6,14,31,63,127,255,511,1023,2047,2047,8191,16383,2047,2047,67583,231423,493567,1048575,2097151,4194303]
theorem q8_Some.tab4 : rtab .any (opsOf Tryz.f18 4) = q8_Some.T4:=by kernel_rfl
theorem q8_Some.bits4 : waitsOk q8_Some.T4.2 q8_Some.B4 = true:=by kernel_rfl
theorem q8_Some.calls (k : Nat) (A0_0 : Option Addr) (c0_0 : Nat) (l0_0 : List (S37)) (A0_1 : Option Addr) (c0_1 : Nat) (l0_1 : List (S65)) (A1 : Option Addr) (c1 : Nat) (l1 : List Int) (r : Bool) (w : World) (hr0_0 : Kd.C k37 w A0_0 l0_0.length l0_0) (hc0_0 : l0_0.length≤c0_0) (hr0_1 : Kd.C k65 w A0_1 l0_1.length l0_1) (hc0_1 : l0_1.length≤c0_1) (hr1 : Kd.C (Kd.int .i64) w A1 l1.length l1) (hc1 : l1.length≤c1) (h : q8_Some.f k l0_0 l0_1 l1 = some r) :
 Calls Tryz.prog 18 #[.agg #[.slice A0_0 l0_0.length c0_0,.slice A0_1 l0_1.length c0_1],.slice A1 l1.length c1] w fun e w'=>e = .returned (.bool r)∧Below w.heap.size w w':=by
 have hu25:=Tryz.underlying25
 have HR0_0:=am hr0_0
 have HC0_0:=am hc0_0
 clear hr0_0 hc0_0
 have HR0_1:=am hr0_1
 have HC0_1:=am hc0_1
 clear hr0_1 hc0_1
 have HR1:=am hr1
 have HC1:=am hc1
 clear hr1 hc1
 have HB:=am (Below.refl w.heap.size w)
 have H : (q8_Some.l0 k l1 0 l0_0 l0_1) = some r:=h
 clear h
 replace H':=am H
 go_enter Tryz.func18,Tryz.ntmps18
 go_wp2_with (first | ((refine ga_dst (N:=2) rfl ?_);refine box_event rfl (N:=2) rfl (cs:=#[.slice A0_0 l0_0.length c0_0,.slice A0_1 l0_1.length c0_1]) (t:=25) ?hr ?_;(case hr=>go_simp;try rfl);intro gb272 hg w3 hbox hb;have BK272:=am (hbox);have GW272:=am (ge_new (HB.out) hg);have GE272:=am (ge_new (HB.out) hg);replace HB:=am (below_step (HB.out) hb);clear hb hbox hg))
 go_loopg [5] k (fun kq v5 w'=>∃ (x5_1 : Int),v5 = .int .i64 x5_1∧Aside0 (q8_Some.l0 kq l1 x5_1 l0_0 l0_1 = some r)∧Aside0 (kq≤k)∧Aside0 (w'.heap[gb272]? = some (.cells #[(.slice A0_0 l0_0.length c0_0),(.slice A0_1 l0_1.length c0_1)] 25 (0,0)))∧Aside0 (Below w.heap.size w w'))
 case atStart=>exact ⟨(0),(by first | rfl | (simp;done) | (simp [*];done)),H',⟨Nat.le_refl _⟩,⟨BK272.out⟩,⟨HB.out⟩⟩
 case round =>
  clear H'
  obtain ⟨x5_1,rfl,HA,HK1,BK272,HB⟩:=hrel
  cases gk with
  | zero=>exact absurd HA.out (by simp [q8_Some.l0])
  | succ k1 =>
   have H:=HA.out
   clear HA
   simp only [q8_Some.l0] at H
   by_cases c4 : x5_1 < (l1.length : Int)
   case neg =>
    rw [if_neg c4] at H
    have c4b0 : decide (x5_1 < (l1.length : Int)) = false:=decide_eq_false c4
    clear c4
    obtain rfl:=Option.some.inj H
    go_wp2
    go_ret
    exact ⟨by first | rfl | (simp [*]<;>rfl),HB.out⟩
   rw [if_pos c4] at H
   have c4b0 : decide (x5_1 < (l1.length : Int)) = true:=decide_eq_true c4
   clear c4
   by_cases c5 : 0≤x5_1
   case neg =>
    rw [if_neg c5] at H
    exact absurd H (by simp)
   rw [if_pos c5] at H
   have c5b0 : decide (0≤x5_1) = true:=decide_eq_true c5
   clear c5
   replace H:=obm H
   obtain ⟨t274,A60,H⟩:=H
   replace H : (if t274 = true then (if x5_1 > 0 then (if 0≤(wrap64 (x5_1 - 1)) then (if (wrap64 (x5_1 - 1)) < (l1.length : Int) then (if (rd l1 x5_1)≤(rd l1 (wrap64 (x5_1 - 1))) then (some false) else (q8_Some.l0 k1 l1 (wrap64 (x5_1 + 1)) l0_0 l0_1)) else (none)) else (none)) else (q8_Some.l0 k1 l1 (wrap64 (x5_1 + 1)) l0_0 l0_1)) else (some false)) = some r:=H
   have A6:=am A60
   clear A60
   by_cases c7 : t274 = true
   case neg =>
    replace c7:=Bool.eq_false_iff.mpr c7
    subst c7
    replace H : (some false) = some r:=by rw [if_neg (show ¬ (false = true) by decide)] at H;exact H
    obtain rfl:=Option.some.inj H
    try go_wp2
    replace BK272:=am (blk_drew BK272.out)
    replace HB:=am (below_drew1 HB.out)
    have p273 : 0≤(x5_1 : Int):=of_decide_eq_true (by assumption)
    have q273 : x5_1 < (l1.length : Int):=of_decide_eq_true (by assumption)
    obtain ⟨ad273,e273,hx273_0⟩:=Kd.at_int HR1.out x5_1 p273 q273
    have hw273_0:=hx273_0
    cases e273
    replace hx273_0:=(HB.out.cell (wbl hx273_0)).trans hx273_0
    replace p273:=eq_true p273
    replace q273:=eq_true q273
    refine start_ (n:=23) (S:=fun w'=>w'.cell? ⟨gb272,0,none⟩ = some (.slice A0_0 l0_0.length c0_0)∧w'.cell? ⟨gb272,1,none⟩ = some (.slice A0_1 l0_1.length c0_1)∧w'.cell? (ad273.add (x5_1).toNat) = some (.int .i64 (rd l1 x5_1))) (ds:=[]) (ba 23 0) (by kernel_rfl) rfl rfl ⟨(blk_cell BK272.out 0).trans rfl,(blk_cell BK272.out 1).trans rfl,((HB.out.cell (wbl hw273_0)).trans hw273_0)⟩ (fun hHeld=>?_);refine with_tabW q8_Some.tab4 q8_Some.bits4 (fun HT_ HW_=>?_)
    generalize wr.drew = w19 at BK272 HB hx273_0 hHeld ⊢
    refine pure_ (i:=1) (N:=some 13) (v:=?_) (a':=?_) (ba 23 2) rfl rfl (any_of HT_.out (by kernel_rfl)) (fun _ _ _ h=>h) (Or.inl ⟨by rfl,?_⟩) ?_ ?_
    rotate_left
    ·intro w'
     go_simp
     with_reducible rfl
    rotate_left
    ·simp only [Act.put,NRM]
     rfl
    refine pure_ (i:=2) (N:=some 14) (v:=?_) (a':=?_) (ba 23 6) rfl rfl (any_of HT_.out (by kernel_rfl)) (fun _ _ _ h=>h) (Or.inl ⟨by rfl,?_⟩) ?_ ?_
    rotate_left
    ·intro w'
     go_simp
     with_reducible rfl
    rotate_left
    ·simp only [Act.put,NRM]
     rfl
    refine pure_ (i:=3) (N:=some 15) (v:=?_) (a':=?_) (ba 23 14) rfl rfl (any_of HT_.out (by kernel_rfl)) (fun _ _ _ h=>h) (Or.inl ⟨by rfl,?_⟩) ?_ ?_
    rotate_left
    ·intro w'
     go_simp
     with_reducible rfl
    rotate_left
    ·simp only [Act.put,NRM]
     rfl
    refine take_ (i:=0) (N:=some 12) (v:=?_) (a':=?_) (ba 23 15) rfl rfl (take_ofW HT_.out HW_.out (by kernel_rfl)) (fun _ _ _ h=>h) (Or.inl ⟨by rfl,?_⟩) hHeld ?_ ?_
    rotate_left
    ·rintro w' ⟨s0,s1,s2⟩
     go_simp
     with_reducible rfl
    rotate_left
    ·simp only [Act.put,NRM]
     rfl
    refine take_ (i:=4) (N:=some 16) (v:=?_) (a':=?_) (ba 23 31) rfl rfl (take_ofW HT_.out HW_.out (by kernel_rfl)) (fun _ _ _ h=>h) (Or.inl ⟨by rfl,?_⟩) hHeld ?_ ?_
    rotate_left
    ·rintro w' ⟨s0,s1,s2⟩
     go_simp
     with_reducible rfl
    rotate_left
    ·simp only [Act.put,NRM]
     rfl
    refine one_ (i:=5) (N:=some 17) (ba 23 63) rfl rfl (one_of HT_.out (by kernel_rfl)) (by decide) (fun K hK=>?_)
    refine goes_ Tryz.func42 (by kernel_rfl) rfl #[.agg #[.slice A0_0 l0_0.length c0_0,.slice A0_1 l0_1.length c0_1],.int .i64 (rd l1 x5_1)] (by rfl) rfl rfl (by (try simp only [List.map_toArray,List.map_cons,List.map_nil]);first | done | rfl | (simp only [List.length_drop,List.length_take];rfl)) ?_
    with_reducible refine (q8_Gate.calls _ _ l0_0 _ _ l0_1 (rd l1 x5_1) false _ ?side1 ?side2 ?side3 ?side4 A6.out).mono ?_
    (case side1=>exact kC HR0_0.out HB.out)
    (case side2=>exact HC0_0.out)
    (case side3=>exact kC HR0_1.out HB.out)
    (case side4=>exact HC0_1.out)
    rintro e w20 ⟨rfl,hb⟩
    refine ⟨_,rfl,?_⟩
    replace BK272:=(kmv hb BK272)
    replace HB:=am (below_step (HB.out) hb)
    (try clear hb)
    (try clear hb2)
    (try clear hk)
    (try clear hi)
    refine hK.out _ _ ⟨(blk_cell BK272.out 0).trans rfl,(blk_cell BK272.out 1).trans rfl,((HB.out.cell (wbl hw273_0)).trans hw273_0)⟩ (fun hHeld=>?_)
    clear hK K
    refine norm_ (a':=?_) ?_ ?_
    rotate_left
    ·show Act.put _ (some 17) _ = _
     simp only [Act.put,NRM]
     rfl
    refine pure_ (i:=6) (N:=some 18) (v:=?_) (a':=?_) (ba 23 127) rfl rfl (any_of HT_.out (by kernel_rfl)) (fun _ _ _ h=>h) (Or.inl ⟨by rfl,?_⟩) ?_ ?_
    rotate_left
    ·intro w'
     go_simp
     with_reducible rfl
    rotate_left
    ·simp only [Act.put,NRM]
     rfl
    refine pure_ (i:=7) (N:=some 19) (v:=?_) (a':=?_) (ba 23 255) rfl rfl (any_of HT_.out (by kernel_rfl)) (fun _ _ _ h=>h) (Or.inl ⟨by rfl,?_⟩) ?_ ?_
    rotate_left
    ·intro w'
     go_simp
     with_reducible rfl
    rotate_left
    ·simp only [Act.put,NRM]
     rfl
    refine pure_ (i:=8) (N:=some 20) (v:=undef) (a':=?_) (ba 23 511) rfl rfl (any_of HT_.out (by kernel_rfl)) (fun _ _ _ h=>h) (Or.inr ⟨by rfl,rfl⟩) ?_ ?_
    rotate_left
    ·simp only [Act.put,NRM]
     rfl
    refine pure_ (i:=9) (N:=some 21) (v:=undef) (a':=?_) (ba 23 1023) rfl rfl (any_of HT_.out (by kernel_rfl)) (fun _ _ _ h=>h) (Or.inr ⟨by rfl,rfl⟩) ?_ ?_
    rotate_left
    ·simp only [Act.put,NRM]
     rfl
    refine pure_ (i:=10) (N:=some 22) (v:=undef) (a':=?_) (ba 23 2047) rfl rfl (any_of HT_.out (by kernel_rfl)) (fun _ _ _ h=>h) (Or.inr ⟨by rfl,rfl⟩) ?_ ?_
    rotate_left
    ·simp only [Act.put,NRM]
     rfl
    refine pure_ (i:=11) (N:=some 23) (v:=undef) (a':=?_) (ba 23 4095) rfl rfl (any_of HT_.out (by kernel_rfl)) (fun _ _ _ h=>h) (Or.inr ⟨by rfl,rfl⟩) ?_ ?_
    rotate_left
    ·simp only [Act.put,NRM]
     rfl
    refine pure_ (i:=12) (N:=some 24) (v:=undef) (a':=?_) (ba 23 8191) rfl rfl (any_of HT_.out (by kernel_rfl)) (fun _ _ _ h=>h) (Or.inr ⟨by rfl,rfl⟩) ?_ ?_
    rotate_left
    ·simp only [Act.put,NRM]
     rfl
    refine pure_ (i:=13) (N:=some 25) (v:=undef) (a':=?_) (ba 23 16383) rfl rfl (any_of HT_.out (by kernel_rfl)) (fun _ _ _ h=>h) (Or.inr ⟨by rfl,rfl⟩) ?_ ?_
    rotate_left
    ·simp only [Act.put,NRM]
     rfl
    refine pure_ (i:=14) (N:=some 26) (v:=undef) (a':=?_) (ba 23 32767) rfl rfl (any_of HT_.out (by kernel_rfl)) (fun _ _ _ h=>h) (Or.inr ⟨by rfl,rfl⟩) ?_ ?_
    rotate_left
    ·simp only [Act.put,NRM]
     rfl
    refine pure_ (i:=15) (N:=some 27) (v:=undef) (a':=?_) (ba 23 65535) rfl rfl (any_of HT_.out (by kernel_rfl)) (fun _ _ _ h=>h) (Or.inr ⟨by rfl,rfl⟩) ?_ ?_
    rotate_left
    ·simp only [Act.put,NRM]
     rfl
    refine pure_ (i:=16) (N:=some 28) (v:=undef) (a':=?_) (ba 23 131071) rfl rfl (any_of HT_.out (by kernel_rfl)) (fun _ _ _ h=>h) (Or.inr ⟨by rfl,rfl⟩) ?_ ?_
    rotate_left
    ·simp only [Act.put,NRM]
     rfl
    refine pure_ (i:=17) (N:=some 29) (v:=undef) (a':=?_) (ba 23 262143) rfl rfl (any_of HT_.out (by kernel_rfl)) (fun _ _ _ h=>h) (Or.inr ⟨by rfl,rfl⟩) ?_ ?_
    rotate_left
    ·simp only [Act.put,NRM]
     rfl
    refine pure_ (i:=18) (N:=some 30) (v:=undef) (a':=?_) (ba 23 524287) rfl rfl (any_of HT_.out (by kernel_rfl)) (fun _ _ _ h=>h) (Or.inr ⟨by rfl,rfl⟩) ?_ ?_
    rotate_left
    ·simp only [Act.put,NRM]
     rfl
    refine pure_ (i:=19) (N:=some 31) (v:=undef) (a':=?_) (ba 23 1048575) rfl rfl (any_of HT_.out (by kernel_rfl)) (fun _ _ _ h=>h) (Or.inr ⟨by rfl,rfl⟩) ?_ ?_
    rotate_left
    ·simp only [Act.put,NRM]
     rfl
    refine pure_ (i:=20) (N:=some 32) (v:=undef) (a':=?_) (ba 23 2097151) rfl rfl (any_of HT_.out (by kernel_rfl)) (fun _ _ _ h=>h) (Or.inr ⟨by rfl,rfl⟩) ?_ ?_
    rotate_left
    ·simp only [Act.put,NRM]
     rfl
    refine pure_ (i:=21) (N:=some 33) (v:=undef) (a':=?_) (ba 23 4194303) rfl rfl (any_of HT_.out (by kernel_rfl)) (fun _ _ _ h=>h) (Or.inr ⟨by rfl,rfl⟩) ?_ ?_
    rotate_left
    ·simp only [Act.put,NRM]
     rfl
    refine pure_ (i:=22) (N:=some 34) (v:=?_) (a':=?_) (ba 23 8388607) rfl rfl (any_of HT_.out (by kernel_rfl)) (fun _ _ _ h=>h) (Or.inl ⟨by rfl,?_⟩) ?_ ?_
    rotate_left
    ·intro w'
     go_simp
     with_reducible rfl
    rotate_left
    ·simp only [Act.put,NRM]
     rfl
    refine done_ (done_of HT_.out (by kernel_rfl)) ?_
    try go_wp2
    go_ret
    exact ⟨by first | rfl | (simp [*]<;>rfl),HB.out⟩
   subst c7
   replace H : (if x5_1 > 0 then (if 0≤(wrap64 (x5_1 - 1)) then (if (wrap64 (x5_1 - 1)) < (l1.length : Int) then (if (rd l1 x5_1)≤(rd l1 (wrap64 (x5_1 - 1))) then (some false) else (q8_Some.l0 k1 l1 (wrap64 (x5_1 + 1)) l0_0 l0_1)) else (none)) else (none)) else (q8_Some.l0 k1 l1 (wrap64 (x5_1 + 1)) l0_0 l0_1)) = some r:=by rw [if_pos rfl] at H;exact H
   by_cases c8 : x5_1 > 0
   case neg =>
    rw [if_neg c8] at H
    have c8b0 : decide (0 < x5_1) = false:=decide_eq_false c8
    clear c8
    replace H':=am H
    try go_wp2
    replace BK272:=am (blk_drew BK272.out)
    replace HB:=am (below_drew1 HB.out)
    have p273 : 0≤(x5_1 : Int):=of_decide_eq_true (by assumption)
    have q273 : x5_1 < (l1.length : Int):=of_decide_eq_true (by assumption)
    obtain ⟨ad273,e273,hx273_0⟩:=Kd.at_int HR1.out x5_1 p273 q273
    have hw273_0:=hx273_0
    cases e273
    replace hx273_0:=(HB.out.cell (wbl hx273_0)).trans hx273_0
    replace p273:=eq_true p273
    replace q273:=eq_true q273
    refine start_ (n:=23) (S:=fun w'=>w'.cell? ⟨gb272,0,none⟩ = some (.slice A0_0 l0_0.length c0_0)∧w'.cell? ⟨gb272,1,none⟩ = some (.slice A0_1 l0_1.length c0_1)∧w'.cell? (ad273.add (x5_1).toNat) = some (.int .i64 (rd l1 x5_1))) (ds:=[]) (ba 23 0) (by kernel_rfl) rfl rfl ⟨(blk_cell BK272.out 0).trans rfl,(blk_cell BK272.out 1).trans rfl,((HB.out.cell (wbl hw273_0)).trans hw273_0)⟩ (fun hHeld=>?_);refine with_tabW q8_Some.tab4 q8_Some.bits4 (fun HT_ HW_=>?_)
    generalize wr.drew = w17 at BK272 HB hx273_0 hHeld ⊢
    refine pure_ (i:=1) (N:=some 13) (v:=?_) (a':=?_) (ba 23 2) rfl rfl (any_of HT_.out (by kernel_rfl)) (fun _ _ _ h=>h) (Or.inl ⟨by rfl,?_⟩) ?_ ?_
    rotate_left
    ·intro w'
     go_simp
     with_reducible rfl
    rotate_left
    ·simp only [Act.put,NRM]
     rfl
    refine pure_ (i:=2) (N:=some 14) (v:=?_) (a':=?_) (ba 23 6) rfl rfl (any_of HT_.out (by kernel_rfl)) (fun _ _ _ h=>h) (Or.inl ⟨by rfl,?_⟩) ?_ ?_
    rotate_left
    ·intro w'
     go_simp
     with_reducible rfl
    rotate_left
    ·simp only [Act.put,NRM]
     rfl
    refine pure_ (i:=3) (N:=some 15) (v:=?_) (a':=?_) (ba 23 14) rfl rfl (any_of HT_.out (by kernel_rfl)) (fun _ _ _ h=>h) (Or.inl ⟨by rfl,?_⟩) ?_ ?_
    rotate_left
    ·intro w'
     go_simp
     with_reducible rfl
    rotate_left
    ·simp only [Act.put,NRM]
     rfl
    refine take_ (i:=0) (N:=some 12) (v:=?_) (a':=?_) (ba 23 15) rfl rfl (take_ofW HT_.out HW_.out (by kernel_rfl)) (fun _ _ _ h=>h) (Or.inl ⟨by rfl,?_⟩) hHeld ?_ ?_
    rotate_left
    ·rintro w' ⟨s0,s1,s2⟩
     go_simp
     with_reducible rfl
    rotate_left
    ·simp only [Act.put,NRM]
     rfl
    refine take_ (i:=4) (N:=some 16) (v:=?_) (a':=?_) (ba 23 31) rfl rfl (take_ofW HT_.out HW_.out (by kernel_rfl)) (fun _ _ _ h=>h) (Or.inl ⟨by rfl,?_⟩) hHeld ?_ ?_
    rotate_left
    ·rintro w' ⟨s0,s1,s2⟩
     go_simp
     with_reducible rfl
    rotate_left
    ·simp only [Act.put,NRM]
     rfl
    refine one_ (i:=5) (N:=some 17) (ba 23 63) rfl rfl (one_of HT_.out (by kernel_rfl)) (by decide) (fun K hK=>?_)
    refine goes_ Tryz.func42 (by kernel_rfl) rfl #[.agg #[.slice A0_0 l0_0.length c0_0,.slice A0_1 l0_1.length c0_1],.int .i64 (rd l1 x5_1)] (by rfl) rfl rfl (by (try simp only [List.map_toArray,List.map_cons,List.map_nil]);first | done | rfl | (simp only [List.length_drop,List.length_take];rfl)) ?_
    with_reducible refine (q8_Gate.calls _ _ l0_0 _ _ l0_1 (rd l1 x5_1) true _ ?side1 ?side2 ?side3 ?side4 A6.out).mono ?_
    (case side1=>exact kC HR0_0.out HB.out)
    (case side2=>exact HC0_0.out)
    (case side3=>exact kC HR0_1.out HB.out)
    (case side4=>exact HC0_1.out)
    rintro e w18 ⟨rfl,hb⟩
    refine ⟨_,rfl,?_⟩
    replace BK272:=(kmv hb BK272)
    replace HB:=am (below_step (HB.out) hb)
    (try clear hb)
    (try clear hb2)
    (try clear hk)
    (try clear hi)
    refine hK.out _ _ ⟨(blk_cell BK272.out 0).trans rfl,(blk_cell BK272.out 1).trans rfl,((HB.out.cell (wbl hw273_0)).trans hw273_0)⟩ (fun hHeld=>?_)
    clear hK K
    refine norm_ (a':=?_) ?_ ?_
    rotate_left
    ·show Act.put _ (some 17) _ = _
     simp only [Act.put,NRM]
     rfl
    refine pure_ (i:=6) (N:=some 18) (v:=?_) (a':=?_) (ba 23 127) rfl rfl (any_of HT_.out (by kernel_rfl)) (fun _ _ _ h=>h) (Or.inl ⟨by rfl,?_⟩) ?_ ?_
    rotate_left
    ·intro w'
     go_simp
     with_reducible rfl
    rotate_left
    ·simp only [Act.put,NRM]
     rfl
    refine pure_ (i:=7) (N:=some 19) (v:=?_) (a':=?_) (ba 23 255) rfl rfl (any_of HT_.out (by kernel_rfl)) (fun _ _ _ h=>h) (Or.inl ⟨by rfl,?_⟩) ?_ ?_
    rotate_left
    ·intro w'
     go_simp
     with_reducible rfl
    rotate_left
    ·simp only [Act.put,NRM]
     rfl
    refine pure_ (i:=8) (N:=some 20) (v:=?_) (a':=?_) (ba 23 511) rfl rfl (any_of HT_.out (by kernel_rfl)) (fun _ _ _ h=>h) (Or.inl ⟨by rfl,?_⟩) ?_ ?_
    rotate_left
    ·intro w'
     go_simp
     with_reducible rfl
    rotate_left
    ·simp only [Act.put,NRM]
     rfl
    refine pure_ (i:=9) (N:=some 21) (v:=?_) (a':=?_) (ba 23 1023) rfl rfl (any_of HT_.out (by kernel_rfl)) (fun _ _ _ h=>h) (Or.inl ⟨by rfl,?_⟩) ?_ ?_
    rotate_left
    ·intro w'
     go_simp
     with_reducible rfl
    rotate_left
    ·simp only [Act.put,NRM]
     rfl
    refine pure_ (i:=10) (N:=some 22) (v:=?_) (a':=?_) (ba 23 2047) rfl rfl (any_of HT_.out (by kernel_rfl)) (fun _ _ _ h=>h) (Or.inl ⟨by rfl,?_⟩) ?_ ?_
    rotate_left
    ·intro w'
     go_simp
     with_reducible rfl
    rotate_left
    ·simp only [Act.put,NRM]
     rfl
    refine pure_ (i:=11) (N:=some 23) (v:=undef) (a':=?_) (ba 23 4095) rfl rfl (any_of HT_.out (by kernel_rfl)) (fun _ _ _ h=>h) (Or.inr ⟨by rfl,rfl⟩) ?_ ?_
    rotate_left
    ·simp only [Act.put,NRM]
     rfl
    refine pure_ (i:=12) (N:=some 24) (v:=undef) (a':=?_) (ba 23 8191) rfl rfl (any_of HT_.out (by kernel_rfl)) (fun _ _ _ h=>h) (Or.inr ⟨by rfl,rfl⟩) ?_ ?_
    rotate_left
    ·simp only [Act.put,NRM]
     rfl
    refine pure_ (i:=13) (N:=some 25) (v:=undef) (a':=?_) (ba 23 16383) rfl rfl (any_of HT_.out (by kernel_rfl)) (fun _ _ _ h=>h) (Or.inr ⟨by rfl,rfl⟩) ?_ ?_
    rotate_left
    ·simp only [Act.put,NRM]
     rfl
    refine pure_ (i:=14) (N:=some 26) (v:=undef) (a':=?_) (ba 23 32767) rfl rfl (any_of HT_.out (by kernel_rfl)) (fun _ _ _ h=>h) (Or.inr ⟨by rfl,rfl⟩) ?_ ?_
    rotate_left
    ·simp only [Act.put,NRM]
     rfl
    refine pure_ (i:=15) (N:=some 27) (v:=undef) (a':=?_) (ba 23 65535) rfl rfl (any_of HT_.out (by kernel_rfl)) (fun _ _ _ h=>h) (Or.inr ⟨by rfl,rfl⟩) ?_ ?_
    rotate_left
    ·simp only [Act.put,NRM]
     rfl
    refine pure_ (i:=16) (N:=some 28) (v:=undef) (a':=?_) (ba 23 131071) rfl rfl (any_of HT_.out (by kernel_rfl)) (fun _ _ _ h=>h) (Or.inr ⟨by rfl,rfl⟩) ?_ ?_
    rotate_left
    ·simp only [Act.put,NRM]
     rfl
    refine pure_ (i:=17) (N:=some 29) (v:=undef) (a':=?_) (ba 23 262143) rfl rfl (any_of HT_.out (by kernel_rfl)) (fun _ _ _ h=>h) (Or.inr ⟨by rfl,rfl⟩) ?_ ?_
    rotate_left
    ·simp only [Act.put,NRM]
     rfl
    refine pure_ (i:=18) (N:=some 30) (v:=undef) (a':=?_) (ba 23 524287) rfl rfl (any_of HT_.out (by kernel_rfl)) (fun _ _ _ h=>h) (Or.inr ⟨by rfl,rfl⟩) ?_ ?_
    rotate_left
    ·simp only [Act.put,NRM]
     rfl
    refine pure_ (i:=19) (N:=some 31) (v:=undef) (a':=?_) (ba 23 1048575) rfl rfl (any_of HT_.out (by kernel_rfl)) (fun _ _ _ h=>h) (Or.inr ⟨by rfl,rfl⟩) ?_ ?_
    rotate_left
    ·simp only [Act.put,NRM]
     rfl
    refine pure_ (i:=20) (N:=some 32) (v:=undef) (a':=?_) (ba 23 2097151) rfl rfl (any_of HT_.out (by kernel_rfl)) (fun _ _ _ h=>h) (Or.inr ⟨by rfl,rfl⟩) ?_ ?_
    rotate_left
    ·simp only [Act.put,NRM]
     rfl
    refine pure_ (i:=21) (N:=some 33) (v:=?_) (a':=?_) (ba 23 4194303) rfl rfl (any_of HT_.out (by kernel_rfl)) (fun _ _ _ h=>h) (Or.inl ⟨by rfl,?_⟩) ?_ ?_
    rotate_left
    ·intro w'
     go_simp
     with_reducible rfl
    rotate_left
    ·simp only [Act.put,NRM]
     rfl
    refine pure_ (i:=22) (N:=some 34) (v:=?_) (a':=?_) (ba 23 8388607) rfl rfl (any_of HT_.out (by kernel_rfl)) (fun _ _ _ h=>h) (Or.inl ⟨by rfl,?_⟩) ?_ ?_
    rotate_left
    ·intro w'
     go_simp
     with_reducible rfl
    rotate_left
    ·simp only [Act.put,NRM]
     rfl
    refine done_ (done_of HT_.out (by kernel_rfl)) ?_
    try go_wp2
    go_roundg k1
    case measure=>have:=HK1.out;omega
    case rel=>exact ⟨(wrap64 (x5_1 + 1)),(by first | rfl | (simp;done) | (simp [*];done)),H',⟨by have:=HK1.out;omega⟩,⟨BK272.out⟩,⟨HB.out⟩⟩
   rw [if_pos c8] at H
   have c8b0 : decide (0 < x5_1) = true:=decide_eq_true c8
   clear c8
   obtain ⟨ji9,hji9⟩ : ∃ j_ : Int,(wrap64 (x5_1 - 1)) = j_:=⟨_,rfl⟩
   replace H : (if 0≤(ji9) then (if (ji9) < (l1.length : Int) then (if (rd l1 x5_1)≤(rd l1 (ji9)) then (some false) else (q8_Some.l0 k1 l1 (wrap64 (x5_1 + 1)) l0_0 l0_1)) else (none)) else (none)) = some r:=by first | (rw [hji9] at H;exact H) | (simp only [hji9] at H ⊢;exact H)
   (try rw [hji9] at A6)
   have hji9w : (IntKind.i64.wrap (x5_1 - 1)) = ji9:=(i64_w _).trans hji9
   by_cases c10 : 0≤(ji9)
   case neg =>
    rw [if_neg c10] at H
    exact absurd H (by simp)
   rw [if_pos c10] at H
   have c10b0 : decide (0≤(ji9)) = true:=decide_eq_true c10
   clear c10
   by_cases c11 : (ji9) < (l1.length : Int)
   case neg =>
    rw [if_neg c11] at H
    exact absurd H (by simp)
   rw [if_pos c11] at H
   have c11b0 : decide ((ji9) < (l1.length : Int)) = true:=decide_eq_true c11
   clear c11
   by_cases c12 : (rd l1 x5_1)≤(rd l1 (ji9))
   ·rw [if_pos c12] at H
    have c12b0 : decide ((rd l1 x5_1)≤(rd l1 (ji9))) = true:=decide_eq_true c12
    clear c12
    obtain rfl:=Option.some.inj H
    try go_wp2
    replace BK272:=am (blk_drew BK272.out)
    replace HB:=am (below_drew1 HB.out)
    have p273 : 0≤(x5_1 : Int):=of_decide_eq_true (by assumption)
    have q273 : x5_1 < (l1.length : Int):=of_decide_eq_true (by assumption)
    obtain ⟨ad273,e273,hx273_0⟩:=Kd.at_int HR1.out x5_1 p273 q273
    have hw273_0:=hx273_0
    cases e273
    replace hx273_0:=(HB.out.cell (wbl hx273_0)).trans hx273_0
    replace p273:=eq_true p273
    replace q273:=eq_true q273
    have p275 : 0≤(x5_1 : Int):=of_decide_eq_true (by assumption)
    have q275 : x5_1 < (l1.length : Int):=of_decide_eq_true (by assumption)
    obtain ⟨ad275,e275,hx275_0⟩:=Kd.at_int HR1.out x5_1 p275 q275
    have hw275_0:=hx275_0
    obtain rfl : ad273 = ad275:=(by injection e275)
    replace hx275_0:=(HB.out.cell (wbl hx275_0)).trans hx275_0
    replace p275:=eq_true p275
    replace q275:=eq_true q275
    have p276 : 0≤((ji9) : Int):=of_decide_eq_true (by assumption)
    have q276 : (ji9) < (l1.length : Int):=of_decide_eq_true (by assumption)
    obtain ⟨ad276,e276,hx276_0⟩:=Kd.at_int HR1.out (ji9) p276 q276
    have hw276_0:=hx276_0
    obtain rfl : ad273 = ad276:=(by injection e276)
    replace hx276_0:=(HB.out.cell (wbl hx276_0)).trans hx276_0
    replace p276:=eq_true p276
    replace q276:=eq_true q276
    refine start_ (n:=23) (S:=fun w'=>w'.cell? ⟨gb272,0,none⟩ = some (.slice A0_0 l0_0.length c0_0)∧w'.cell? ⟨gb272,1,none⟩ = some (.slice A0_1 l0_1.length c0_1)∧w'.cell? (ad273.add (x5_1).toNat) = some (.int .i64 (rd l1 x5_1))∧w'.cell? (ad273.add (x5_1).toNat) = some (.int .i64 (rd l1 x5_1))∧w'.cell? (ad273.add ((ji9)).toNat) = some (.int .i64 (rd l1 (ji9)))) (ds:=[]) (ba 23 0) (by kernel_rfl) rfl rfl ⟨(blk_cell BK272.out 0).trans rfl,(blk_cell BK272.out 1).trans rfl,((HB.out.cell (wbl hw273_0)).trans hw273_0),((HB.out.cell (wbl hw275_0)).trans hw275_0),((HB.out.cell (wbl hw276_0)).trans hw276_0)⟩ (fun hHeld=>?_);refine with_tabW q8_Some.tab4 q8_Some.bits4 (fun HT_ HW_=>?_)
    generalize wr.drew = w13 at BK272 HB hx273_0 hx275_0 hx276_0 hHeld ⊢
    refine pure_ (i:=1) (N:=some 13) (v:=?_) (a':=?_) (ba 23 2) rfl rfl (any_of HT_.out (by kernel_rfl)) (fun _ _ _ h=>h) (Or.inl ⟨by rfl,?_⟩) ?_ ?_
    rotate_left
    ·intro w'
     go_simp
     with_reducible rfl
    rotate_left
    ·simp only [Act.put,NRM]
     rfl
    refine pure_ (i:=2) (N:=some 14) (v:=?_) (a':=?_) (ba 23 6) rfl rfl (any_of HT_.out (by kernel_rfl)) (fun _ _ _ h=>h) (Or.inl ⟨by rfl,?_⟩) ?_ ?_
    rotate_left
    ·intro w'
     go_simp
     with_reducible rfl
    rotate_left
    ·simp only [Act.put,NRM]
     rfl
    refine pure_ (i:=3) (N:=some 15) (v:=?_) (a':=?_) (ba 23 14) rfl rfl (any_of HT_.out (by kernel_rfl)) (fun _ _ _ h=>h) (Or.inl ⟨by rfl,?_⟩) ?_ ?_
    rotate_left
    ·intro w'
     go_simp
     with_reducible rfl
    rotate_left
    ·simp only [Act.put,NRM]
     rfl
    refine take_ (i:=0) (N:=some 12) (v:=?_) (a':=?_) (ba 23 15) rfl rfl (take_ofW HT_.out HW_.out (by kernel_rfl)) (fun _ _ _ h=>h) (Or.inl ⟨by rfl,?_⟩) hHeld ?_ ?_
    rotate_left
    ·rintro w' ⟨s0,s1,s2,s3,s4⟩
     go_simp
     with_reducible rfl
    rotate_left
    ·simp only [Act.put,NRM]
     rfl
    refine take_ (i:=4) (N:=some 16) (v:=?_) (a':=?_) (ba 23 31) rfl rfl (take_ofW HT_.out HW_.out (by kernel_rfl)) (fun _ _ _ h=>h) (Or.inl ⟨by rfl,?_⟩) hHeld ?_ ?_
    rotate_left
    ·rintro w' ⟨s0,s1,s2,s3,s4⟩
     go_simp
     with_reducible rfl
    rotate_left
    ·simp only [Act.put,NRM]
     rfl
    refine one_ (i:=5) (N:=some 17) (ba 23 63) rfl rfl (one_of HT_.out (by kernel_rfl)) (by decide) (fun K hK=>?_)
    refine goes_ Tryz.func42 (by kernel_rfl) rfl #[.agg #[.slice A0_0 l0_0.length c0_0,.slice A0_1 l0_1.length c0_1],.int .i64 (rd l1 x5_1)] (by rfl) rfl rfl (by (try simp only [List.map_toArray,List.map_cons,List.map_nil]);first | done | rfl | (simp only [List.length_drop,List.length_take];rfl)) ?_
    with_reducible refine (q8_Gate.calls _ _ l0_0 _ _ l0_1 (rd l1 x5_1) true _ ?side1 ?side2 ?side3 ?side4 A6.out).mono ?_
    (case side1=>exact kC HR0_0.out HB.out)
    (case side2=>exact HC0_0.out)
    (case side3=>exact kC HR0_1.out HB.out)
    (case side4=>exact HC0_1.out)
    rintro e w14 ⟨rfl,hb⟩
    refine ⟨_,rfl,?_⟩
    replace BK272:=(kmv hb BK272)
    replace HB:=am (below_step (HB.out) hb)
    (try clear hb)
    (try clear hb2)
    (try clear hk)
    (try clear hi)
    refine hK.out _ _ ⟨(blk_cell BK272.out 0).trans rfl,(blk_cell BK272.out 1).trans rfl,((HB.out.cell (wbl hw273_0)).trans hw273_0),((HB.out.cell (wbl hw275_0)).trans hw275_0),((HB.out.cell (wbl hw276_0)).trans hw276_0)⟩ (fun hHeld=>?_)
    clear hK K
    refine norm_ (a':=?_) ?_ ?_
    rotate_left
    ·show Act.put _ (some 17) _ = _
     simp only [Act.put,NRM]
     rfl
    refine pure_ (i:=6) (N:=some 18) (v:=?_) (a':=?_) (ba 23 127) rfl rfl (any_of HT_.out (by kernel_rfl)) (fun _ _ _ h=>h) (Or.inl ⟨by rfl,?_⟩) ?_ ?_
    rotate_left
    ·intro w'
     go_simp
     with_reducible rfl
    rotate_left
    ·simp only [Act.put,NRM]
     rfl
    refine pure_ (i:=7) (N:=some 19) (v:=?_) (a':=?_) (ba 23 255) rfl rfl (any_of HT_.out (by kernel_rfl)) (fun _ _ _ h=>h) (Or.inl ⟨by rfl,?_⟩) ?_ ?_
    rotate_left
    ·intro w'
     go_simp
     with_reducible rfl
    rotate_left
    ·simp only [Act.put,NRM]
     rfl
    refine pure_ (i:=8) (N:=some 20) (v:=?_) (a':=?_) (ba 23 511) rfl rfl (any_of HT_.out (by kernel_rfl)) (fun _ _ _ h=>h) (Or.inl ⟨by rfl,?_⟩) ?_ ?_
    rotate_left
    ·intro w'
     go_simp
     with_reducible rfl
    rotate_left
    ·simp only [Act.put,NRM]
     rfl
    refine pure_ (i:=9) (N:=some 21) (v:=?_) (a':=?_) (ba 23 1023) rfl rfl (any_of HT_.out (by kernel_rfl)) (fun _ _ _ h=>h) (Or.inl ⟨by rfl,?_⟩) ?_ ?_
    rotate_left
    ·intro w'
     go_simp
     with_reducible rfl
    rotate_left
    ·simp only [Act.put,NRM]
     rfl
    refine pure_ (i:=10) (N:=some 22) (v:=?_) (a':=?_) (ba 23 2047) rfl rfl (any_of HT_.out (by kernel_rfl)) (fun _ _ _ h=>h) (Or.inl ⟨by rfl,?_⟩) ?_ ?_
    rotate_left
    ·intro w'
     go_simp
     with_reducible rfl
    rotate_left
    ·simp only [Act.put,NRM]
     rfl
    refine pure_ (i:=11) (N:=some 23) (v:=?_) (a':=?_) (ba 23 4095) rfl rfl (any_of HT_.out (by kernel_rfl)) (fun _ _ _ h=>h) (Or.inl ⟨by rfl,?_⟩) ?_ ?_
    rotate_left
    ·intro w'
     go_simp
     with_reducible rfl
    rotate_left
    ·simp only [Act.put,NRM]
     rfl
    refine pure_ (i:=12) (N:=some 24) (v:=?_) (a':=?_) (ba 23 8191) rfl rfl (any_of HT_.out (by kernel_rfl)) (fun _ _ _ h=>h) (Or.inl ⟨by rfl,?_⟩) ?_ ?_
    rotate_left
    ·intro w'
     go_simp
     with_reducible rfl
    rotate_left
    ·simp only [Act.put,NRM]
     rfl
    refine pure_ (i:=13) (N:=some 25) (v:=?_) (a':=?_) (ba 23 16383) rfl rfl (any_of HT_.out (by kernel_rfl)) (fun _ _ _ h=>h) (Or.inl ⟨by rfl,?_⟩) ?_ ?_
    rotate_left
    ·intro w'
     go_simp
     with_reducible rfl
    rotate_left
    ·simp only [Act.put,NRM]
     rfl
    refine pure_ (i:=15) (N:=some 27) (v:=?_) (a':=?_) (ba 23 49151) rfl rfl (any_of HT_.out (by kernel_rfl)) (fun _ _ _ h=>h) (Or.inl ⟨by rfl,?_⟩) ?_ ?_
    rotate_left
    ·intro w'
     go_simp
     with_reducible rfl
    rotate_left
    ·simp only [Act.put,NRM]
     rfl
    refine pure_ (i:=16) (N:=some 28) (v:=?_) (a':=?_) (ba 23 114687) rfl rfl (any_of HT_.out (by kernel_rfl)) (fun _ _ _ h=>h) (Or.inl ⟨by rfl,?_⟩) ?_ ?_
    rotate_left
    ·intro w'
     go_simp
     with_reducible rfl
    rotate_left
    ·simp only [Act.put,NRM]
     rfl
    refine pure_ (i:=17) (N:=some 29) (v:=?_) (a':=?_) (ba 23 245759) rfl rfl (any_of HT_.out (by kernel_rfl)) (fun _ _ _ h=>h) (Or.inl ⟨by rfl,?_⟩) ?_ ?_
    rotate_left
    ·intro w'
     go_simp
     with_reducible rfl
    rotate_left
    ·simp only [Act.put,NRM]
     rfl
    refine pure_ (i:=18) (N:=some 30) (v:=?_) (a':=?_) (ba 23 507903) rfl rfl (any_of HT_.out (by kernel_rfl)) (fun _ _ _ h=>h) (Or.inl ⟨by rfl,?_⟩) ?_ ?_
    rotate_left
    ·intro w'
     go_simp
     with_reducible rfl
    rotate_left
    ·simp only [Act.put,NRM]
     rfl
    refine take_ (i:=14) (N:=some 26) (v:=?_) (a':=?_) (ba 23 524287) rfl rfl (take_ofW HT_.out HW_.out (by kernel_rfl)) (fun _ _ _ h=>h) (Or.inl ⟨by rfl,?_⟩) hHeld ?_ ?_
    rotate_left
    ·rintro w' ⟨s0,s1,s2,s3,s4⟩
     go_simp
     with_reducible rfl
    rotate_left
    ·simp only [Act.put,NRM]
     rfl
    refine take_ (i:=19) (N:=some 31) (v:=?_) (a':=?_) (ba 23 1048575) rfl rfl (take_ofW HT_.out HW_.out (by kernel_rfl)) (fun _ _ _ h=>h) (Or.inl ⟨by rfl,?_⟩) hHeld ?_ ?_
    rotate_left
    ·rintro w' ⟨s0,s1,s2,s3,s4⟩
     go_simp
     with_reducible rfl
    rotate_left
    ·simp only [Act.put,NRM]
     rfl
    refine pure_ (i:=20) (N:=some 32) (v:=?_) (a':=?_) (ba 23 2097151) rfl rfl (any_of HT_.out (by kernel_rfl)) (fun _ _ _ h=>h) (Or.inl ⟨by rfl,?_⟩) ?_ ?_
    rotate_left
    ·intro w'
     go_simp
     with_reducible rfl
    rotate_left
    ·simp only [Act.put,NRM]
     rfl
    refine pure_ (i:=21) (N:=some 33) (v:=?_) (a':=?_) (ba 23 4194303) rfl rfl (any_of HT_.out (by kernel_rfl)) (fun _ _ _ h=>h) (Or.inl ⟨by rfl,?_⟩) ?_ ?_
    rotate_left
    ·intro w'
     go_simp
     with_reducible rfl
    rotate_left
    ·simp only [Act.put,NRM]
     rfl
    refine pure_ (i:=22) (N:=some 34) (v:=?_) (a':=?_) (ba 23 8388607) rfl rfl (any_of HT_.out (by kernel_rfl)) (fun _ _ _ h=>h) (Or.inl ⟨by rfl,?_⟩) ?_ ?_
    rotate_left
    ·intro w'
     go_simp
     with_reducible rfl
    rotate_left
    ·simp only [Act.put,NRM]
     rfl
    refine done_ (done_of HT_.out (by kernel_rfl)) ?_
    try go_wp2
    go_ret
    exact ⟨by first | rfl | (simp [errW_none,errW_some]<;>rfl) | (simp only [← hji9];first | rfl | (simp [errW_none,errW_some]<;>rfl)) | (simp [*,errW_none,errW_some]<;>rfl),HB.out⟩
   ·rw [if_neg c12] at H
    have c12b0 : decide ((rd l1 x5_1)≤(rd l1 (ji9))) = false:=decide_eq_false c12
    clear c12
    replace H':=am H
    try go_wp2
    replace BK272:=am (blk_drew BK272.out)
    replace HB:=am (below_drew1 HB.out)
    have p273 : 0≤(x5_1 : Int):=of_decide_eq_true (by assumption)
    have q273 : x5_1 < (l1.length : Int):=of_decide_eq_true (by assumption)
    obtain ⟨ad273,e273,hx273_0⟩:=Kd.at_int HR1.out x5_1 p273 q273
    have hw273_0:=hx273_0
    cases e273
    replace hx273_0:=(HB.out.cell (wbl hx273_0)).trans hx273_0
    replace p273:=eq_true p273
    replace q273:=eq_true q273
    have p275 : 0≤(x5_1 : Int):=of_decide_eq_true (by assumption)
    have q275 : x5_1 < (l1.length : Int):=of_decide_eq_true (by assumption)
    obtain ⟨ad275,e275,hx275_0⟩:=Kd.at_int HR1.out x5_1 p275 q275
    have hw275_0:=hx275_0
    obtain rfl : ad273 = ad275:=(by injection e275)
    replace hx275_0:=(HB.out.cell (wbl hx275_0)).trans hx275_0
    replace p275:=eq_true p275
    replace q275:=eq_true q275
    have p276 : 0≤((ji9) : Int):=of_decide_eq_true (by assumption)
    have q276 : (ji9) < (l1.length : Int):=of_decide_eq_true (by assumption)
    obtain ⟨ad276,e276,hx276_0⟩:=Kd.at_int HR1.out (ji9) p276 q276
    have hw276_0:=hx276_0
    obtain rfl : ad273 = ad276:=(by injection e276)
    replace hx276_0:=(HB.out.cell (wbl hx276_0)).trans hx276_0
    replace p276:=eq_true p276
    replace q276:=eq_true q276
    refine start_ (n:=23) (S:=fun w'=>w'.cell? ⟨gb272,0,none⟩ = some (.slice A0_0 l0_0.length c0_0)∧w'.cell? ⟨gb272,1,none⟩ = some (.slice A0_1 l0_1.length c0_1)∧w'.cell? (ad273.add (x5_1).toNat) = some (.int .i64 (rd l1 x5_1))∧w'.cell? (ad273.add (x5_1).toNat) = some (.int .i64 (rd l1 x5_1))∧w'.cell? (ad273.add ((ji9)).toNat) = some (.int .i64 (rd l1 (ji9)))) (ds:=[]) (ba 23 0) (by kernel_rfl) rfl rfl ⟨(blk_cell BK272.out 0).trans rfl,(blk_cell BK272.out 1).trans rfl,((HB.out.cell (wbl hw273_0)).trans hw273_0),((HB.out.cell (wbl hw275_0)).trans hw275_0),((HB.out.cell (wbl hw276_0)).trans hw276_0)⟩ (fun hHeld=>?_);refine with_tabW q8_Some.tab4 q8_Some.bits4 (fun HT_ HW_=>?_)
    generalize wr.drew = w15 at BK272 HB hx273_0 hx275_0 hx276_0 hHeld ⊢
    refine pure_ (i:=1) (N:=some 13) (v:=?_) (a':=?_) (ba 23 2) rfl rfl (any_of HT_.out (by kernel_rfl)) (fun _ _ _ h=>h) (Or.inl ⟨by rfl,?_⟩) ?_ ?_
    rotate_left
    ·intro w'
     go_simp
     with_reducible rfl
    rotate_left
    ·simp only [Act.put,NRM]
     rfl
    refine pure_ (i:=2) (N:=some 14) (v:=?_) (a':=?_) (ba 23 6) rfl rfl (any_of HT_.out (by kernel_rfl)) (fun _ _ _ h=>h) (Or.inl ⟨by rfl,?_⟩) ?_ ?_
    rotate_left
    ·intro w'
     go_simp
     with_reducible rfl
    rotate_left
    ·simp only [Act.put,NRM]
     rfl
    refine pure_ (i:=3) (N:=some 15) (v:=?_) (a':=?_) (ba 23 14) rfl rfl (any_of HT_.out (by kernel_rfl)) (fun _ _ _ h=>h) (Or.inl ⟨by rfl,?_⟩) ?_ ?_
    rotate_left
    ·intro w'
     go_simp
     with_reducible rfl
    rotate_left
    ·simp only [Act.put,NRM]
     rfl
    refine take_ (i:=0) (N:=some 12) (v:=?_) (a':=?_) (ba 23 15) rfl rfl (take_ofW HT_.out HW_.out (by kernel_rfl)) (fun _ _ _ h=>h) (Or.inl ⟨by rfl,?_⟩) hHeld ?_ ?_
    rotate_left
    ·rintro w' ⟨s0,s1,s2,s3,s4⟩
     go_simp
     with_reducible rfl
    rotate_left
    ·simp only [Act.put,NRM]
     rfl
    refine take_ (i:=4) (N:=some 16) (v:=?_) (a':=?_) (ba 23 31) rfl rfl (take_ofW HT_.out HW_.out (by kernel_rfl)) (fun _ _ _ h=>h) (Or.inl ⟨by rfl,?_⟩) hHeld ?_ ?_
    rotate_left
    ·rintro w' ⟨s0,s1,s2,s3,s4⟩
     go_simp
     with_reducible rfl
    rotate_left
    ·simp only [Act.put,NRM]
     rfl
    refine one_ (i:=5) (N:=some 17) (ba 23 63) rfl rfl (one_of HT_.out (by kernel_rfl)) (by decide) (fun K hK=>?_)
    refine goes_ Tryz.func42 (by kernel_rfl) rfl #[.agg #[.slice A0_0 l0_0.length c0_0,.slice A0_1 l0_1.length c0_1],.int .i64 (rd l1 x5_1)] (by rfl) rfl rfl (by (try simp only [List.map_toArray,List.map_cons,List.map_nil]);first | done | rfl | (simp only [List.length_drop,List.length_take];rfl)) ?_
    with_reducible refine (q8_Gate.calls _ _ l0_0 _ _ l0_1 (rd l1 x5_1) true _ ?side1 ?side2 ?side3 ?side4 A6.out).mono ?_
    (case side1=>exact kC HR0_0.out HB.out)
    (case side2=>exact HC0_0.out)
    (case side3=>exact kC HR0_1.out HB.out)
    (case side4=>exact HC0_1.out)
    rintro e w16 ⟨rfl,hb⟩
    refine ⟨_,rfl,?_⟩
    replace BK272:=(kmv hb BK272)
    replace HB:=am (below_step (HB.out) hb)
    (try clear hb)
    (try clear hb2)
    (try clear hk)
    (try clear hi)
    refine hK.out _ _ ⟨(blk_cell BK272.out 0).trans rfl,(blk_cell BK272.out 1).trans rfl,((HB.out.cell (wbl hw273_0)).trans hw273_0),((HB.out.cell (wbl hw275_0)).trans hw275_0),((HB.out.cell (wbl hw276_0)).trans hw276_0)⟩ (fun hHeld=>?_)
    clear hK K
    refine norm_ (a':=?_) ?_ ?_
    rotate_left
    ·show Act.put _ (some 17) _ = _
     simp only [Act.put,NRM]
     rfl
    refine pure_ (i:=6) (N:=some 18) (v:=?_) (a':=?_) (ba 23 127) rfl rfl (any_of HT_.out (by kernel_rfl)) (fun _ _ _ h=>h) (Or.inl ⟨by rfl,?_⟩) ?_ ?_
    rotate_left
    ·intro w'
     go_simp
     with_reducible rfl
    rotate_left
    ·simp only [Act.put,NRM]
     rfl
    refine pure_ (i:=7) (N:=some 19) (v:=?_) (a':=?_) (ba 23 255) rfl rfl (any_of HT_.out (by kernel_rfl)) (fun _ _ _ h=>h) (Or.inl ⟨by rfl,?_⟩) ?_ ?_
    rotate_left
    ·intro w'
     go_simp
     with_reducible rfl
    rotate_left
    ·simp only [Act.put,NRM]
     rfl
    refine pure_ (i:=8) (N:=some 20) (v:=?_) (a':=?_) (ba 23 511) rfl rfl (any_of HT_.out (by kernel_rfl)) (fun _ _ _ h=>h) (Or.inl ⟨by rfl,?_⟩) ?_ ?_
    rotate_left
    ·intro w'
     go_simp
     with_reducible rfl
    rotate_left
    ·simp only [Act.put,NRM]
     rfl
    refine pure_ (i:=9) (N:=some 21) (v:=?_) (a':=?_) (ba 23 1023) rfl rfl (any_of HT_.out (by kernel_rfl)) (fun _ _ _ h=>h) (Or.inl ⟨by rfl,?_⟩) ?_ ?_
    rotate_left
    ·intro w'
     go_simp
     with_reducible rfl
    rotate_left
    ·simp only [Act.put,NRM]
     rfl
    refine pure_ (i:=10) (N:=some 22) (v:=?_) (a':=?_) (ba 23 2047) rfl rfl (any_of HT_.out (by kernel_rfl)) (fun _ _ _ h=>h) (Or.inl ⟨by rfl,?_⟩) ?_ ?_
    rotate_left
    ·intro w'
     go_simp
     with_reducible rfl
    rotate_left
    ·simp only [Act.put,NRM]
     rfl
    refine pure_ (i:=11) (N:=some 23) (v:=?_) (a':=?_) (ba 23 4095) rfl rfl (any_of HT_.out (by kernel_rfl)) (fun _ _ _ h=>h) (Or.inl ⟨by rfl,?_⟩) ?_ ?_
    rotate_left
    ·intro w'
     go_simp
     with_reducible rfl
    rotate_left
    ·simp only [Act.put,NRM]
     rfl
    refine pure_ (i:=12) (N:=some 24) (v:=?_) (a':=?_) (ba 23 8191) rfl rfl (any_of HT_.out (by kernel_rfl)) (fun _ _ _ h=>h) (Or.inl ⟨by rfl,?_⟩) ?_ ?_
    rotate_left
    ·intro w'
     go_simp
     with_reducible rfl
    rotate_left
    ·simp only [Act.put,NRM]
     rfl
    refine pure_ (i:=13) (N:=some 25) (v:=?_) (a':=?_) (ba 23 16383) rfl rfl (any_of HT_.out (by kernel_rfl)) (fun _ _ _ h=>h) (Or.inl ⟨by rfl,?_⟩) ?_ ?_
    rotate_left
    ·intro w'
     go_simp
     with_reducible rfl
    rotate_left
    ·simp only [Act.put,NRM]
     rfl
    refine pure_ (i:=15) (N:=some 27) (v:=?_) (a':=?_) (ba 23 49151) rfl rfl (any_of HT_.out (by kernel_rfl)) (fun _ _ _ h=>h) (Or.inl ⟨by rfl,?_⟩) ?_ ?_
    rotate_left
    ·intro w'
     go_simp
     with_reducible rfl
    rotate_left
    ·simp only [Act.put,NRM]
     rfl
    refine pure_ (i:=16) (N:=some 28) (v:=?_) (a':=?_) (ba 23 114687) rfl rfl (any_of HT_.out (by kernel_rfl)) (fun _ _ _ h=>h) (Or.inl ⟨by rfl,?_⟩) ?_ ?_
    rotate_left
    ·intro w'
     go_simp
     with_reducible rfl
    rotate_left
    ·simp only [Act.put,NRM]
     rfl
    refine pure_ (i:=17) (N:=some 29) (v:=?_) (a':=?_) (ba 23 245759) rfl rfl (any_of HT_.out (by kernel_rfl)) (fun _ _ _ h=>h) (Or.inl ⟨by rfl,?_⟩) ?_ ?_
    rotate_left
    ·intro w'
     go_simp
     with_reducible rfl
    rotate_left
    ·simp only [Act.put,NRM]
     rfl
    refine pure_ (i:=18) (N:=some 30) (v:=?_) (a':=?_) (ba 23 507903) rfl rfl (any_of HT_.out (by kernel_rfl)) (fun _ _ _ h=>h) (Or.inl ⟨by rfl,?_⟩) ?_ ?_
    rotate_left
    ·intro w'
     go_simp
     with_reducible rfl
    rotate_left
    ·simp only [Act.put,NRM]
     rfl
    refine take_ (i:=14) (N:=some 26) (v:=?_) (a':=?_) (ba 23 524287) rfl rfl (take_ofW HT_.out HW_.out (by kernel_rfl)) (fun _ _ _ h=>h) (Or.inl ⟨by rfl,?_⟩) hHeld ?_ ?_
    rotate_left
    ·rintro w' ⟨s0,s1,s2,s3,s4⟩
     go_simp
     with_reducible rfl
    rotate_left
    ·simp only [Act.put,NRM]
     rfl
    refine take_ (i:=19) (N:=some 31) (v:=?_) (a':=?_) (ba 23 1048575) rfl rfl (take_ofW HT_.out HW_.out (by kernel_rfl)) (fun _ _ _ h=>h) (Or.inl ⟨by rfl,?_⟩) hHeld ?_ ?_
    rotate_left
    ·rintro w' ⟨s0,s1,s2,s3,s4⟩
     go_simp
     with_reducible rfl
    rotate_left
    ·simp only [Act.put,NRM]
     rfl
    refine pure_ (i:=20) (N:=some 32) (v:=?_) (a':=?_) (ba 23 2097151) rfl rfl (any_of HT_.out (by kernel_rfl)) (fun _ _ _ h=>h) (Or.inl ⟨by rfl,?_⟩) ?_ ?_
    rotate_left
    ·intro w'
     go_simp
     with_reducible rfl
    rotate_left
    ·simp only [Act.put,NRM]
     rfl
    refine pure_ (i:=21) (N:=some 33) (v:=?_) (a':=?_) (ba 23 4194303) rfl rfl (any_of HT_.out (by kernel_rfl)) (fun _ _ _ h=>h) (Or.inl ⟨by rfl,?_⟩) ?_ ?_
    rotate_left
    ·intro w'
     go_simp
     with_reducible rfl
    rotate_left
    ·simp only [Act.put,NRM]
     rfl
    refine pure_ (i:=22) (N:=some 34) (v:=?_) (a':=?_) (ba 23 8388607) rfl rfl (any_of HT_.out (by kernel_rfl)) (fun _ _ _ h=>h) (Or.inl ⟨by rfl,?_⟩) ?_ ?_
    rotate_left
    ·intro w'
     go_simp
     with_reducible rfl
    rotate_left
    ·simp only [Act.put,NRM]
     rfl
    refine done_ (done_of HT_.out (by kernel_rfl)) ?_
    try go_wp2
    go_roundg k1
    case measure=>have:=HK1.out;omega
    case rel=>exact ⟨(wrap64 (x5_1 + 1)),(by first | rfl | (simp;done) | (simp [*];done)),H',⟨by have:=HK1.out;omega⟩,⟨BK272.out⟩,⟨HB.out⟩⟩
set_option linter.unusedSimpArgs false
set_option linter.unusedSimpArgs false
def l8_short.f (l0_0 : List (S37)) (l0_1 : List (S65)) : Option (Bool):=if (l0_0.length : Int)≤9 then (some (decide ((l0_1.length : Int)≤13))) else (some false)
theorem l8_short.calls (A0_0 : Option Addr) (c0_0 : Nat) (l0_0 : List (S37)) (A0_1 : Option Addr) (c0_1 : Nat) (l0_1 : List (S65)) (r : Bool) (w : World) (hr0_0 : Kd.C k37 w A0_0 l0_0.length l0_0) (hc0_0 : l0_0.length≤c0_0) (hr0_1 : Kd.C k65 w A0_1 l0_1.length l0_1) (hc0_1 : l0_1.length≤c0_1) (h : l8_short.f l0_0 l0_1 = some r) :
 Calls Tryz.prog 14 #[.agg #[.slice A0_0 l0_0.length c0_0,.slice A0_1 l0_1.length c0_1]] w fun e w'=>e = .returned (.bool r)∧Below w.heap.size w w':=by
 have hu25:=Tryz.underlying25
 have HR0_0:=am hr0_0
 have HC0_0:=am hc0_0
 clear hr0_0 hc0_0
 have HR0_1:=am hr0_1
 have HC0_1:=am hc0_1
 clear hr0_1 hc0_1
 have HB:=am (Below.refl w.heap.size w)
 have H : (if (l0_0.length : Int)≤9 then (some (decide ((l0_1.length : Int)≤13))) else (some false)) = some r:=h
 clear h
 by_cases c2 : (l0_0.length : Int)≤9
 ·rw [if_pos c2] at H
  have c2b0 : decide ((l0_0.length : Int)≤9) = true:=decide_eq_true c2
  have c2b1 : decide (l0_0.length≤9) = true:=decide_eq_true (by omega)
  clear c2
  obtain rfl:=Option.some.inj H
  go_enter Tryz.func14,Tryz.ntmps14
  go_wp2_with (first | ((refine ga_dst (N:=1) rfl ?_);(try (refine ga_guard (by rfl) ?_;dsimp only));refine box_event rfl (N:=1) rfl (cs:=#[.slice A0_0 l0_0.length c0_0,.slice A0_1 l0_1.length c0_1]) (t:=25) ?hr ?_;(case hr=>go_simp;try rfl);intro gb101 hg w3 hbox hb;have BK101:=am (hbox);have GW101:=am (ge_new (HB.out) hg);have GE101:=am (ge_new (HB.out) hg);replace HB:=am (below_step (HB.out) hb);clear hb hbox hg;obtain ⟨hcz4_0,hcz4_1⟩:=cO2 BK101.out))
  go_ret
  exact ⟨by first | rfl | (simp [*]<;>rfl),HB.out⟩
 ·rw [if_neg c2] at H
  have c2b0 : decide ((l0_0.length : Int)≤9) = false:=decide_eq_false c2
  have c2b1 : decide (l0_0.length≤9) = false:=decide_eq_false (by omega)
  clear c2
  obtain rfl:=Option.some.inj H
  go_enter Tryz.func14,Tryz.ntmps14
  go_wp2_with (first | ((refine ga_dst (N:=1) rfl ?_);(try (refine ga_guard (by rfl) ?_;dsimp only));refine box_event rfl (N:=1) rfl (cs:=#[.slice A0_0 l0_0.length c0_0,.slice A0_1 l0_1.length c0_1]) (t:=25) ?hr ?_;(case hr=>go_simp;try rfl);intro gb101 hg w5 hbox hb;have BK101:=am (hbox);have GW101:=am (ge_new (HB.out) hg);have GE101:=am (ge_new (HB.out) hg);replace HB:=am (below_step (HB.out) hb);clear hb hbox hg;obtain ⟨hcz6_0,hcz6_1⟩:=cO2 BK101.out))
  go_ret
  exact ⟨by first | rfl | (simp [*]<;>rfl),HB.out⟩
abbrev Pt:=S37
abbrev Ch:=S65
theorem wr {x : Int} (h0 : -1000000000000≤x) (h1 : x≤1000000000000) : wrap64 x = x:=by unfold wrap64;omega
def allFrom (P : Nat→Bool) : Nat→Nat→Bool
 | 0,_=>true
 | d + 1,i=>P i && allFrom P d (i + 1)
theorem allFrom_iff {P : Nat→Bool} : ∀ {d i : Nat},allFrom P d i = true↔∀ j,i≤j→j < i + d→P j = true
 | 0,i=>by simp only [allFrom,true_iff];intro j h1 h2;omega
 | d + 1,i=>by
  simp only [allFrom,Bool.and_eq_true,allFrom_iff]
  constructor
  ·rintro ⟨h1,h2⟩ j h3 h4
   by_cases e : j = i
   ·subst e;exact h1
   ·exact h2 j (by omega) (by omega)
  ·exact fun h=>⟨h i (Nat.le_refl _) (by omega),fun j h1 h2=>h j (by omega) (by omega)⟩
def cupS (n : Int) : Bool:=decide (0≤n∧n≤10000)
def ptS (p : Pt) : Bool:=cupS p.f0.f0 && (cupS p.f0.f1 && (decide (p.f0.f0≤p.f0.f1) && cupS p.f1))
def isPtS (n : Nat) (p : Int) : Bool:=decide (0≤p∧p < (n : Int))
def chS (n : Nat) (c : Ch) : Bool:=isPtS n c.f0 && (isPtS n c.f1 && (decide (c.f0 ≠ c.f1) && cupS c.f2))
def gatesFrom : Int→List Ch→List Int
 | _,[]=>[]
 | i,c :: cs=>if c.f3 = true then i :: gatesFrom (i + 1) cs else gatesFrom (i + 1) cs
def gatesL (ch : List Ch) : List Int:=gatesFrom 0 ch
def netS (pts : List Pt) (ch : List Ch) : Bool:=decide (1≤pts.length∧pts.length≤7) && (decide (ch.length≤10) && (pts.all ptS && (ch.all (chS pts.length) && decide ((gatesL ch).length≤7))))
def gateAt (ch : List Ch) (c : Int) : Bool:=decide (0≤c∧c < (ch.length : Int)) && (rd_T65 ch c).f3
def someS (ch : List Ch) (l : List Int) : Bool:=allFrom (fun j=>gateAt ch (l.getD j 0) && (decide (j = 0) || decide (l.getD (j - 1) 0 < l.getD j 0))) l.length 0
def shortB (pts : List Pt) (ch : List Ch) : Bool:=decide (pts.length≤9∧ch.length≤13)
section
variable {pts : List Pt} {ch : List Ch}
theorem short_eq : l8_short.f pts ch = some (shortB pts ch):=by
 unfold l8_short.f shortB
 by_cases h : (pts.length : Int)≤9
 ·rw [if_pos h];congr 1;rw [decide_eq_decide];omega
 ·rw [if_neg h];congr 1;symm;rw [decide_eq_false_iff_not];omega
theorem in_eq (a b c : Int) : ga_in.f a b c = some (decide (b≤a∧a≤c)):=by
 unfold ga_in.f
 split
 ·congr 1;rw [decide_eq_decide];omega
 ·congr 1;symm;rw [decide_eq_false_iff_not];omega
theorem rin_eq (a b c : Int) : q8_in.f a b c = some (decide (b≤a∧a≤c)):=by
 unfold q8_in.f
 split
 ·congr 1;rw [decide_eq_decide];omega
 ·congr 1;symm;rw [decide_eq_false_iff_not];omega
theorem isCups_eq (n : Int) : ga_isCups.f n = some (cupS n):=by unfold ga_isCups.f;rw [in_eq];rfl
theorem rcups_eq (n : Int) : q8_cups.f n = some (cupS n):=by unfold q8_cups.f;rw [rin_eq];rfl
theorem isPoint_eq (hp : pts.length≤1000) (p : Int) : ga_isPoint.f pts ch p = some (isPtS pts.length p):=by
 unfold ga_isPoint.f
 rw [in_eq,wr (by omega) (by omega)]
 simp only [Option.bind_some,isPtS]
 congr 1;rw [decide_eq_decide];omega
theorem rPoint_eq (hp : pts.length≤1000) (p : Int) : q8_Point.f pts ch p = some (isPtS pts.length p):=by
 unfold q8_Point.f
 rw [rin_eq,wr (by omega) (by omega)]
 simp only [Option.bind_some,isPtS]
 congr 1;rw [decide_eq_decide];omega
theorem isGate_eq (hc : ch.length≤1000) (c : Int) : ga_isGate.f pts ch c = some (gateAt ch c):=by
 unfold ga_isGate.f gateAt
 rw [in_eq,wr (by omega) (by omega)]
 simp only [Option.bind_some,decide_eq_true_eq]
 by_cases h : 0≤c∧c≤(ch.length : Int) - 1
 ·rw [if_pos h,if_pos h.1,if_pos (by omega),decide_eq_true (show 0≤c∧c < (ch.length : Int) by omega)];rfl
 ·rw [if_neg h,decide_eq_false (show ¬ (0≤c∧c < (ch.length : Int)) by omega)];rfl
theorem rGate_eq (hc : ch.length≤1000) (c : Int) : q8_Gate.f pts ch c = some (gateAt ch c):=by
 unfold q8_Gate.f gateAt
 rw [rin_eq,wr (by omega) (by omega)]
 simp only [Option.bind_some,decide_eq_true_eq]
 by_cases h : 0≤c∧c≤(ch.length : Int) - 1
 ·rw [if_pos h,if_pos h.1,if_pos (by omega),decide_eq_true (show 0≤c∧c < (ch.length : Int) by omega)];rfl
 ·rw [if_neg h,decide_eq_false (show ¬ (0≤c∧c < (ch.length : Int)) by omega)];rfl
theorem rd_nat (l : List Int) (i : Nat) : rd l (i : Int) = l.getD i 0:=rfl
theorem areGates_go (hc : ch.length≤1000) (l : List Int) (hl : l.length≤1000) : ∀ (d k i : Nat),i + d = l.length→d < k→
 ga_areGates.l0 k l l (l.length : Int) (i : Int) pts ch = some (allFrom (fun j=>gateAt ch (l.getD j 0) && (decide (j = 0) || decide (l.getD (j - 1) 0 < l.getD j 0))) d i)
 | _,0,_,_,hk=>by omega
 | 0,k + 1,i,hi,_=>by
  unfold ga_areGates.l0
  rw [if_neg (by omega)];rfl
 | d + 1,k + 1,i,hi,hk=>by
  have ih:=areGates_go hc l hl d k (i + 1) (by omega) (by omega)
  unfold ga_areGates.l0
  rw [if_pos (by omega),if_pos (by omega),if_pos (by omega),isGate_eq hc,rd_nat]
  simp only [Option.bind_some,allFrom]
  cases hg : gateAt ch (l.getD i 0) with
  | false=>rw [if_neg (by decide)];rfl
  | true =>
   rw [if_pos rfl]
   rw [show wrap64 ((i : Int) + 1) = ((i + 1 : Nat) : Int) by rw [wr (by omega) (by omega)];rfl,ih]
   by_cases h0 : i = 0
   ·subst h0
    rw [if_neg (by omega)];simp
   ·rw [if_pos (by omega),wr (by omega) (by omega),if_pos (by omega),if_pos (by omega),show (i : Int) - 1 = ((i - 1 : Nat) : Int) by omega,rd_nat]
    by_cases hle : l.getD i 0≤l.getD (i - 1) 0
    ·rw [if_pos hle,decide_eq_false h0,decide_eq_false (show ¬ l.getD (i - 1) 0 < l.getD i 0 by omega)];rfl
    ·rw [if_neg hle,decide_eq_true (show l.getD (i - 1) 0 < l.getD i 0 by omega)];simp
theorem areGates_eq (hc : ch.length≤1000) {l : List Int} (hl : l.length≤1000) {k : Nat} (hk : l.length < k) : ga_areGates.f k pts ch l = some (someS ch l):=areGates_go hc l hl l.length k 0 (by omega) hk
theorem rSome_go (hc : ch.length≤1000) (l : List Int) (hl : l.length≤1000) : ∀ (d k i : Nat),i + d = l.length→d < k→
 q8_Some.l0 k l (i : Int) pts ch = some (allFrom (fun j=>gateAt ch (l.getD j 0) && (decide (j = 0) || decide (l.getD (j - 1) 0 < l.getD j 0))) d i)
 | _,0,_,_,hk=>by omega
 | 0,k + 1,i,hi,_=>by
  unfold q8_Some.l0
  rw [if_neg (by omega)];rfl
 | d + 1,k + 1,i,hi,hk=>by
  have ih:=rSome_go hc l hl d k (i + 1) (by omega) (by omega)
  unfold q8_Some.l0
  rw [if_pos (by omega),if_pos (by omega),rGate_eq hc,rd_nat]
  simp only [Option.bind_some,allFrom]
  cases hg : gateAt ch (l.getD i 0) with
  | false=>rw [if_neg (by decide)];rfl
  | true =>
   rw [if_pos rfl]
   rw [show wrap64 ((i : Int) + 1) = ((i + 1 : Nat) : Int) by rw [wr (by omega) (by omega)];rfl,ih]
   by_cases h0 : i = 0
   ·subst h0
    rw [if_neg (by omega)];simp
   ·rw [if_pos (by omega),wr (by omega) (by omega),if_pos (by omega),if_pos (by omega),show (i : Int) - 1 = ((i - 1 : Nat) : Int) by omega,rd_nat]
    by_cases hle : l.getD i 0≤l.getD (i - 1) 0
    ·rw [if_pos hle,decide_eq_false h0,decide_eq_false (show ¬ l.getD (i - 1) 0 < l.getD i 0 by omega)];rfl
    ·rw [if_neg hle,decide_eq_true (show l.getD (i - 1) 0 < l.getD i 0 by omega)];simp
theorem rSome_eq (hc : ch.length≤1000) {l : List Int} (hl : l.length≤1000) {k : Nat} (hk : l.length < k) : q8_Some.f k pts ch l = some (someS ch l):=rSome_go hc l hl l.length k 0 (by omega) hk
theorem rdT_nat (l : List Ch) (i : Nat) (x : Ch) (rest : List Ch) (h : l.drop i = x :: rest) : rd_T65 l (i : Int) = x:=by
 have h2 : l[i]? = some x:=by
  have:=congrArg (fun z=>z[0]?) h
  simpa using this
 show l.getD i _ = x
 rw [List.getD_eq_getElem?_getD,h2];rfl
theorem rdP_nat (l : List Pt) (i : Nat) (x : Pt) (rest : List Pt) (h : l.drop i = x :: rest) : rd_T37 l (i : Int) = x:=by
 have h2 : l[i]? = some x:=by
  have:=congrArg (fun z=>z[0]?) h
  simpa using this
 show l.getD i _ = x
 rw [List.getD_eq_getElem?_getD,h2];rfl
theorem drop_succ {α : Type} {l : List α} {i : Nat} {x : α} {rest : List α} (h : l.drop i = x :: rest) : l.drop (i + 1) = rest∧i < l.length:=by
 refine ⟨by rw [← List.drop_drop,h];rfl,?_⟩
 have:=congrArg List.length h
 simp at this;omega
theorem gates_go (hc : ch.length≤1000) : ∀ (rest : List Ch) (k i : Nat) (acc : List Int),ch.drop i = rest→acc.length≤i→rest.length < k→
 ga_gates.l0 k acc ch (ch.length : Int) (i : Int) = some (acc ++ gatesFrom (i : Int) rest)
 | _,0,_,_,_,_,hk=>by omega
 | [],k + 1,i,acc,hd,_,_=>by
  have : ch.length≤i:=by have:=congrArg List.length hd;simp at this;omega
  unfold ga_gates.l0
  rw [if_neg (by omega)];simp [gatesFrom]
 | x :: rest,k + 1,i,acc,hd,ha,hk=>by
  obtain ⟨hd2,hlt⟩:=drop_succ hd
  have ih:=fun acc h=>gates_go hc rest k (i + 1) acc hd2 h (by simp at hk;omega)
  unfold ga_gates.l0
  rw [if_pos (by omega),if_pos (by omega),if_pos (by omega),rdT_nat ch i x rest hd,wr (by omega) (by omega),show (i : Int) + 1 = ((i + 1 : Nat) : Int) from rfl]
  unfold gatesFrom
  by_cases hg : x.f3 = true
  ·rw [if_pos hg,if_pos (by omega),if_pos hg,ih _ (by simp;omega)];simp
  ·rw [if_neg hg,if_neg hg,ih _ (by omega)];rfl
theorem gates_eq (hc : ch.length≤1000) {k : Nat} (hk : ch.length < k) : ga_gates.f k pts ch = some (gatesL ch):=by
 have:=gates_go hc ch k 0 [] rfl (by simp) hk
 exact this
theorem anyM_eq {α : Type} {q : α→Option Bool} {p : α→Bool} : ∀ {l : List α},(∀ x ∈ l,q x = some (p x))→anyM q l = some (l.any p)
 | [],_=>rfl
 | x :: l,h=>by
  unfold anyM
  rw [h x List.mem_cons_self,anyM_eq (fun y hy=>h y (List.mem_cons_of_mem _ hy))]
  simp only [Option.bind_some,List.any_cons]
  cases p x<;>rfl
theorem isNet1_eq (p : Pt) : ga_isNet_1.f p.f0.f0 p.f0.f1 p.f1 = some (!ptS p):=by
 unfold ga_isNet_1.f ptS
 simp only [isCups_eq,Option.bind_some]
 cases cupS p.f0.f0<;>cases cupS p.f0.f1<;>simp
 by_cases h : p.f0.f1 < p.f0.f0
 ·rw [if_pos h];simp [h]
 ·rw [if_neg h];simp;intro h2;exact absurd h2 h
theorem isNet2_eq (hp : pts.length≤1000) (c : Ch) : ga_isNet_2.f pts ch c = some (!chS pts.length c):=by
 unfold ga_isNet_2.f chS
 simp only [isPoint_eq hp,isCups_eq,Option.bind_some]
 cases isPtS pts.length c.f0<;>cases isPtS pts.length c.f1<;>simp
 by_cases h : c.f0 = c.f1
 ·rw [if_pos h];simp [h]
 ·rw [if_neg h];simp [h]
theorem any_not {α : Type} (p : α→Bool) (l : List α) : l.any (fun x=>!p x) = !l.all p:=by
 induction l with
 | nil=>rfl
 | cons x l ih=>simp [ih]
theorem isNet_eq (hp : pts.length≤1000) (hc : ch.length≤1000) {k : Nat} (hk : ch.length < k) : ga_isNet.f k pts ch = some (netS pts ch):=by
 unfold ga_isNet.f netS
 rw [in_eq,anyM_eq (fun x _=>isNet1_eq x),anyM_eq (fun x _=>isNet2_eq hp x),gates_eq hc hk]
 simp only [Option.bind_some,any_not]
 by_cases h1 : 1≤pts.length∧pts.length≤7
 ·rw [decide_eq_true h1,decide_eq_true (show (1 : Int)≤(pts.length : Int)∧(pts.length : Int)≤7 by omega),if_pos rfl]
  by_cases h2 : ch.length≤10
  ·rw [decide_eq_true h2,if_neg (by omega)]
   cases pts.all ptS<;>cases ch.all (chS pts.length)<;>simp
   omega
  ·rw [decide_eq_false h2,if_pos (by omega)];simp
 ·rw [decide_eq_false h1,decide_eq_false (show ¬ ((1 : Int)≤(pts.length : Int)∧(pts.length : Int)≤7) by omega)];simp
end
set_option linter.unusedSimpArgs false
set_option linter.unusedSimpArgs false
section
variable {pts : List Pt} {ch : List Ch}
theorem gatesFrom_len : ∀ (i j : Int) (l : List Ch),(gatesFrom i l).length = (gatesFrom j l).length
 | _,_,[]=>rfl
 | i,j,c :: l=>by
  unfold gatesFrom
  split
  ·simp only [List.length_cons];rw [gatesFrom_len (i + 1) (j + 1) l]
  ·exact gatesFrom_len (i + 1) (j + 1) l
def finS (pts : List Pt) (ch : List Ch) (g : Nat) : Bool:=decide (1≤pts.length∧pts.length≤7) && (decide (ch.length≤10) && decide (g≤7))
theorem rNet_l1 (hp : pts.length≤1000) (hc : ch.length≤1000) : ∀ (rest : List Ch) (k i g : Nat),ch.drop i = rest→g≤i→2 * rest.length < k→
 q8_Net.l1 k (g : Int) (i : Int) pts ch = some (rest.all (chS pts.length) && finS pts ch (g + (gatesFrom 0 rest).length))
 | _,0,_,_,_,_,hk=>by omega
 | [],k + 1,i,g,hd,_,_=>by
  have : ch.length≤i:=by have:=congrArg List.length hd;simp at this;omega
  unfold q8_Net.l1
  rw [if_neg (by omega),rin_eq,show g + (gatesFrom 0 ([] : List Ch)).length = g from rfl,List.all_nil,Bool.true_and]
  unfold finS
  simp only [Option.bind_some]
  by_cases h1 : 1≤pts.length∧pts.length≤7
  ·rw [decide_eq_true h1,decide_eq_true (show (1 : Int)≤(pts.length : Int)∧(pts.length : Int)≤7 by omega),if_pos rfl]
   by_cases h2 : ch.length≤10
   ·rw [decide_eq_true h2,if_pos (by omega)];simp only [Bool.true_and];congr 1;exact Bool.eq_iff_iff.2 (by simp only [decide_eq_true_eq];omega)
   ·rw [decide_eq_false h2,if_neg (by omega)];simp
  ·rw [decide_eq_false h1,decide_eq_false (show ¬ ((1 : Int)≤(pts.length : Int)∧(pts.length : Int)≤7) by omega)];simp
 | x :: rest,k + 1,i,g,hd,hg,hk=>by
  obtain ⟨hd2,hlt⟩:=drop_succ hd
  obtain ⟨k,rfl⟩ : ∃ k',k = k' + 1:=⟨k - 1,by simp at hk;omega⟩
  have ih:=fun g h=>rNet_l1 hp hc rest k (i + 1) g hd2 h (by simp at hk;omega)
  unfold q8_Net.l1
  rw [if_pos (by omega),if_pos (by omega),rdT_nat ch i x rest hd]
  have hj : ∀ b : Bool,q8_Net.j2 (k + 1) (g : Int) (i : Int) b pts ch x.f0 x.f1 x.f2 x.f3 = some (!b && (rest.all (chS pts.length) && finS pts ch (g + (gatesFrom 0 (x :: rest)).length))):=by
   intro b
   unfold q8_Net.j2
   cases b with
   | true=>rfl
   | false =>
    rw [if_neg (by decide),wr (x:=(g : Int) + 1) (by omega) (by omega),wr (x:=(i : Int) + 1) (by omega) (by omega),show (i : Int) + 1 = ((i + 1 : Nat) : Int) from rfl,show (g : Int) + 1 = ((g + 1 : Nat) : Int) from rfl]
    unfold gatesFrom
    by_cases hx : x.f3 = true
    ·rw [if_pos hx,if_pos hx,ih _ (by omega),List.length_cons,gatesFrom_len (0 + 1) 0,show g + 1 + (gatesFrom 0 rest).length = g + ((gatesFrom 0 rest).length + 1) by omega];rfl
    ·rw [if_neg hx,if_neg hx,ih _ (by omega),gatesFrom_len (0 + 1) 0];rfl
  simp only [rPoint_eq hp,rcups_eq,Option.bind_some,hj,List.all_cons]
  unfold chS
  cases isPtS pts.length x.f0<;>cases isPtS pts.length x.f1<;>simp
  by_cases h : x.f0 = x.f1
  ·rw [if_pos h];simp [h]
  ·rw [if_neg h];simp [h,Bool.and_assoc]
theorem rNet_l0 (hp : pts.length≤1000) (hc : ch.length≤1000) : ∀ (rest : List Pt) (k i : Nat),pts.drop i = rest→rest.length + 2 * ch.length + 1 < k→
 q8_Net.l0 k (i : Int) pts ch = some (rest.all ptS && (ch.all (chS pts.length) && finS pts ch (gatesL ch).length))
 | _,0,_,_,hk=>by omega
 | [],k + 1,i,hd,hk=>by
  have : pts.length≤i:=by have:=congrArg List.length hd;simp at this;omega
  unfold q8_Net.l0
  rw [if_neg (by omega)]
  have:=rNet_l1 hp hc ch k 0 0 rfl (Nat.le_refl _) (by simp at hk;omega)
  rw [Nat.zero_add] at this
  rw [List.all_nil,Bool.true_and]
  exact this
 | x :: rest,k + 1,i,hd,hk=>by
  obtain ⟨hd2,hlt⟩:=drop_succ hd
  have ih:=rNet_l0 hp hc rest k (i + 1) hd2 (by simp at hk;omega)
  unfold q8_Net.l0
  rw [if_pos (by omega),if_pos (by omega),rdP_nat pts i x rest hd,wr (by omega) (by omega),show (i : Int) + 1 = ((i + 1 : Nat) : Int) from rfl,ih]
  simp only [rcups_eq,Option.bind_some,List.all_cons]
  unfold ptS
  cases cupS x.f0.f0<;>cases cupS x.f0.f1<;>simp
  by_cases h : x.f0.f1 < x.f0.f0
  ·rw [if_pos h,decide_eq_false (by omega)];simp
  ·rw [if_neg h,decide_eq_true (show x.f0.f0≤x.f0.f1 by omega)];cases cupS x.f1<;>simp
theorem rNet_eq (hp : pts.length≤1000) (hc : ch.length≤1000) {k : Nat} (hk : pts.length + 2 * ch.length + 1 < k) : q8_Net.f k pts ch = some (netS pts ch):=by
 have:=rNet_l0 hp hc pts k 0 rfl hk
 unfold q8_Net.f
 rw [show (0 : Int) = ((0 : Nat) : Int) from rfl,this]
 unfold netS finS
 cases decide (1≤pts.length∧pts.length≤7)<;>cases decide (ch.length≤10)<;>cases pts.all ptS<;>cases ch.all (chS pts.length)<;>rfl
theorem index_go (l : List Int) (hl : l.length≤1000) (a : Int) : ∀ (d k i : Nat),i + d = l.length→d < k→∃ r,sl_Index_int_int.l0 k l a (l.length : Int) (i : Int) = some r∧(0≤r↔a ∈ l.drop i)
 | _,0,_,_,hk=>by omega
 | 0,k + 1,i,hi,_=>by
  refine ⟨-1,?_,?_⟩
  ·unfold sl_Index_int_int.l0;rw [if_neg (by omega)]
  ·rw [List.drop_of_length_le (by omega)];simp
 | d + 1,k + 1,i,hi,hk=>by
  obtain ⟨r,h1,h2⟩:=index_go l hl a d k (i + 1) (by omega) (by omega)
  have hd : l.drop i = l.getD i 0 :: l.drop (i + 1):=by rw [List.drop_eq_getElem_cons (show i < l.length by omega),List.getD_eq_getElem?_getD,List.getElem?_eq_getElem (show i < l.length by omega)];rfl
  unfold sl_Index_int_int.l0
  rw [if_pos (by omega),if_pos (by omega),if_pos (by omega),rd_nat,wr (by omega) (by omega),show (i : Int) + 1 = ((i + 1 : Nat) : Int) from rfl,h1]
  by_cases h : a = l.getD i 0
  ·rw [if_pos h];exact ⟨i,rfl,by rw [hd,h];simp⟩
  ·rw [if_neg h];exact ⟨r,rfl,by rw [hd,List.mem_cons,h2];exact ⟨.inr,fun e=>e.elim (fun e=>absurd e h) id⟩⟩
theorem contains_eq {l : List Int} (hl : l.length≤1000) (a : Int) {k : Nat} (hk : l.length < k) : sl_Contains_int_int.f k l a = some (decide (a ∈ l)):=by
 obtain ⟨r,h1,h2⟩:=index_go l hl a l.length k 0 (by omega) hk
 unfold sl_Contains_int_int.f sl_Index_int_int.f
 rw [show (0 : Int) = ((0 : Nat) : Int) from rfl,h1]
 simp only [Option.bind_some]
 congr 1;rw [decide_eq_decide];rw [List.drop_zero] at h2;exact h2
def openC (op : List Int) (x : Ch) (c : Int) : Bool:=!x.f3 || decide (c ∈ op)
theorem carries_eq {op : List Int} (ho : op.length≤1000) {k : Nat} (hk : op.length < k) {i : Nat} {x : Ch} {rest : List Ch} (hd : ch.drop i = x :: rest) : gs_carries.f k pts ch op (i : Int) = some (if openC op x (i : Int) = true then x.f2 else 0):=by
 obtain ⟨_,hlt⟩:=drop_succ hd
 unfold gs_carries.f openC
 rw [if_pos (by omega),if_pos (by omega),rdT_nat ch i x rest hd,contains_eq ho _ hk]
 simp only [Option.bind_some]
 cases x.f3 with
 | false=>rw [if_neg (by decide)];rfl
 | true =>
  rw [if_pos rfl]
  by_cases h : (i : Int) ∈ op
  ·rw [decide_eq_true h];rfl
  ·rw [decide_eq_false h];rfl
def lackP (hi : Bool) (p : Pt) : Int:=p.f1 - (if hi = true then p.f0.f1 else p.f0.f0)
def brings (op S : List Int) : Int→List Ch→Int
 | _,[]=>0
 | c,x :: xs=>(if openC op x c = true∧x.f1 ∈ S∧x.f0 ∉ S then x.f2 else 0) + brings op S (c + 1) xs
def shortS (pts : List Pt) (ch : List Ch) (op S : List Int) (hi : Bool) : Int:=(S.map fun p=>lackP hi (rd_T37 pts p)).sum - brings op S 0 ch
def okPts (n : Nat) (S : List Int) : Prop:=S.length≤10∧∀ p ∈ S,0≤p∧p < (n : Int)
theorem pt_in (h : pts.all ptS = true) {p : Int} (h0 : 0≤p) (h1 : p < (pts.length : Int)) : ptS (rd_T37 pts p) = true:=by
 rw [List.all_eq_true] at h
 refine h _ ?_
 show pts.getD p.toNat _ ∈ pts
 rw [List.getD_eq_getElem?_getD,List.getElem?_eq_getElem (show p.toNat < pts.length by omega)]
 simp
theorem ptS_iff {p : Pt} : ptS p = true↔(0≤p.f0.f0∧p.f0.f0≤10000)∧(0≤p.f0.f1∧p.f0.f1≤10000)∧p.f0.f0≤p.f0.f1∧0≤p.f1∧p.f1≤10000:=by
 unfold ptS cupS
 simp only [Bool.and_eq_true,decide_eq_true_eq]
theorem short1_eq (h : pts.all ptS = true) (hi : Bool) : ∀ (S acc : List Int),(∀ p ∈ S,0≤p∧p < (pts.length : Int))→acc.length + 2 * S.length≤1000→
 ∃ l,short1 pts hi S acc = some (acc ++ l)∧l.length = 2 * S.length∧(∀ x ∈ l,-10000≤x∧x≤10000)∧l.sum = (S.map fun p=>lackP hi (rd_T37 pts p)).sum
 | [],acc,_,_=>⟨[],by simp [short1],rfl,by simp,rfl⟩
 | p :: S,acc,hS,hl=>by
  obtain ⟨p0,p1⟩:=hS p List.mem_cons_self
  have hpt:=ptS_iff.1 (pt_in h p0 p1)
  simp only [List.length_cons] at hl
  generalize hq : rd_T37 pts p = q at hpt
  obtain ⟨l,h1,h2,h3,h4⟩:=short1_eq h hi S (acc ++ [q.f1,-(if hi = true then q.f0.f1 else q.f0.f0)]) (fun z hz=>hS z (List.mem_cons_of_mem _ hz)) (by simp;omega)
  refine ⟨[q.f1,-(if hi = true then q.f0.f1 else q.f0.f0)] ++ l,?_,by simp [h2];omega,?_,?_⟩
  ·unfold short1
   rw [if_pos p0,if_pos p1,if_pos (by omega),hq,wr (by cases hi<;>simp<;>omega) (by cases hi<;>simp<;>omega),h1,List.append_assoc]
  ·intro x hx
   rcases List.mem_append.1 hx with hx | hx
   ·simp only [List.mem_cons,List.not_mem_nil,or_false] at hx
    rcases hx with rfl | rfl
    ·omega
    ·cases hi<;>simp<;>omega
   ·exact h3 x hx
  ·rw [List.sum_append,h4,List.map_cons,List.sum_cons,hq]
   unfold lackP
   simp;omega
theorem chS_iff {n : Nat} {c : Ch} : chS n c = true↔(0≤c.f0∧c.f0 < (n : Int))∧(0≤c.f1∧c.f1 < (n : Int))∧c.f0 ≠ c.f1∧0≤c.f2∧c.f2≤10000:=by
 unfold chS cupS isPtS
 simp only [Bool.and_eq_true,decide_eq_true_eq]
theorem short2_eq {op S : List Int} (ho : op.length≤1000) (hS : S.length≤1000) {k : Nat} (hk : op.length < k) (hk2 : S.length < k) : ∀ (rest : List Ch) (i : Nat) (acc : List Int),ch.drop i = rest→(∀ c ∈ rest,0≤c.f2∧c.f2≤10000)→acc.length + rest.length≤1000→
 ∃ l,short2 k pts ch op S rest (i : Int) acc = some (acc ++ l)∧l.length≤rest.length∧(∀ x ∈ l,-10000≤x∧x≤10000)∧l.sum = -brings op S (i : Int) rest
 | [],i,acc,_,_,_=>⟨[],by simp [short2],Nat.le_refl _,by simp,by simp [brings]⟩
 | x :: rest,i,acc,hd,hc,hl=>by
  obtain ⟨hd2,hlt⟩:=drop_succ hd
  have hx:=hc x List.mem_cons_self
  have ih:=fun acc h=>short2_eq ho hS hk hk2 rest (i + 1) acc hd2 (fun z hz=>hc z (List.mem_cons_of_mem _ hz)) h
  unfold short2 brings
  rw [contains_eq hS _ hk2,contains_eq hS _ hk2,carries_eq ho hk hd]
  simp only [Option.bind_some,decide_eq_true_eq]
  rw [show (i : Int) + 1 = ((i + 1 : Nat) : Int) from rfl]
  by_cases h1 : x.f1 ∈ S
  ·rw [if_pos h1]
   by_cases h2 : x.f0 ∈ S
   ·rw [if_pos h2,if_neg (fun e=>e.2.2 h2)]
    obtain ⟨l,a1,a2,a3,a4⟩:=ih acc (by simp at hl;omega)
    exact ⟨l,a1,by simp;omega,a3,by rw [a4];omega⟩
   ·rw [if_neg h2,if_pos (by simp at hl;omega)]
    obtain ⟨l,a1,a2,a3,a4⟩:=ih (acc ++ [wrap64 (-(if openC op x (i : Int) = true then x.f2 else 0))]) (by simp at hl ⊢;omega)
    by_cases h3 : openC op x (i : Int) = true
    ·simp only [h3,h1,h2,if_true,not_false_eq_true,and_self] at a1 ⊢
     rw [wr (x:=-x.f2) (by omega) (by omega)] at a1 ⊢
     refine ⟨-x.f2 :: l,by rw [a1];simp,by simp;omega,?_,by rw [List.sum_cons,a4];omega⟩
     intro y hy
     rcases List.mem_cons.1 hy with rfl | hy
     ·omega
     ·exact a3 y hy
    ·simp only [h3,false_and,if_false,Bool.false_eq_true] at a1 ⊢
     rw [wr (x:=-0) (by omega) (by omega)] at a1 ⊢
     refine ⟨-0 :: l,by rw [a1];simp,by simp;omega,?_,by rw [List.sum_cons,a4];omega⟩
     intro y hy
     rcases List.mem_cons.1 hy with rfl | hy
     ·omega
     ·exact a3 y hy
  ·rw [if_neg h1,if_neg (fun e=>h1 e.2.1)]
   obtain ⟨l,a1,a2,a3,a4⟩:=ih acc (by simp at hl;omega)
   exact ⟨l,a1,by simp;omega,a3,by rw [a4];omega⟩
theorem sum_go (l : List Int) (hl : l.length≤1000) (hb : ∀ x ∈ l,-10000≤x∧x≤10000) : ∀ (rest : List Int) (k i : Nat) (acc : Int),l.drop i = rest→-10000 * (i : Int)≤acc→acc≤10000 * (i : Int)→rest.length < k→
 ga_sum.l0 k acc l (l.length : Int) (i : Int) = some (acc + rest.sum)
 | _,0,_,_,_,_,_,hk=>by omega
 | [],k + 1,i,acc,hd,_,_,_=>by
  have : l.length≤i:=by have:=congrArg List.length hd;simp at this;omega
  unfold ga_sum.l0
  rw [if_neg (by omega)];simp
 | x :: rest,k + 1,i,acc,hd,h0,h1,hk=>by
  obtain ⟨hd2,hlt⟩:=drop_succ hd
  have hx : l.getD i 0 = x:=by
   have:=congrArg (fun z=>z[0]?) hd
   rw [List.getD_eq_getElem?_getD,show l[i]? = some x by simpa using this];rfl
  have hxb:=hb x (by
   have : x ∈ l.drop i:=by rw [hd];exact List.mem_cons_self
   exact List.mem_of_mem_drop this)
  have ih:=sum_go l hl hb rest k (i + 1) (acc + x) hd2 (by omega) (by omega) (by simp at hk;omega)
  unfold ga_sum.l0
  rw [if_pos (by omega),if_pos (by omega),if_pos (by omega),rd_nat,hx,wr (x:=acc + x) (by omega) (by omega),wr (x:=(i : Int) + 1) (by omega) (by omega),show (i : Int) + 1 = ((i + 1 : Nat) : Int) from rfl,ih,List.sum_cons]
  congr 1;omega
theorem sum_eq {l : List Int} (hl : l.length≤1000) (hb : ∀ x ∈ l,-10000≤x∧x≤10000) {k : Nat} (hk : l.length < k) : ga_sum.f k l = some l.sum:=by
 have:=sum_go l hl hb l k 0 0 rfl (by omega) (by omega) hk
 rw [Int.zero_add] at this
 exact this
theorem cSort_eq (hpt : pts.all ptS = true) (hch : ch.all (chS pts.length) = true) (hc : ch.length≤20) {op S : List Int} (ho : op.length≤1000) (hS : okPts pts.length S) (hi : Bool) {k : Nat} (hk : op.length < k) (hk2 : 100≤k) : gs_short.f k pts ch op S hi = some (shortS pts ch op S hi):=by
 obtain ⟨l,a1,a2,a3,a4⟩:=short1_eq hpt hi S [] hS.2 (by have:=hS.1;simp;omega)
 obtain ⟨m,b1,b2,b3,b4⟩:=short2_eq (pts:=pts) (ch:=ch) ho (show S.length≤1000 by have:=hS.1;omega) hk (show S.length < k by have:=hS.1;omega) ch 0 ([] ++ l) rfl (fun c hcm=>(chS_iff.1 (List.all_eq_true.1 hch c hcm)).2.2.2) (by have:=hS.1;simp;omega)
 unfold gs_short.f
 rw [a1]
 simp only [Option.bind_some]
 rw [show (0 : Int) = ((0 : Nat) : Int) from rfl,b1]
 simp only [Option.bind_some,List.nil_append]
 rw [sum_eq (by have:=hS.1;simp;omega) ?_ (by have:=hS.1;simp;omega),List.sum_append,a4,b4]
 ·rfl
 ·intro x hx
  rcases List.mem_append.1 hx with hx | hx
  ·exact a3 x hx
  ·exact b3 x hx
end
set_option linter.unusedSimpArgs false
set_option linter.unusedSimpArgs false
set_option linter.unusedSimpArgs false
set_option linter.unusedSimpArgs false
section
variable {pts : List Pt} {ch : List Ch}
theorem getD_of_drop {l : List Int} {i : Nat} {x : Int} {rest : List Int} (hd : l.drop i = x :: rest) : rd l (i : Int) = x:=by
 have:=congrArg (fun z=>z[0]?) hd
 show l.getD i 0 = x
 rw [List.getD_eq_getElem?_getD,show l[i]? = some x by simpa using this];rfl
theorem partsOf_now : ∀ (rest now : List Int) (m : Nat),partsOf rest now m = (partsOf rest [] m).map (now ++ ·)
 | [],now,0=>by simp [partsOf]
 | _ :: _,now,0=>by simp [partsOf]
 | [],now,m + 1=>by simp [partsOf]
 | x :: rest,now,m + 1=>by
  unfold partsOf
  rw [partsOf_now rest (now ++ [x]) m,partsOf_now rest now (m + 1),partsOf_now rest ([] ++ [x]) m,List.map_append,List.map_map]
  congr 1
  refine List.map_congr_left fun l _=>?_
  simp
theorem partsOf_mem : ∀ (rest now : List Int) (m : Nat) (l : List Int),l ∈ partsOf rest now m→∃ s,l = now ++ s∧s.length = m∧∀ z ∈ s,z ∈ rest
 | [],now,0,l,h=>by simp only [partsOf,List.mem_singleton] at h;exact ⟨[],by simp [h],rfl,by simp⟩
 | _ :: _,now,0,l,h=>by simp only [partsOf,List.mem_singleton] at h;exact ⟨[],by simp [h],rfl,by simp⟩
 | [],now,m + 1,l,h=>by simp [partsOf] at h
 | x :: rest,now,m + 1,l,h=>by
  unfold partsOf at h
  rcases List.mem_append.1 h with h | h
  ·obtain ⟨s,h1,h2,h3⟩:=partsOf_mem rest (now ++ [x]) m l h
   refine ⟨x :: s,by rw [h1];simp,by simp [h2],fun z hz=>?_⟩
   rcases List.mem_cons.1 hz with rfl | hz
   ·exact List.mem_cons_self
   ·exact List.mem_cons_of_mem _ (h3 z hz)
  ·obtain ⟨s,h1,h2,h3⟩:=partsOf_mem rest now (m + 1) l h
   exact ⟨s,h1,h2,fun z hz=>List.mem_cons_of_mem _ (h3 z hz)⟩
end
section
variable {pts : List Pt} {ch : List Ch}
def numsL (n : Nat) : List Int:=(List.range n).map Int.ofNat
theorem numsL_succ (n : Nat) : numsL (n + 1) = numsL n ++ [(n : Int)]:=by unfold numsL;rw [List.range_succ,List.map_append];rfl
theorem numsL_len (n : Nat) : (numsL n).length = n:=by simp [numsL]
theorem numsL_mem {n : Nat} {x : Int} : x ∈ numsL n↔0≤x∧x < (n : Int):=by
 unfold numsL
 rw [List.mem_map]
 constructor
 ·rintro ⟨a,h,rfl⟩;have:=List.mem_range.1 h;simp;omega
 ·rintro ⟨h0,h1⟩;exact ⟨x.toNat,List.mem_range.2 (by omega),by simp;omega⟩
theorem points_go {n : Nat} (hn : n≤1000) : ∀ (d k i : Nat),i + d = n→d < k→ga_points.l0 k (numsL i) (n : Int) (i : Int) = some (numsL n)
 | _,0,_,_,hk=>by omega
 | 0,k + 1,i,hi,_=>by
  unfold ga_points.l0
  rw [if_neg (by omega),show i = n by omega]
 | d + 1,k + 1,i,hi,hk=>by
  have ih:=points_go hn d k (i + 1) (by omega) (by omega)
  unfold ga_points.l0
  rw [if_pos (by omega),if_pos (by rw [numsL_len];omega),wr (by omega) (by omega),show (i : Int) + 1 = ((i + 1 : Nat) : Int) from rfl,← numsL_succ]
  exact ih
theorem points_eq (hp : pts.length≤1000) {k : Nat} (hk : pts.length < k) : ga_points.f k pts ch = some (numsL pts.length):=points_go hp pts.length k 0 (by omega) hk
theorem uptoOf_mem {xs : List Int} : ∀ {k : Nat} {l : List Int},l ∈ uptoOf xs k→l.length < k∧∀ z ∈ l,z ∈ xs
 | 0,_,h=>by simp [uptoOf] at h
 | k + 1,l,h=>by
  unfold uptoOf at h
  rcases List.mem_append.1 h with h | h
  ·obtain ⟨h1,h2⟩:=uptoOf_mem h;exact ⟨by omega,h2⟩
  ·obtain ⟨s,h1,h2,h3⟩:=partsOf_mem _ _ _ _ h
   rw [List.nil_append] at h1
   subst h1
   exact ⟨by omega,h3⟩
theorem ok_shortest {n : Nat} (hn : n≤9) {S : List Int} (h : S ∈ shortestOf (numsL n)) : okPts n S:=by
 obtain ⟨h1,h2⟩:=uptoOf_mem h
 rw [numsL_len] at h1
 exact ⟨by omega,fun p hp=>numsL_mem.1 (h2 p hp)⟩
theorem firstM_find {q : List Int→Option Bool} {p : List Int→Bool} : ∀ {L : List (List Int)},(∀ l ∈ L,q l = some (p l))→firstM q L = some (L.find? p)
 | [],_=>rfl
 | x :: L,h=>by
  unfold firstM
  rw [h x List.mem_cons_self,firstM_find (fun y hy=>h y (List.mem_cons_of_mem _ hy)),List.find?_cons]
  simp only [Option.bind_some]
  cases p x<;>rfl
theorem firstT_find {q : List Int→Option Bool} {p : List Int→Bool} {L : List (List Int)} (h : ∀ l ∈ L,q l = some (p l)) : firstT q L = some (L.find? p):=by
 unfold firstT
 rw [if_pos,firstM_find h]
 rw [List.all_eq_true]
 intro l hl
 rw [h l hl];rfl
def cutP (pts : List Pt) (ch : List Ch) (op : List Int) (hi : Bool) (S : List Int) : Bool:=decide (0 < shortS pts ch op S hi)
def cutS (pts : List Pt) (ch : List Ch) (op : List Int) (hi : Bool) : Option (List Int):=(shortestOf (numsL pts.length)).find? (cutP pts ch op hi)
theorem netS_iff : netS pts ch = true↔(1≤pts.length∧pts.length≤7)∧ch.length≤10∧pts.all ptS = true∧ch.all (chS pts.length) = true∧(gatesL ch).length≤7:=by
 unfold netS
 simp only [Bool.and_eq_true,decide_eq_true_eq]
theorem cutH_eq (h : netS pts ch = true) {op : List Int} (ho : op.length≤20) (hi : Bool) {k : Nat} (hk : 100≤k) : cutH.f k pts ch op hi = some (firstV (cutS pts ch op hi)):=by
 obtain ⟨h1,h2,h3,h4,_⟩:=netS_iff.1 h
 unfold cutH.f
 rw [points_eq (by omega) (by omega)]
 simp only [Option.bind_some]
 rw [if_pos (by rw [numsL_len];omega),firstT_find (p:=cutP pts ch op hi) (fun S hS=>by
  unfold cutq.f
  rw [cSort_eq h3 h4 (by omega) (by omega) (ok_shortest (by omega) hS) hi (by omega) hk];rfl)]
 rfl
theorem cut0_eq (h : netS pts ch = true) {op : List Int} (ho : op.length≤20) {k : Nat} (hk : 100≤k) : gs_cut.f k pts ch op 0 = some (firstV (cutS pts ch op false)):=by
 unfold gs_cut.f
 rw [if_pos rfl,cutH_eq h ho false hk]
theorem cut1_eq (h : netS pts ch = true) {op : List Int} (ho : op.length≤20) {k : Nat} (hk : 100≤k) : gs_cut.f k pts ch op 1 = some (firstV (cutS pts ch op true)):=by
 unfold gs_cut.f
 rw [if_neg (by decide),if_pos rfl,cutH_eq h ho true hk]
theorem surely_eq (h : netS pts ch = true) {op : List Int} (ho : op.length≤20) {k : Nat} (hk : 100≤k) : ga_surely.f k pts ch op = some (cutS pts ch op false).isNone:=by
 unfold ga_surely.f
 rw [cut0_eq h ho hk]
 cases cutS pts ch op false<;>rfl
end
end Go.Proofs.YtclkbedbocnpkaaGreatDoor.C
namespace Go.Abs
open Go.RowKit Go.Proofs.YtclkbedbocnpkaaGreatDoorW.PrintWords Go.Proofs.YtclkbedbocnpkaaGreatDoorW.PrintMore
set_option linter.unusedVariables false
set_option linter.unusedSimpArgs false
set_option maxHeartbeats 16000000
set_option maxRecDepth 100000
noncomputable def capOk (k : Nat) (s : St) (v : AV) : Bool:=
 match v with
 | .nilSlice=>true
 | .slice _ _ n c=>Nat.ble n c
 | .opn b n=>match s.heap.get b with
  | some (.cells _ (some k') cs)=>Nat.beq k' k && Nat.ble 1 k && Nat.ble (n * k) cs.length
  | some (.ro _ (some k') cs)=>Nat.beq k' k && Nat.ble 1 k && Nat.ble (n * k) cs.length
  | _=>false
 | _=>false
theorem capOk_le {e : Env} {s : St} {w : World} (hs : Sim e s w) {k n m c : Nat} {v : AV} {A : Option Addr} (h : capOk k s v = true) (hx : conc e v = some (.slice A m c)) : m≤c:=by
 unfold capOk at h
 split at h
 ·simp only [conc,Option.some.injEq,Value.slice.injEq] at hx;omega
 ·simp only [conc,Option.map_eq_some_iff,Value.slice.injEq] at hx
  obtain ⟨p,_,_,rfl,rfl⟩:=hx
  exact Nat.le_of_ble_eq_true h
 ·simp only [conc,Option.map_eq_some_iff,Value.slice.injEq] at hx
  obtain ⟨p,hp,_,rfl,rfl⟩:=hx
  have key : ∀ {n' k' : Nat} {cs : List AV} {vs rest : List Value},(Nat.beq k' k && Nat.ble 1 k && Nat.ble (n' * k) cs.length) = true→concL e cs = some vs→(vs ++ rest).length = p.2 * k'→n'≤p.2:=by
   intro n' k' cs vs rest h h1 h2
   simp only [Bool.and_eq_true,Nat.beq_eq,Nat.ble_eq] at h
   obtain ⟨⟨rfl,h3⟩,h4⟩:=h
   rw [List.length_append,concL_length h1] at h2
   exact Nat.le_of_mul_le_mul_right (by omega : n' * k'≤p.2 * k') (by omega)
  split at h
  ·rename_i hb
   obtain ⟨b,q,ob,he,_,vs,rest,h1,rfl,h2⟩:=hs.at_ _ _ hb
   rw [hp] at he;cases he
   exact key h h1 h2
  ·rename_i hb
   obtain ⟨b,q,ob,he,_,vs,rest,h1,rfl,h2⟩:=hs.at_ _ _ hb
   rw [hp] at he;cases he
   exact key h h1 (h2 _ rfl)
  ·cases h
 ·cases h
theorem first_cells {e : Env} {s : St} {w : World} (hs : Sim e s w) {m n c : Nat} {v : AV} {cs : List AV} {A : Option Addr} (h : firstA m v s = some cs) (hx : conc e v = some (.slice A n c)) (hm : 0 < m) :
 ∃ ad vs,A = some ad∧concL e cs = some vs∧∀ i u,vs[i]? = some u→w.cell? (ad.add i) = some u:=by
 have cell : ∀ {g o : Nat} {t : TypeId} {vs rest us : List Value},w.heap[g]? = some (.cells (vs ++ rest).toArray t (0,0))→(∀ i u,us[i]? = some u→vs[o + i]? = some u)→∀ i u,us[i]? = some u→w.cell? ((⟨g,o,none⟩ : Addr).add i) = some u:=by
  intro g o t vs rest us hg hus i u hu
  have h1:=hus i u hu
  have h2 : o + i < vs.length:=(List.getElem?_eq_some_iff.1 h1).1
  rw [addr_add]
  simp only [World.cell?,hg]
  simp only [Option.isSome_none,Bool.false_eq_true,if_false,List.getElem?_toArray]
  rw [List.getElem?_append_left h2];exact h1
 unfold firstA at h
 split at h
 ·split at h
  ·omega
  ·cases h
 ·simp only [Option.bind_eq_some_iff] at h
  obtain ⟨ds,hg,h⟩:=h
  split at h
  ·simp only [Option.some.injEq] at h;subst h
   obtain ⟨g,q,t,vs,rest,he,hb,hvs⟩:=rd_at hs hg
   simp only [conc,he,Option.map_some,Option.some.injEq,Value.slice.injEq] at hx
   obtain ⟨rfl,_,_⟩:=hx
   refine ⟨_,_,rfl,concL_take (concL_drop hvs _) _,cell hb fun i u hu=>?_⟩
   rw [List.getElem?_take] at hu
   split at hu
   ·rw [List.getElem?_drop] at hu;exact hu
   ·cases hu
  ·cases h
 ·simp only [Option.bind_eq_some_iff] at h
  obtain ⟨ds,hg,h⟩:=h
  split at h
  ·simp only [Option.some.injEq] at h;subst h
   obtain ⟨g,q,t,vs,rest,he,hb,hvs⟩:=rd_at hs hg
   simp only [conc,he,Option.map_some,Option.some.injEq,Value.slice.injEq] at hx
   obtain ⟨rfl,_,_⟩:=hx
   refine ⟨_,_,rfl,concL_take hvs _,cell hb fun i u hu=>?_⟩
   rw [List.getElem?_take] at hu
   split at hu
   ·rw [Nat.zero_add];exact hu
   ·cases hu
  ·cases h
 ·cases h
noncomputable def rdG {α : Type} (sz : Nat) (dec : List AV→Option (List α)) (s : St) (v : AV) : Option (List α):=
 if capOk sz s v then (lenSl v).bind fun n=>if Nat.ble n 1000000 then (firstA (n * sz) v s).bind fun cs=>(dec cs).bind fun xs=>if Nat.beq xs.length n then some xs else none else none else none
theorem rdG_ok {α : Type} {d : Kd α} {e : Env} {s : St} {w : World} (hs : Sim e s w) {dec : List AV→Option (List α)} (hsz : 0 < d.sz)
 (hdec : ∀ cs xs vs,dec cs = some xs→concL e cs = some vs→∀ j p,xs[j]? = some p→d.K w p ((vs.drop (j * d.sz)).take d.sz))
 {v : AV} {xs : List α} {x : Value} (h : rdG d.sz dec s v = some xs) (hx : conc e v = some x) : ∃ A c,x = .slice A xs.length c∧xs.length≤c∧d.C w A xs.length xs:=by
 unfold rdG at h
 split at h
 case isFalse=>cases h
 rename_i hcap
 simp only [Option.bind_eq_some_iff] at h
 obtain ⟨n,hn,h⟩:=h
 split at h
 case isFalse=>cases h
 rename_i hle
 simp only [Option.bind_eq_some_iff] at h
 obtain ⟨cs,hcs,xs',hxs,h⟩:=h
 split at h
 case isFalse=>cases h
 rename_i hlen
 cases h
 have hlen : xs.length = n:=Nat.eq_of_beq_eq_true hlen
 subst hlen
 obtain ⟨_,A,c,rfl⟩:=lenSl_run hn hx
 refine ⟨A,c,rfl,capOk_le hs (n:=0) hcap hx,rfl,by have:=Nat.le_of_ble_eq_true hle;omega,fun h0=>?_⟩
 obtain ⟨ad,vs,rfl,hvs,hcell⟩:=first_cells hs hcs hx (Nat.mul_pos h0 hsz)
 refine ⟨ad,rfl,fun j p hj=>⟨_,d.K_len (hdec cs xs vs hxs hvs j p hj),hdec cs xs vs hxs hvs j p hj,fun i u hu=>?_⟩⟩
 rw [List.getElem?_take] at hu
 split at hu
 ·rw [List.getElem?_drop] at hu
  exact hcell _ u hu
 ·cases hu
def intsA : List AV→Option (List Int)
 | []=>some []
 | .int .i64 a :: l=>(intsA l).map (a :: ·)
 | _=>none
theorem intsA_eq : ∀ {cs : List AV} {xs : List Int},intsA cs = some xs→cs = xs.map (.int .i64)
 | [],_,h=>by cases h;rfl
 | a :: l,xs,h=>by
  unfold intsA at h
  split at h
  ·cases ‹_ :: _ = []›
  ·rename_i heq;cases heq
   simp only [Option.map_eq_some_iff] at h
   obtain ⟨ys,h1,rfl⟩:=h
   rw [intsA_eq h1];rfl
  ·cases h
theorem concL_ints (e : Env) : ∀ xs : List Int,concL e (xs.map (.int .i64)) = some (xs.map (Value.int .i64))
 | []=>rfl
 | x :: xs=>by simp [concL,conc,concL_ints e xs]
noncomputable def rdInts : St→AV→Option (List Int):=rdG 1 intsA
theorem rdInts_ok {e : Env} {s : St} {w : World} (hs : Sim e s w) {v : AV} {xs : List Int} {x : Value} (h : rdInts s v = some xs) (hx : conc e v = some x) : ∃ A c,x = .slice A xs.length c∧xs.length≤c∧(Kd.int .i64).C w A xs.length xs:=by
 refine rdG_ok (d:=Kd.int .i64) hs (by show 0 < 1;omega) (fun cs xs vs h1 h2 j p hj=>?_) h hx
 rw [intsA_eq h1,concL_ints] at h2;cases h2
 show ((xs.map (Value.int .i64)).drop (j * 1)).take 1 = [.int .i64 p]
 have : (xs.map (Value.int .i64))[j * 1]? = some (.int .i64 p):=by simp [hj]
 rw [List.drop_eq_getElem?_toList_append]
 rw [this];rfl
theorem grow {e : Env} {s : St} {w w' : World} (h : Sim e s w) (hb : Below w.heap.size w w') : Sim e s w'∧Goes e s w e s w':=by
 refine ⟨⟨fun n x hx=>?_,h.inj,fun n b q hn=>Nat.lt_of_lt_of_le (h.bound n b q hn) hb.size⟩,⟨Env.le.refl e,fun _ h=>.inl h,fun _ _ h=>h,fun _ _ h=>h,fun b hb' _=>hb.block b hb',hb.size,hb.os,hb.tape,hb.output,fun _ _=>rfl,fun _ h=>h,Nat.le_refl _⟩⟩
 obtain ⟨b,q,ob,he,hw,hr⟩:=h.at_ n x hx
 exact ⟨b,q,ob,he,(hb.block b (h.bound n b q he)).trans hw,hr⟩
theorem endsC {P : Program} {f : FuncId} {xs : Array Value} {w : World} {R : Ending→World→Prop} (h : Calls P f xs w R) (c : Frame) (cs : List Frame) :
 ∃ e w',R e w'∧∀ v,e = .returned v→Steps P (lone (Frame.enter P f xs .normal) (c :: cs) w) (lone (c.finish v) cs w'):=by
 obtain ⟨e,w',fr,hR,hc,_,hl⟩:=h (c :: cs)
 refine ⟨e,w',hR,fun v hv=>?_⟩
 subst hv
 exact Steps.trans hc (.one (step_leave_returned hl))
end Go.Abs
namespace Go.Proofs.YtclkbedbocnpkaaGreatDoor.C
open Go.RowKit Go.Abs Go.Proofs.YtclkbedbocnpkaaGreatDoorW.PrintWords Go.Proofs.YtclkbedbocnpkaaGreatDoorW.PrintLast Go.Proofs.YtclkbedbocnpkaaGreatDoorW.PrintMore
set_option linter.unusedVariables false
set_option linter.unusedSimpArgs false
set_option maxHeartbeats 16000000
set_option maxRecDepth 100000
def decPts : List AV→Option (List S37)
 | []=>some []
 | .int .i64 a :: .int .i64 b :: .int .i64 c :: l=>(decPts l).map (⟨⟨a,b⟩,c⟩ :: ·)
 | _=>none
theorem decPts_eq : ∀ {cs : List AV} {xs : List S37} {e : Env} {vs : List Value},decPts cs = some xs→concL e cs = some vs→∀ (j : Nat) p,xs[j]? = some p→(vs.drop (j * 3)).take 3 = [.int .i64 p.f0.f0,.int .i64 p.f0.f1,.int .i64 p.f1]
 | [],_,e,vs,h,hv,j,p,hj=>by cases h;simp at hj
 | a :: l,xs,e,vs,h,hv,j,p,hj=>by
  unfold decPts at h
  split at h
  ·cases ‹_ :: _ = []›
  ·rename_i heq;cases heq
   simp only [Option.map_eq_some_iff] at h
   obtain ⟨ys,h1,rfl⟩:=h
   simp only [concL,conc,Option.bind_some,Option.map_eq_some_iff] at hv
   obtain ⟨_,⟨_,⟨zs,hz,rfl⟩,rfl⟩,rfl⟩:=hv
   cases j with
   | zero=>cases hj;rfl
   | succ j=>rw [show (j + 1) * 3 = j * 3 + 3 by omega];exact decPts_eq h1 hz j p (by simpa using hj)
  ·cases h
def decChs : List AV→Option (List S65)
 | []=>some []
 | .int .i64 a :: .int .i64 b :: .int .i64 c :: .bool d :: l=>(decChs l).map (⟨a,b,c,d⟩ :: ·)
 | _=>none
theorem decChs_eq : ∀ {cs : List AV} {xs : List S65} {e : Env} {vs : List Value},decChs cs = some xs→concL e cs = some vs→∀ (j : Nat) p,xs[j]? = some p→(vs.drop (j * 4)).take 4 = [.int .i64 p.f0,.int .i64 p.f1,.int .i64 p.f2,.bool p.f3]
 | [],_,e,vs,h,hv,j,p,hj=>by cases h;simp at hj
 | a :: l,xs,e,vs,h,hv,j,p,hj=>by
  unfold decChs at h
  split at h
  ·cases ‹_ :: _ = []›
  ·rename_i heq;cases heq
   simp only [Option.map_eq_some_iff] at h
   obtain ⟨ys,h1,rfl⟩:=h
   simp only [concL,conc,Option.bind_some,Option.map_eq_some_iff] at hv
   obtain ⟨_,⟨_,⟨_,⟨zs,hz,rfl⟩,rfl⟩,rfl⟩,rfl⟩:=hv
   cases j with
   | zero=>cases hj;rfl
   | succ j=>rw [show (j + 1) * 4 = j * 4 + 4 by omega];exact decChs_eq h1 hz j p (by simpa using hj)
  ·cases h
noncomputable def rdPts : St→AV→Option (List S37):=rdG 3 decPts
noncomputable def rdChs : St→AV→Option (List S65):=rdG 4 decChs
theorem rdPts_ok {e : Env} {s : St} {w : World} (hs : Sim e s w) {v : AV} {xs : List S37} {x : Value} (h : rdPts s v = some xs) (hx : conc e v = some x) : ∃ A c,x = .slice A xs.length c∧xs.length≤c∧Kd.C k37 w A xs.length xs:=
 rdG_ok (d:=k37) hs (by show 0 < 3;omega) (fun cs xs vs h1 h2 j p hj=>by
  show k37.K w p ((vs.drop (j * 3)).take 3)
  rw [decPts_eq h1 h2 j p hj];exact k37_mk w p) h hx
theorem rdChs_ok {e : Env} {s : St} {w : World} (hs : Sim e s w) {v : AV} {xs : List S65} {x : Value} (h : rdChs s v = some xs) (hx : conc e v = some x) : ∃ A c,x = .slice A xs.length c∧xs.length≤c∧Kd.C k65 w A xs.length xs:=
 rdG_ok (d:=k65) hs (by show 0 < 4;omega) (fun cs xs vs h1 h2 j p hj=>by
  show k65.K w p ((vs.drop (j * 4)).take 4)
  rw [decChs_eq h1 h2 j p hj];exact k65_mk w p) h hx
noncomputable def surelyG (args : List AV) (s : St) : Option (Rt × St):=
 match args with
 | [.agg [p,c],o]=>(rdPts s p).bind fun ps=>(rdChs s c).bind fun cs=>(rdInts s o).bind fun op=>(ga_surely.f 400 ps cs op).bind fun r=>some (.ret (.bool r),s)
 | _=>none
noncomputable def gateHook : Hook:=fun f=>if Nat.beq f 65 then some surelyG else none
theorem surelyG_ok {args : List AV} {s : St} {r : Rt} {s' : St} (h : surelyG args s = some (r,s')) {e : Env} {w : World} (hs : Sim e s w) (hf : Free e s.next s'.next) {xs : List Value} (hxs : concL e args = some xs) (c : Frame) (cs : List Frame) :
 ∃ e' w',Sim e' s' w'∧Goes e s w e' s' w'∧EndsAt Tryz.prog (lone (Frame.enter Tryz.prog 65 xs.toArray .normal) (c :: cs) w) c cs e' r w':=by
 unfold surelyG at h
 split at h
 case h_2=>cases h
 rename_i p q o
 simp only [Option.bind_eq_some_iff] at h
 obtain ⟨ps,hps,qs,hqs,os,hos,rr,hr,h⟩:=h
 cases h
 simp only [concL,conc,Option.bind_eq_some_iff,Option.map_eq_some_iff,Option.some.injEq] at hxs
 obtain ⟨_,⟨_,⟨xp,hxp,_,⟨xq,hxq,_,rfl,rfl⟩,rfl⟩,rfl⟩,_,⟨xo,hxo,_,rfl,rfl⟩,rfl⟩:=hxs
 obtain ⟨A0,c0,rfl,hc0,hC0⟩:=rdPts_ok hs hps hxp
 obtain ⟨A1,c1,rfl,hc1,hC1⟩:=rdChs_ok hs hqs hxq
 obtain ⟨A2,c2,rfl,hc2,hC2⟩:=rdInts_ok hs hos hxo
 obtain ⟨en,w',⟨rfl,hB⟩,hst⟩:=endsC (ga_surely.calls 400 A0 c0 ps A1 c1 qs A2 c2 os rr w hC0 hc0 hC1 hc1 hC2 hc2 hr) c cs
 obtain ⟨hg1,hg2⟩:=grow hs hB
 exact ⟨e,w',hg1,hg2,_,rfl,hst _ rfl⟩
theorem gateHook_ok : HookOk Tryz.prog gateHook:=by
 intro f g hg args s r s' h e w hs hf xs hxs c cs
 unfold gateHook at hg
 split at hg
 ·rename_i hb;cases hg;cases Nat.eq_of_beq_eq_true hb;exact surelyG_ok h hs hf hxs c cs
 ·cases hg
end Go.Proofs.YtclkbedbocnpkaaGreatDoor.C
namespace Go.Proofs.YtclkbedbocnpkaaGreatDoor.C
open Go Go.Abs Go.RowKit
set_option linter.unusedVariables false
set_option linter.unusedSimpArgs false
set_option maxHeartbeats 16000000
set_option maxRecDepth 100000
abbrev I (n : Int) : AV:=.int .i64 n
abbrev U : AV:=.tup []
abbrev L {α : Type} : T4 α:=.leaf
abbrev N {α : Type} (v : α) (a b c d : T4 α) : T4 α:=.node v a b c d
abbrev N0 {α : Type} (v : α) : T4 α:=.node v .leaf .leaf .leaf .leaf
abbrev N1 {α : Type} (v : α) (a : T4 α) : T4 α:=.node v a .leaf .leaf .leaf
abbrev N2 {α : Type} (v : α) (a : T4 α) : T4 α:=.node v .leaf a .leaf .leaf
abbrev N3 {α : Type} (v : α) (a : T4 α) : T4 α:=.node v .leaf .leaf a .leaf
abbrev N4 {α : Type} (v : α) (a : T4 α) : T4 α:=.node v .leaf .leaf .leaf a
noncomputable def knownCall : CallF:=fCall Tryz.prog Go.Proofs.YtclkbedbocnpkaaGreatDoor.C.gateHook 100000 60
noncomputable def kt0 : FT:=ofL []
noncomputable def kg0 : Sg:=sgOf ⟨.leaf,0,[]⟩
noncomputable def kt1 : FT:=(N U (N U L (N1 U (N0 (I 0))) (N (.bool true) (N0 (I 0)) L L L) L) (N U L (N1 U (N0 (I 0))) (N (I 2) (N0 (.bool false)) L L L) L) (N U L (N (I 60) (N0 (I 0)) L L L) (N0 (I 3)) L) (N2 U (N (.opn 1095 4) (N0 (I 0)) L L L)))
noncomputable def kg1 : Sg:=sgOf ⟨(N none (N (some (.cells 37 none [(I 100),(I 120),(I 0),(I 0),(I 0),(I 0),(I 0),(I 0),(I 40),(I 0),(I 0),(I 50)])) L L (N2 none (N0 (some (.cells 65 none [(I 0),(I 1),(I 100),(.bool true),(I 0),(I 1),(I 95),(.bool true),(I 1),(I 2),(I 50),(.bool false),(I 1),(I 3),(I 60),(.bool true),(I 2),(I 3),(I 30),(.bool true)])))) (N none (N1 none (N4 none (N0 (some (.cells 3 none [(I 0),(I 3)]))))) (N none (N2 none (N0 (some (.cells 37 none [(I 80),(I 120),(I 0),(I 0),(I 0),(I 0),(I 0),(I 0),(I 40),(I 0),(I 0),(I 50)])))) L L (N1 none (N0 (some (.cells 65 none [(I 0),(I 1),(I 100),(.bool true),(I 0),(I 1),(I 95),(.bool true),(I 1),(I 2),(I 50),(.bool false),(I 1),(I 3),(I 60),(.bool true),(I 2),(I 3),(I 30),(.bool true)]))))) L L)) (N (some (.cells 65 none [(I 0),(I 1),(I 100),(.bool true),(I 0),(I 1),(I 95),(.bool true),(I 1),(I 2),(I 50),(.bool false),(I 1),(I 3),(I 60),(.bool true),(I 2),(I 3),(I 30),(.bool true)])) L L L (N2 none (N none (N2 none (N0 (some (.cells 65 none [(I 0),(I 1),(I 100),(.bool true),(I 0),(I 1),(I 95),(.bool true),(I 1),(I 2),(I 50),(.bool false),(I 1),(I 3),(I 60),(.bool true),(I 2),(I 3),(I 30),(.bool true)])))) L L (N1 none (N0 (some (.cells 3 none [(I 0),(I 3)]))))))) (N (some (.cells 3 none [(I 0),(I 3)])) (N4 none (N4 none (N3 none (N0 (some (.cells 3 (some 1) [(I 0),(I 1),(I 2),(I 3)])))))) L (N none (N1 none (N4 none (N0 (some (.cells 37 none [(I 100),(I 120),(I 0),(I 0),(I 0),(I 0),(I 0),(I 0),(I 40),(I 0),(I 0),(I 50)]))))) (N0 (some (.cells 3 none [(I 0),(I 3)]))) L L) (N2 none (N4 none (N1 none (N0 (some (.cells 3 none [(I 90),(I 0),(I 40),(I 50),(I 0)]))))))) (N none L (N2 none (N0 (some (.cells 37 none [(I 80),(I 120),(I 0),(I 0),(I 0),(I 0),(I 0),(I 0),(I 40),(I 0),(I 0),(I 50)])))) (N none (N1 none (N4 none (N0 (some (.cells 65 none [(I 0),(I 1),(I 100),(.bool true),(I 0),(I 1),(I 95),(.bool true),(I 1),(I 2),(I 50),(.bool false),(I 1),(I 3),(I 60),(.bool true),(I 2),(I 3),(I 30),(.bool true)]))))) (N4 none (N1 none (N0 (some (.cells 37 none [(I 100),(I 120),(I 0),(I 0),(I 0),(I 0),(I 0),(I 0),(I 40),(I 0),(I 0),(I 50)]))))) L L) (N2 none (N1 none (N2 none (N0 (some (.cells 3 none [(I 0),(I 3)])))))))),1989,[1121,1120,1119,1095,628,626,625,563,562,561,560,47,45,44,3,2,1]⟩
noncomputable def kt2 : FT:=(N U (N U (N (.opn 3553 2) (N0 (I 0)) L L L) (N (.opn 2262 1) (N0 (I 0)) L L L) (N (.bool true) (N0 (I 0)) L L L) L) (N U (N1 U (N0 (I 0))) (N (.opn 2094 2) (N0 (I 0)) L L L) (N (I 2) (N0 (.bool false)) L L L) L) (N U (N (.opn 2840 2) (N0 (I 0)) L L L) (N (I 60) (N0 (I 0)) L L L) (N0 (I 3)) L) (N (I 4) (N (.opn 2511 2) (N0 (I 0)) L L L) (N (.opn 1095 4) (N0 (I 0)) L L L) L (N0 (I 0))))
noncomputable def kg2 : Sg:=sgOf ⟨(N none (N (some (.cells 37 none [(I 100),(I 120),(I 0),(I 0),(I 0),(I 0),(I 0),(I 0),(I 40),(I 0),(I 0),(I 50)])) (N2 none (N3 none (N1 none (N2 none (N0 (some (.cells 37 none [(I 100),(I 120),(I 0),(I 0),(I 0),(I 0),(I 0),(I 0),(I 40),(I 0),(I 0),(I 50)]))))))) (N4 none (N4 none (N4 none (N2 none (N0 (some (.cells 3 (some 1) [(I 1),(I 3)]))))))) (N2 none (N0 (some (.cells 65 none [(I 0),(I 1),(I 100),(.bool true),(I 0),(I 1),(I 95),(.bool true),(I 1),(I 2),(I 50),(.bool false),(I 1),(I 3),(I 60),(.bool true),(I 2),(I 3),(I 30),(.bool true)])))) (N none (N none (N4 none (N0 (some (.cells 3 none [(I 0),(I 3)])))) L (N1 none (N3 none (N0 (some (.cells 26 (some 1) [(.opn 3401 2),(.opn 3551 2)]))))) L) (N none (N2 none (N0 (some (.cells 37 none [(I 80),(I 120),(I 0),(I 0),(I 0),(I 0),(I 0),(I 0),(I 40),(I 0),(I 0),(I 50)])))) L L (N none (N0 (some (.cells 65 none [(I 0),(I 1),(I 100),(.bool true),(I 0),(I 1),(I 95),(.bool true),(I 1),(I 2),(I 50),(.bool false),(I 1),(I 3),(I 60),(.bool true),(I 2),(I 3),(I 30),(.bool true)]))) (N2 none (N0 (some (.cells 65 none [(I 0),(I 1),(I 100),(.bool true),(I 0),(I 1),(I 95),(.bool true),(I 1),(I 2),(I 50),(.bool false),(I 1),(I 3),(I 60),(.bool true),(I 2),(I 3),(I 30),(.bool true)])))) (N1 none (N0 (some (.cells 65 none [(I 0),(I 1),(I 100),(.bool true),(I 0),(I 1),(I 95),(.bool true),(I 1),(I 2),(I 50),(.bool false),(I 1),(I 3),(I 60),(.bool true),(I 2),(I 3),(I 30),(.bool true)])))) L)) (N3 none (N4 none (N1 none (N0 (some (.cells 3 none [(I 0)])))))) L)) (N (some (.cells 65 none [(I 0),(I 1),(I 100),(.bool true),(I 0),(I 1),(I 95),(.bool true),(I 1),(I 2),(I 50),(.bool false),(I 1),(I 3),(I 60),(.bool true),(I 2),(I 3),(I 30),(.bool true)])) (N none (N3 none (N4 none (N1 none (N0 (some (.cells 3 (some 1) [(I 3)])))))) (N3 none (N1 none (N2 none (N0 (some (.cells 65 none [(I 0),(I 1),(I 100),(.bool true),(I 0),(I 1),(I 95),(.bool true),(I 1),(I 2),(I 50),(.bool false),(I 1),(I 3),(I 60),(.bool true),(I 2),(I 3),(I 30),(.bool true)])))))) L (N2 none (N3 none (N1 none (N0 (some (.cells 37 none [(I 100),(I 120),(I 0),(I 0),(I 0),(I 0),(I 0),(I 0),(I 40),(I 0),(I 0),(I 50)]))))))) L (N none L (N4 none (N3 none (N1 none (N0 (some (.cells 3 (some 1) [(I 0),(I 3)])))))) (N3 none (N4 none (N1 none (N0 (some (.cells 37 none [(I 100),(I 120),(I 0),(I 0),(I 0),(I 0),(I 0),(I 0),(I 40),(I 0),(I 0),(I 50)])))))) L) (N2 none (N none (N2 none (N0 (some (.cells 65 none [(I 0),(I 1),(I 100),(.bool true),(I 0),(I 1),(I 95),(.bool true),(I 1),(I 2),(I 50),(.bool false),(I 1),(I 3),(I 60),(.bool true),(I 2),(I 3),(I 30),(.bool true)])))) L L (N none (N0 (some (.cells 3 none [(I 0),(I 3)]))) (N2 none (N0 (some (.cells 3 none [(I 0),(I 3)])))) L L)))) (N (some (.cells 3 none [(I 0),(I 3)])) (N none L (N3 none (N1 none (N2 none (N0 (some (.cells 3 none [(I 0),(I 1)])))))) L (N none L (N3 none (N1 none (N0 (some (.cells 65 none [(I 0),(I 1),(I 100),(.bool true),(I 0),(I 1),(I 95),(.bool true),(I 1),(I 2),(I 50),(.bool false),(I 1),(I 3),(I 60),(.bool true),(I 2),(I 3),(I 30),(.bool true)]))))) L (N3 none (N0 (some (.cells 3 (some 1) [(I 0),(I 1),(I 2),(I 3)])))))) L (N none (N none (N4 none (N0 (some (.cells 37 none [(I 100),(I 120),(I 0),(I 0),(I 0),(I 0),(I 0),(I 0),(I 40),(I 0),(I 0),(I 50)])))) L (N1 none (N3 none (N0 (some (.cells 3 (some 1) [(I 0),(I 3)]))))) L) (N0 (some (.cells 3 none [(I 0),(I 3)]))) (N3 none (N4 none (N1 none (N0 (some (.cells 65 none [(I 0),(I 1),(I 100),(.bool true),(I 0),(I 1),(I 95),(.bool true),(I 1),(I 2),(I 50),(.bool false),(I 1),(I 3),(I 60),(.bool true),(I 2),(I 3),(I 30),(.bool true)])))))) (N2 none (N1 none (N2 none (N0 (some (.cells 3 (some 1) [(I 0),(I 1)]))))))) (N2 none (N4 none (N none (N0 (some (.cells 3 none [(I 90),(I 0),(I 40),(I 50),(I 0)]))) (N2 none (N0 (some (.cells 3 none [(I 0),(I 1)])))) L L)))) (N none (N1 none (N4 none (N2 none (N2 none (N0 (some (.cells 3 (some 1) [(I 1),(I 2)]))))))) (N2 none (N0 (some (.cells 37 none [(I 80),(I 120),(I 0),(I 0),(I 0),(I 0),(I 0),(I 0),(I 40),(I 0),(I 0),(I 50)])))) (N none (N1 none (N4 none (N0 (some (.cells 65 none [(I 0),(I 1),(I 100),(.bool true),(I 0),(I 1),(I 95),(.bool true),(I 1),(I 2),(I 50),(.bool false),(I 1),(I 3),(I 60),(.bool true),(I 2),(I 3),(I 30),(.bool true)]))))) (N4 none (N none (N0 (some (.cells 37 none [(I 100),(I 120),(I 0),(I 0),(I 0),(I 0),(I 0),(I 0),(I 40),(I 0),(I 0),(I 50)]))) (N2 none (N0 (some (.cells 37 none [(I 100),(I 120),(I 0),(I 0),(I 0),(I 0),(I 0),(I 0),(I 40),(I 0),(I 0),(I 50)])))) (N1 none (N0 (some (.cells 37 none [(I 100),(I 120),(I 0),(I 0),(I 0),(I 0),(I 0),(I 0),(I 40),(I 0),(I 0),(I 50)])))) L)) (N3 none (N4 none (N1 none (N0 (some (.cells 3 none [(I 0),(I 3)])))))) L) (N2 none (N1 none (N2 none (N0 (some (.cells 3 none [(I 0),(I 3)])))))))),3554,[3551,3401,3553,2867,2866,2865,2864,2840,2535,2534,2533,2511,2305,2304,2303,2302,2262,2097,2096,2094,1991,1990,1121,1120,1119,1095,628,626,625,563,562,561,560,47,45,44,3,2,1]⟩
noncomputable def kt3 : FT:=(N (.ptr 4157 0) (N U (N (.opn 3553 2) (N0 (I 0)) L L L) (N (.opn 2262 1) (N0 (I 0)) L L L) (N (.bool true) (N0 (I 0)) L L L) (N0 (I 0))) (N (.opn 4049 3) (N1 U (N0 (I 0))) (N (.opn 2094 2) (N0 (I 0)) L L L) (N (I 2) (N0 (.bool false)) L L L) (N0 (I 0))) (N (.opn 3710 2) (N (.opn 2840 2) (N0 (I 0)) L L L) (N (I 60) (N0 (I 0)) L L L) (N0 (I 3)) (N0 (I 0))) (N (I 4) (N (.opn 2511 2) (N0 (I 0)) L L L) (N (.opn 1095 4) (N0 (I 0)) L L L) (N0 (.bool false)) (N0 (I 0))))
noncomputable def kg3 : Sg:=sgOf ⟨(N none (N (some (.cells 37 none [(I 100),(I 120),(I 0),(I 0),(I 0),(I 0),(I 0),(I 0),(I 40),(I 0),(I 0),(I 50)])) (N2 none (N none L (N2 none (N3 none (N0 (some (.cells 3 none [(I 0),(I 1),(I 4)]))))) (N1 none (N none L (N0 (some (.cells 37 none [(I 100),(I 120),(I 0),(I 0),(I 0),(I 0),(I 0),(I 0),(I 40),(I 0),(I 0),(I 50)]))) (N0 (some (.cells 3 none [(I 0),(I 1),(I 4)]))) L)) L)) (N4 none (N4 none (N4 none (N2 none (N0 (some (.cells 3 (some 1) [(I 1),(I 3)]))))))) (N none L (N0 (some (.cells 65 none [(I 0),(I 1),(I 100),(.bool true),(I 0),(I 1),(I 95),(.bool true),(I 1),(I 2),(I 50),(.bool false),(I 1),(I 3),(I 60),(.bool true),(I 2),(I 3),(I 30),(.bool true)]))) (N4 none (N3 none (N3 none (N0 (some (.cells 25 none [(.opn 4115 2),(.opn 4126 1)])))))) L) (N none (N none (N4 none (N0 (some (.cells 3 none [(I 0),(I 3)])))) L (N1 none (N3 none (N0 (some (.cells 26 (some 1) [(.opn 3401 2),(.opn 3551 2)]))))) L) (N none (N2 none (N0 (some (.cells 37 none [(I 80),(I 120),(I 0),(I 0),(I 0),(I 0),(I 0),(I 0),(I 40),(I 0),(I 0),(I 50)])))) L L (N none (N0 (some (.cells 65 none [(I 0),(I 1),(I 100),(.bool true),(I 0),(I 1),(I 95),(.bool true),(I 1),(I 2),(I 50),(.bool false),(I 1),(I 3),(I 60),(.bool true),(I 2),(I 3),(I 30),(.bool true)]))) (N2 none (N0 (some (.cells 65 none [(I 0),(I 1),(I 100),(.bool true),(I 0),(I 1),(I 95),(.bool true),(I 1),(I 2),(I 50),(.bool false),(I 1),(I 3),(I 60),(.bool true),(I 2),(I 3),(I 30),(.bool true)])))) (N1 none (N0 (some (.cells 65 none [(I 0),(I 1),(I 100),(.bool true),(I 0),(I 1),(I 95),(.bool true),(I 1),(I 2),(I 50),(.bool false),(I 1),(I 3),(I 60),(.bool true),(I 2),(I 3),(I 30),(.bool true)])))) L)) (N3 none (N4 none (N1 none (N0 (some (.cells 3 none [(I 0)])))))) (N2 none (N3 none (N3 none (N0 (some (.cells 3 (some 1) [(I 0),(I 1),(I 0)])))))))) (N (some (.cells 65 none [(I 0),(I 1),(I 100),(.bool true),(I 0),(I 1),(I 95),(.bool true),(I 1),(I 2),(I 50),(.bool false),(I 1),(I 3),(I 60),(.bool true),(I 2),(I 3),(I 30),(.bool true)])) (N none (N3 none (N4 none (N1 none (N0 (some (.cells 3 (some 1) [(I 3)])))))) (N3 none (N1 none (N2 none (N0 (some (.cells 65 none [(I 0),(I 1),(I 100),(.bool true),(I 0),(I 1),(I 95),(.bool true),(I 1),(I 2),(I 50),(.bool false),(I 1),(I 3),(I 60),(.bool true),(I 2),(I 3),(I 30),(.bool true)])))))) L (N2 none (N3 none (N1 none (N0 (some (.cells 37 none [(I 100),(I 120),(I 0),(I 0),(I 0),(I 0),(I 0),(I 0),(I 40),(I 0),(I 0),(I 50)]))))))) L (N none (N4 none (N3 none (N3 none (N0 (some (.cells 65 (some 4) [(I 0),(I 1),(I 4),(.bool true)])))))) (N4 none (N3 none (N1 none (N0 (some (.cells 3 (some 1) [(I 0),(I 3)])))))) (N none (N2 none (N3 none (N0 (some (.cells 3 (some 1) [(I 0),(I 4)]))))) L (N4 none (N1 none (N0 (some (.cells 37 none [(I 100),(I 120),(I 0),(I 0),(I 0),(I 0),(I 0),(I 0),(I 40),(I 0),(I 0),(I 50)]))))) L) L) (N2 none (N none (N2 none (N0 (some (.cells 65 none [(I 0),(I 1),(I 100),(.bool true),(I 0),(I 1),(I 95),(.bool true),(I 1),(I 2),(I 50),(.bool false),(I 1),(I 3),(I 60),(.bool true),(I 2),(I 3),(I 30),(.bool true)])))) L L (N none (N0 (some (.cells 3 none [(I 0),(I 3)]))) (N2 none (N0 (some (.cells 3 none [(I 0),(I 3)])))) L L)))) (N (some (.cells 3 none [(I 0),(I 3)])) (N none L (N3 none (N1 none (N2 none (N0 (some (.cells 3 none [(I 0),(I 1)])))))) L (N none L (N3 none (N1 none (N0 (some (.cells 65 none [(I 0),(I 1),(I 100),(.bool true),(I 0),(I 1),(I 95),(.bool true),(I 1),(I 2),(I 50),(.bool false),(I 1),(I 3),(I 60),(.bool true),(I 2),(I 3),(I 30),(.bool true)]))))) L (N3 none (N0 (some (.cells 3 (some 1) [(I 0),(I 1),(I 2),(I 3)])))))) L (N none (N none (N4 none (N0 (some (.cells 37 none [(I 100),(I 120),(I 0),(I 0),(I 0),(I 0),(I 0),(I 0),(I 40),(I 0),(I 0),(I 50)])))) L (N1 none (N3 none (N0 (some (.cells 3 (some 1) [(I 0),(I 3)]))))) L) (N0 (some (.cells 3 none [(I 0),(I 3)]))) (N3 none (N4 none (N1 none (N0 (some (.cells 65 none [(I 0),(I 1),(I 100),(.bool true),(I 0),(I 1),(I 95),(.bool true),(I 1),(I 2),(I 50),(.bool false),(I 1),(I 3),(I 60),(.bool true),(I 2),(I 3),(I 30),(.bool true)])))))) (N2 none (N1 none (N2 none (N0 (some (.cells 3 (some 1) [(I 0),(I 1)]))))))) (N none (N none L (N2 none (N3 none (N0 (some (.cells 37 none [(I 100),(I 120),(I 0),(I 0),(I 0),(I 0),(I 0),(I 0),(I 40),(I 0),(I 0),(I 50)]))))) (N1 none (N3 none (N0 (some (.cells 37 none [(I 100),(I 120),(I 0),(I 0),(I 0),(I 0),(I 0),(I 0),(I 40),(I 0),(I 0),(I 50)]))))) L) (N4 none (N none (N0 (some (.cells 3 none [(I 90),(I 0),(I 40),(I 50),(I 0)]))) (N2 none (N0 (some (.cells 3 none [(I 0),(I 1)])))) L L)) L (N3 none (N3 none (N3 none (N0 (some (.cells 37 (some 3) [(I 5),(I 5),(I 0),(I 0),(I 0),(I 3)])))))))) (N none (N1 none (N4 none (N2 none (N2 none (N0 (some (.cells 3 (some 1) [(I 1),(I 2)]))))))) (N2 none (N0 (some (.cells 37 none [(I 80),(I 120),(I 0),(I 0),(I 0),(I 0),(I 0),(I 0),(I 40),(I 0),(I 0),(I 50)])))) (N none (N1 none (N4 none (N0 (some (.cells 65 none [(I 0),(I 1),(I 100),(.bool true),(I 0),(I 1),(I 95),(.bool true),(I 1),(I 2),(I 50),(.bool false),(I 1),(I 3),(I 60),(.bool true),(I 2),(I 3),(I 30),(.bool true)]))))) (N4 none (N none (N0 (some (.cells 37 none [(I 100),(I 120),(I 0),(I 0),(I 0),(I 0),(I 0),(I 0),(I 40),(I 0),(I 0),(I 50)]))) (N2 none (N0 (some (.cells 37 none [(I 100),(I 120),(I 0),(I 0),(I 0),(I 0),(I 0),(I 0),(I 40),(I 0),(I 0),(I 50)])))) (N1 none (N0 (some (.cells 37 none [(I 100),(I 120),(I 0),(I 0),(I 0),(I 0),(I 0),(I 0),(I 40),(I 0),(I 0),(I 50)])))) L)) (N3 none (N4 none (N1 none (N0 (some (.cells 3 none [(I 0),(I 3)])))))) L) (N none (N none L (N2 none (N3 none (N0 (some (.cells 65 none [(I 0),(I 1),(I 100),(.bool true),(I 0),(I 1),(I 95),(.bool true),(I 1),(I 2),(I 50),(.bool false),(I 1),(I 3),(I 60),(.bool true),(I 2),(I 3),(I 30),(.bool true)]))))) (N1 none (N3 none (N0 (some (.cells 65 none [(I 0),(I 1),(I 100),(.bool true),(I 0),(I 1),(I 95),(.bool true),(I 1),(I 2),(I 50),(.bool false),(I 1),(I 3),(I 60),(.bool true),(I 2),(I 3),(I 30),(.bool true)]))))) L) (N1 none (N2 none (N0 (some (.cells 3 none [(I 0),(I 3)]))))) L L))),4158,[4157,4157,4126,4115,4049,3749,3748,3747,3710,3557,3556,3555,3551,3401,3553,2867,2866,2865,2864,2840,2535,2534,2533,2511,2305,2304,2303,2302,2262,2097,2096,2094,1991,1990,1121,1120,1119,1095,628,626,625,563,562,561,560,47,45,44,3,2,1]⟩
theorem ks0 : ((kcOf Tryz.prog 15).drop 0).seqs 6 = true:=by kernel_rfl
theorem kr0 (kx : KX) (k : KT) : warm 1 (runKX 100000 (((kcOf Tryz.prog 15).drop 0).take 6) ⟨Tryz.prog,knownCall,kx⟩ kt0 kg0 k) = k kt1 kg1:=by kernel_rfl
theorem ks1 : ((kcOf Tryz.prog 15).drop 6).seqs 5 = true:=by kernel_rfl
theorem kr1 (kx : KX) (k : KT) : warm 32 (runKX 99994 (((kcOf Tryz.prog 15).drop 6).take 5) ⟨Tryz.prog,knownCall,kx⟩ kt1 kg1 k) = k kt2 kg2:=by kernel_rfl
theorem ks2 : ((kcOf Tryz.prog 15).drop 11).seqs 4 = true:=by kernel_rfl
theorem kr2 (kx : KX) (k : KT) : warm 56 (runKX 99989 (((kcOf Tryz.prog 15).drop 11).take 4) ⟨Tryz.prog,knownCall,kx⟩ kt2 kg2 k) = k kt3 kg3:=by kernel_rfl
theorem klast : okTrue (warm 65 (from_ Tryz.prog knownCall 15 15 99985 kt3 kg3)) = true:=by kernel_rfl
theorem known_run : okTrue (runF Tryz.prog Go.Proofs.YtclkbedbocnpkaaGreatDoor.C.gateHook 100000 60 15 []) = true:=by
 rw [runF_from]
 rw [show from_ Tryz.prog (fCall Tryz.prog Go.Proofs.YtclkbedbocnpkaaGreatDoor.C.gateHook 100000 60) 15 0 100000 (ofL []) (sgOf ⟨.leaf,0,[]⟩) = from_ Tryz.prog knownCall 15 0 100000 kt0 kg0 from rfl]
 rw [show from_ Tryz.prog knownCall 15 0 100000 kt0 kg0 = from_ Tryz.prog knownCall 15 6 99994 kt1 kg1 from from_step (K:=99993) (m:=6) ks0 fun kx k=>(warm_eq 1 _).symm.trans (kr0 kx k)]
 rw [show from_ Tryz.prog knownCall 15 6 99994 kt1 kg1 = from_ Tryz.prog knownCall 15 11 99989 kt2 kg2 from from_step (K:=99988) (m:=5) ks1 fun kx k=>(warm_eq 32 _).symm.trans (kr1 kx k)]
 rw [show from_ Tryz.prog knownCall 15 11 99989 kt2 kg2 = from_ Tryz.prog knownCall 15 15 99985 kt3 kg3 from from_step (K:=99984) (m:=4) ks2 fun kx k=>(warm_eq 56 _).symm.trans (kr2 kx k)]
 exact (congrArg okTrue (warm_eq 65 _)).symm.trans klast
end Go.Proofs.YtclkbedbocnpkaaGreatDoor.C
namespace Go.Proofs.YtclkbedbocnpkaaGreatDoor.C
open Go Go.RowKit Go.Abs
set_option linter.unusedVariables false
set_option linter.unusedSimpArgs false
set_option maxHeartbeats 16000000
set_option maxRecDepth 100000
def l8_known.f : Option Bool:=some true
theorem l8_known.calls (r : Bool) (w : World) (h : l8_known.f = some r) : Calls Tryz.prog 15 #[] w fun e w'=>e = .returned (.bool r)∧Below w.heap.size w w':=by
 cases h
 exact calls_true gateHook_ok known_run w
theorem known_true : l8_known.f = some true:=by simp [l8_known.f]
end Go.Proofs.YtclkbedbocnpkaaGreatDoor.C
namespace Go.Proofs.YtclkbedbocnpkaaGreatDoor.C
open Go.RowKit Go.Proofs.YtclkbedbocnpkaaGreatDoorW.PrintWords Go.Proofs.YtclkbedbocnpkaaGreatDoorW.PrintLast Go.Proofs.YtclkbedbocnpkaaGreatDoorW.PrintMore
set_option linter.unusedVariables false
set_option linter.unusedSimpArgs false
set_option maxHeartbeats 16000000
set_option maxRecDepth 100000
def ga_Cut.j0 : Nat→List Int→Bool→List (S37)→List (S65)→Option (List Int × Int)
 | 0,_,_,_,_=>none
 | k + 1,x1,x16,x161000,x161001=>if x16 = true then (some (([] : List Int),2)) else ((gs_cut.f k x161000 x161001 x1 0).bind fun bt163=>(if bt163.2 = true then (some (bt163.1,0)) else (some (([] : List Int),5))))
def ga_Cut.f (k : Nat) (l0_0 : List (S37)) (l0_1 : List (S65)) (l1 : List Int) : Option (List Int × Int):=(ga_isNet.f k l0_0 l0_1).bind fun t161=>(if t161 = true then ((ga_areGates.f k l0_0 l0_1 l1).bind fun t162=>(ga_Cut.j0 k l1 (!t162) l0_0 l0_1)) else (ga_Cut.j0 k l1 true l0_0 l0_1))
theorem ga_Cut.calls (k : Nat) (A0_0 : Option Addr) (c0_0 : Nat) (l0_0 : List (S37)) (A0_1 : Option Addr) (c0_1 : Nat) (l0_1 : List (S65)) (A1 : Option Addr) (c1 : Nat) (l1 : List Int) (r1 : List Int) (r2 : Int) (w : World) (hr0_0 : Kd.C k37 w A0_0 l0_0.length l0_0) (hc0_0 : l0_0.length≤c0_0) (hr0_1 : Kd.C k65 w A0_1 l0_1.length l0_1) (hc0_1 : l0_1.length≤c0_1) (hr1 : Kd.C (Kd.int .i64) w A1 l1.length l1) (hc1 : l1.length≤c1) (h : ga_Cut.f k l0_0 l0_1 l1 = some (r1,r2)) :
 Calls Tryz.prog 23 #[.agg #[.slice A0_0 l0_0.length c0_0,.slice A0_1 l0_1.length c0_1],.slice A1 l1.length c1] w fun e w'=>∃ v0_ : Value,e = .returned (.tuple #[v0_,.int .i64 r2])∧Kd.R (Kd.int .i64) 3 w' w.heap.size (fun _=>True) v0_ r1∧Below w.heap.size w w':=by
 have hu25:=Tryz.underlying25
 have hu80:=Tryz.underlying80
 have HR0_0:=am hr0_0
 have HC0_0:=am hc0_0
 clear hr0_0 hc0_0
 have HR0_1:=am hr0_1
 have HC0_1:=am hc0_1
 clear hr0_1 hc0_1
 have HR1:=am hr1
 have HC1:=am hc1
 clear hr1 hc1
 have HB:=am (Below.refl w.heap.size w)
 have H : ((ga_isNet.f k l0_0 l0_1).bind fun t161=>(if t161 = true then ((ga_areGates.f k l0_0 l0_1 l1).bind fun t162=>(ga_Cut.j0 k l1 (!t162) l0_0 l0_1)) else (ga_Cut.j0 k l1 true l0_0 l0_1))) = some (r1,r2):=h
 clear h
 have HC3:=am H
 clear H
 go_enter Tryz.func23,Tryz.ntmps23
 go_upto_region 1 with (first | ((refine ga_dst (N:=2) rfl ?_);refine box_event rfl (N:=2) rfl (cs:=#[.slice A0_0 l0_0.length c0_0,.slice A0_1 l0_1.length c0_1]) (t:=25) ?hr ?_;(case hr=>go_simp;try rfl);intro gb160 hg w4 hbox hb;have BK160:=am (hbox);have GW160:=am (ge_new (HB.out) hg);have GE160:=am (ge_new (HB.out) hg);replace HB:=am (below_step (HB.out) hb);clear hb hbox hg))
 (try simp only [Act.put,List.setIfInBounds_toArray,List.set_cons_zero,List.set_cons_succ])
 go_cut [16] (fun v16 wc=>∃ (kq : Nat) (x16_2 : Bool),v16 = .bool x16_2∧Aside0 (ga_Cut.j0 kq l1 x16_2 l0_0 l0_1 = some (r1,r2))∧Aside0 (kq≤k)∧Aside0 (wc.heap[gb160]? = some (.cells #[(.slice A0_0 l0_0.length c0_0),(.slice A0_1 l0_1.length c0_1)] 25 (0,0)))∧Aside0 (Below w.heap.size w wc))
 case first =>
  have H:=HC3.out
  clear HC3
  replace H:=obm H
  obtain ⟨t161,A50,H⟩:=H
  replace H : (if t161 = true then ((ga_areGates.f k l0_0 l0_1 l1).bind fun t162=>(ga_Cut.j0 k l1 (!t162) l0_0 l0_1)) else (ga_Cut.j0 k l1 true l0_0 l0_1)) = some (r1,r2):=H
  have A5:=am A50
  clear A50
  by_cases c6 : t161 = true
  case neg =>
   replace c6:=Bool.eq_false_iff.mpr c6
   subst c6
   replace H : (ga_Cut.j0 k l1 true l0_0 l0_1) = some (r1,r2):=by rw [if_neg (show ¬ (false = true) by decide)] at H;exact H
   replace H':=am H
   obtain ⟨hcz12_0,hcz12_1⟩:=cO2 BK160.out
   go_wp2_with (first | ((with_reducible refine ga_callee (f:=55) rfl ?_);refine goesL_ (some 9) rfl rfl Tryz.func55 (by kernel_rfl) rfl #[.agg #[.slice A0_0 l0_0.length c0_0,.slice A0_1 l0_1.length c0_1]] rfl (by (try simp only [List.map_toArray,List.map_cons,List.map_nil]);first | done | rfl | (simp only [List.length_drop,List.length_take];rfl)) ?_;(refine (ga_isNet.calls k _ _ l0_0 _ _ l0_1 false _ ?side1 ?side2 ?side3 ?side4 A5.out).mono ?_);(case side1=>exact kC HR0_0.out HB.out);(case side2=>exact HC0_0.out);(case side3=>exact kC HR0_1.out HB.out);(case side4=>exact HC0_1.out);rintro e w13 ⟨rfl,hb⟩;refine ⟨_,rfl,?_⟩;replace BK160:=(kmv hb BK160);replace HB:=am (below_step (HB.out) hb);(try clear hb);(try clear hb2);(try clear hk);(try clear hi)))
   go_meet
   case rel=>exact ⟨_,(true),(by first | rfl | (simp;done) | (simp [*];done)),H',⟨by first | omega | exact Nat.le_refl _⟩,⟨BK160.out⟩,⟨HB.out⟩⟩
  subst c6
  replace H : ((ga_areGates.f k l0_0 l0_1 l1).bind fun t162=>(ga_Cut.j0 k l1 (!t162) l0_0 l0_1)) = some (r1,r2):=by rw [if_pos rfl] at H;exact H
  replace H:=obm H
  obtain ⟨t162,A70,H⟩:=H
  replace H : (ga_Cut.j0 k l1 (!t162) l0_0 l0_1) = some (r1,r2):=H
  have A7:=am A70
  clear A70
  replace H':=am H
  obtain ⟨hcz8_0,hcz8_1⟩:=cO2 BK160.out
  go_wp2_with (first | ((with_reducible refine ga_callee (f:=55) rfl ?_);refine goesL_ (some 9) rfl rfl Tryz.func55 (by kernel_rfl) rfl #[.agg #[.slice A0_0 l0_0.length c0_0,.slice A0_1 l0_1.length c0_1]] rfl (by (try simp only [List.map_toArray,List.map_cons,List.map_nil]);first | done | rfl | (simp only [List.length_drop,List.length_take];rfl)) ?_;(refine (ga_isNet.calls k _ _ l0_0 _ _ l0_1 true _ ?side1 ?side2 ?side3 ?side4 A5.out).mono ?_);(case side1=>exact kC HR0_0.out HB.out);(case side2=>exact HC0_0.out);(case side3=>exact kC HR0_1.out HB.out);(case side4=>exact HC0_1.out);rintro e w9 ⟨rfl,hb⟩;refine ⟨_,rfl,?_⟩;replace BK160:=(kmv hb BK160);replace HB:=am (below_step (HB.out) hb);(try clear hb);(try clear hb2);(try clear hk);(try clear hi);obtain ⟨hcz10_0,hcz10_1⟩:=cO2 BK160.out) | (go_at_call 56;(refine (ga_areGates.calls k _ _ l0_0 _ _ l0_1 _ _ l1 t162 _ ?side1 ?side2 ?side3 ?side4 ?side5 ?side6 A7.out).mono ?_);(case side1=>exact kC HR0_0.out HB.out);(case side2=>exact HC0_0.out);(case side3=>exact kC HR0_1.out HB.out);(case side4=>exact HC0_1.out);(case side5=>exact kC HR1.out HB.out);(case side6=>exact HC1.out);rintro e w11 ⟨rfl,hb⟩;replace BK160:=(kmv hb BK160);replace HB:=am (below_step (HB.out) hb);(try clear hb);(try clear hb2);(try clear hk);(try clear hi)))
  go_meet
  case rel=>exact ⟨_,(!t162),(by first | rfl | (simp;done) | (simp [*];done)),H',⟨by first | omega | exact Nat.le_refl _⟩,⟨BK160.out⟩,⟨HB.out⟩⟩
 case rest =>
  clear HC3
  obtain ⟨kq,x16_2,rfl,HA,HJ2,BK160,HB⟩:=hcut
  cases kq with
  | zero=>exact absurd HA.out (by simp [ga_Cut.j0])
  | succ kj2 =>
   have H:=HA.out
   clear HA
   simp only [ga_Cut.j0] at H
   by_cases c14 : x16_2 = true
   ·subst c14
    replace H : (some (([] : List Int),2)) = some (r1,r2):=by rw [if_pos rfl] at H;exact H
    simp only [Option.some.injEq,Prod.mk.injEq] at H
    obtain ⟨rfl,rfl⟩:=H
    go_wp2
    go_ret2
    exact ⟨_,by first | rfl | (simp [*]<;>rfl),by first | exact Kd.R_nil _ _ _ _ _ | exact Kd.N_nil _ _ _ _ _ | exact Kd.V_nil _ _ _ _ _ | exact Kd.Q_nil _ _ _ _ _ | exact Kd.S_nil _ _ _ _ _,HB.out⟩
   ·replace c14:=Bool.eq_false_iff.mpr c14
    subst c14
    replace H : ((gs_cut.f kj2 l0_0 l0_1 l1 0).bind fun bt163=>(if bt163.2 = true then (some (bt163.1,0)) else (some (([] : List Int),5)))) = some (r1,r2):=by rw [if_neg (show ¬ (false = true) by decide)] at H;exact H
    replace H:=obm H
    obtain ⟨⟨t163,t166⟩,A150,H⟩:=H
    replace H : (if t166 = true then (some (t163,0)) else (some (([] : List Int),5))) = some (r1,r2):=H
    have A15:=am A150
    clear A150
    by_cases c16 : t166 = true
    ·subst c16
     replace H : (some (t163,0)) = some (r1,r2):=by rw [if_pos rfl] at H;exact H
     simp only [Option.some.injEq,Prod.mk.injEq] at H
     obtain ⟨rfl,rfl⟩:=H
     obtain ⟨hcz17_0,hcz17_1⟩:=cO2 BK160.out
     go_wp2_with (first | ((with_reducible refine ga_callee (f:=66) rfl ?_);refine goesL_ (some 21) rfl rfl Tryz.func66 (by kernel_rfl) rfl #[.agg #[.slice A0_0 l0_0.length c0_0,.slice A0_1 l0_1.length c0_1,.slice A1 l1.length c1],.int .i64 0] rfl (by (try simp only [List.map_toArray,List.map_cons,List.map_nil]);first | done | rfl | (simp only [List.length_drop,List.length_take];rfl)) ?_;(refine (gs_cut.calls kj2 _ _ l0_0 _ _ l0_1 _ _ l1 0 t163 true _ ?side1 ?side2 ?side3 ?side4 ?side5 ?side6 A15.out).mono ?_);(case side1=>exact kC HR0_0.out HB.out);(case side2=>exact HC0_0.out);(case side3=>exact kC HR0_1.out HB.out);(case side4=>exact HC0_1.out);(case side5=>exact kC HR1.out HB.out);(case side6=>exact HC1.out);rintro e w18 ⟨v164,rfl,ho0,hb⟩;refine ⟨_,rfl,?_⟩;have HO165:=am (Kd.R_lower ho0 (below_size (HB.out)));replace BK160:=(kmv hb BK160);replace HB:=am (below_step (HB.out) hb);(try clear hb);(try clear hb2);(try clear hk);(try clear hi);(try clear ho0)))
     go_ret2
     exact ⟨_,by first | rfl | (simp [*]<;>rfl),by (with_reducible repeat (first | apply Kd.R_alloc | apply Kd.R_drewN | apply Kd.R_drew));exact HO165.out,HB.out⟩
    ·replace c16:=Bool.eq_false_iff.mpr c16
     subst c16
     replace H : (some (([] : List Int),5)) = some (r1,r2):=by rw [if_neg (show ¬ (false = true) by decide)] at H;exact H
     simp only [Option.some.injEq,Prod.mk.injEq] at H
     obtain ⟨rfl,rfl⟩:=H
     obtain ⟨hcz19_0,hcz19_1⟩:=cO2 BK160.out
     go_wp2_with (first | ((with_reducible refine ga_callee (f:=66) rfl ?_);refine goesL_ (some 21) rfl rfl Tryz.func66 (by kernel_rfl) rfl #[.agg #[.slice A0_0 l0_0.length c0_0,.slice A0_1 l0_1.length c0_1,.slice A1 l1.length c1],.int .i64 0] rfl (by (try simp only [List.map_toArray,List.map_cons,List.map_nil]);first | done | rfl | (simp only [List.length_drop,List.length_take];rfl)) ?_;(refine (gs_cut.calls kj2 _ _ l0_0 _ _ l0_1 _ _ l1 0 t163 false _ ?side1 ?side2 ?side3 ?side4 ?side5 ?side6 A15.out).mono ?_);(case side1=>exact kC HR0_0.out HB.out);(case side2=>exact HC0_0.out);(case side3=>exact kC HR0_1.out HB.out);(case side4=>exact HC0_1.out);(case side5=>exact kC HR1.out HB.out);(case side6=>exact HC1.out);rintro e w20 ⟨v164,rfl,ho0,hb⟩;refine ⟨_,rfl,?_⟩;have HO165:=am (Kd.R_lower ho0 (below_size (HB.out)));replace BK160:=(kmv hb BK160);replace HB:=am (below_step (HB.out) hb);(try clear hb);(try clear hb2);(try clear hk);(try clear hi);(try clear ho0)))
     go_ret2
     exact ⟨_,by first | rfl | (simp [*]<;>rfl),by first | exact Kd.R_nil _ _ _ _ _ | exact Kd.N_nil _ _ _ _ _ | exact Kd.V_nil _ _ _ _ _ | exact Kd.Q_nil _ _ _ _ _ | exact Kd.S_nil _ _ _ _ _,HB.out⟩
end Go.Proofs.YtclkbedbocnpkaaGreatDoor.C

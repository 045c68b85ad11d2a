/- A part of the proof: the walks of the functions that it reaches. TIGHT. -/
import Derived.Test.YtclkbedbocnpkaaGreatDoorMSho8
set_option linter.unusedVariables false
set_option linter.unusedSimpArgs false
namespace Go.Proofs.YtclkbedbocnpkaaGreatDoor.C
open Go.RowKit Go.Proofs.YtclkbedbocnpkaaGreatDoorW.PrintWords Go.Proofs.YtclkbedbocnpkaaGreatDoorW.PrintLast Go.Proofs.YtclkbedbocnpkaaGreatDoorW.PrintMore
set_option linter.unusedVariables false
set_option linter.unusedSimpArgs false
set_option maxHeartbeats 16000000
set_option maxRecDepth 100000
def q8_Some.l0 : Nat→List Int→Int→List (S37)→List (S65)→Option (Bool)
 | 0,_,_,_,_=>none
 | k + 1,x1,x5,x273000,x273001=>if x5 < (x1.length : Int) then (if 0≤x5 then ((q8_Gate.f x273000 x273001 (rd x1 x5)).bind fun t274=>(if t274 = true then (if x5 > 0 then (if 0≤(wrap64 (x5 - 1)) then (if (wrap64 (x5 - 1)) < (x1.length : Int) then (if (rd x1 x5)≤(rd x1 (wrap64 (x5 - 1))) then (some false) else (q8_Some.l0 k x1 (wrap64 (x5 + 1)) x273000 x273001)) else (none)) else (none)) else (q8_Some.l0 k x1 (wrap64 (x5 + 1)) x273000 x273001)) else (some false))) else (none)) else (some true)
def q8_Some.f (k : Nat) (l0_0 : List (S37)) (l0_1 : List (S65)) (l1 : List Int) : Option (Bool):=q8_Some.l0 k l1 0 l0_0 l0_1
def q8_Some.T4 : Bool × List (List Nat × List Nat):=(true,[([],[]),([],[]),([],[]),([1,2],[1,2]),([3],[3]),([0,4],[0,4]),([5],[5]),([6,5],[6]),([7],[7]),([8,7],[7,8]),([9,7,7],[7,9]),([10],[10]),([10],[10]),([11,12,10],[10,11,12]),([13,10],[10,13]),([10],[10]),([10],[10]),([16,10],[10,16]),([15,17,10],[10,15,17]),([18,10],[10,18]),([14,19,10],[10,14,19]),([10,20,7],[7,10,20]),([7,21],[7,21])])
def q8_Some.B4 : List Nat:=[0,0,0,6,14,31,63,127,255,511,1023,2047,2047,8191,16383,2047,2047,67583,231423,493567,1048575,2097151,4194303]
theorem q8_Some.tab4 : rtab .any (opsOf Tryz.f18 4) = q8_Some.T4:=by kernel_rfl
theorem q8_Some.bits4 : waitsOk q8_Some.T4.2 q8_Some.B4 = true:=by kernel_rfl
theorem q8_Some.calls (k : Nat) (A0_0 : Option Addr) (c0_0 : Nat) (l0_0 : List (S37)) (A0_1 : Option Addr) (c0_1 : Nat) (l0_1 : List (S65)) (A1 : Option Addr) (c1 : Nat) (l1 : List Int) (r : Bool) (w : World) (hr0_0 : Kd.C k37 w A0_0 l0_0.length l0_0) (hc0_0 : l0_0.length≤c0_0) (hr0_1 : Kd.C k65 w A0_1 l0_1.length l0_1) (hc0_1 : l0_1.length≤c0_1) (hr1 : Kd.C (Kd.int .i64) w A1 l1.length l1) (hc1 : l1.length≤c1) (h : q8_Some.f k l0_0 l0_1 l1 = some r) :
 Calls Tryz.prog 18 #[.agg #[.slice A0_0 l0_0.length c0_0,.slice A0_1 l0_1.length c0_1],.slice A1 l1.length c1] w fun e w'=>e = .returned (.bool r)∧Below w.heap.size w w':=by
 have hu25:=Tryz.underlying25
 have HR0_0:=am hr0_0
 have HC0_0:=am hc0_0
 clear hr0_0 hc0_0
 have HR0_1:=am hr0_1
 have HC0_1:=am hc0_1
 clear hr0_1 hc0_1
 have HR1:=am hr1
 have HC1:=am hc1
 clear hr1 hc1
 have HB:=am (Below.refl w.heap.size w)
 have H : (q8_Some.l0 k l1 0 l0_0 l0_1) = some r:=h
 clear h
 replace H':=am H
 go_enter Tryz.func18,Tryz.ntmps18
 go_wp2_with (first | ((refine ga_dst (N:=2) rfl ?_);refine box_event rfl (N:=2) rfl (cs:=#[.slice A0_0 l0_0.length c0_0,.slice A0_1 l0_1.length c0_1]) (t:=25) ?hr ?_;(case hr=>go_simp;try rfl);intro gb272 hg w3 hbox hb;have BK272:=am (hbox);have GW272:=am (ge_new (HB.out) hg);have GE272:=am (ge_new (HB.out) hg);replace HB:=am (below_step (HB.out) hb);clear hb hbox hg))
 go_loopg [5] k (fun kq v5 w'=>∃ (x5_1 : Int),v5 = .int .i64 x5_1∧Aside0 (q8_Some.l0 kq l1 x5_1 l0_0 l0_1 = some r)∧Aside0 (kq≤k)∧Aside0 (w'.heap[gb272]? = some (.cells #[(.slice A0_0 l0_0.length c0_0),(.slice A0_1 l0_1.length c0_1)] 25 (0,0)))∧Aside0 (Below w.heap.size w w'))
 case atStart=>exact ⟨(0),(by first | rfl | (simp;done) | (simp [*];done)),H',⟨Nat.le_refl _⟩,⟨BK272.out⟩,⟨HB.out⟩⟩
 case round =>
  clear H'
  obtain ⟨x5_1,rfl,HA,HK1,BK272,HB⟩:=hrel
  cases gk with
  | zero=>exact absurd HA.out (by simp [q8_Some.l0])
  | succ k1 =>
   have H:=HA.out
   clear HA
   simp only [q8_Some.l0] at H
   by_cases c4 : x5_1 < (l1.length : Int)
   case neg =>
    rw [if_neg c4] at H
    have c4b0 : decide (x5_1 < (l1.length : Int)) = false:=decide_eq_false c4
    clear c4
    obtain rfl:=Option.some.inj H
    go_wp2
    go_ret
    exact ⟨by first | rfl | (simp [*]<;>rfl),HB.out⟩
   rw [if_pos c4] at H
   have c4b0 : decide (x5_1 < (l1.length : Int)) = true:=decide_eq_true c4
   clear c4
   by_cases c5 : 0≤x5_1
   case neg =>
    rw [if_neg c5] at H
    exact absurd H (by simp)
   rw [if_pos c5] at H
   have c5b0 : decide (0≤x5_1) = true:=decide_eq_true c5
   clear c5
   replace H:=obm H
   obtain ⟨t274,A60,H⟩:=H
   replace H : (if t274 = true then (if x5_1 > 0 then (if 0≤(wrap64 (x5_1 - 1)) then (if (wrap64 (x5_1 - 1)) < (l1.length : Int) then (if (rd l1 x5_1)≤(rd l1 (wrap64 (x5_1 - 1))) then (some false) else (q8_Some.l0 k1 l1 (wrap64 (x5_1 + 1)) l0_0 l0_1)) else (none)) else (none)) else (q8_Some.l0 k1 l1 (wrap64 (x5_1 + 1)) l0_0 l0_1)) else (some false)) = some r:=H
   have A6:=am A60
   clear A60
   by_cases c7 : t274 = true
   case neg =>
    replace c7:=Bool.eq_false_iff.mpr c7
    subst c7
    replace H : (some false) = some r:=by rw [if_neg (show ¬ (false = true) by decide)] at H;exact H
    obtain rfl:=Option.some.inj H
    try go_wp2
    replace BK272:=am (blk_drew BK272.out)
    replace HB:=am (below_drew1 HB.out)
    have p273 : 0≤(x5_1 : Int):=of_decide_eq_true (by assumption)
    have q273 : x5_1 < (l1.length : Int):=of_decide_eq_true (by assumption)
    obtain ⟨ad273,e273,hx273_0⟩:=Kd.at_int HR1.out x5_1 p273 q273
    have hw273_0:=hx273_0
    cases e273
    replace hx273_0:=(HB.out.cell (wbl hx273_0)).trans hx273_0
    replace p273:=eq_true p273
    replace q273:=eq_true q273
    refine start_ (n:=23) (S:=fun w'=>w'.cell? ⟨gb272,0,none⟩ = some (.slice A0_0 l0_0.length c0_0)∧w'.cell? ⟨gb272,1,none⟩ = some (.slice A0_1 l0_1.length c0_1)∧w'.cell? (ad273.add (x5_1).toNat) = some (.int .i64 (rd l1 x5_1))) (ds:=[]) (ba 23 0) (by kernel_rfl) rfl rfl ⟨(blk_cell BK272.out 0).trans rfl,(blk_cell BK272.out 1).trans rfl,((HB.out.cell (wbl hw273_0)).trans hw273_0)⟩ (fun hHeld=>?_);refine with_tabW q8_Some.tab4 q8_Some.bits4 (fun HT_ HW_=>?_)
    generalize wr.drew = w19 at BK272 HB hx273_0 hHeld ⊢
    refine pure_ (i:=1) (N:=some 13) (v:=?_) (a':=?_) (ba 23 2) rfl rfl (any_of HT_.out (by kernel_rfl)) (fun _ _ _ h=>h) (Or.inl ⟨by rfl,?_⟩) ?_ ?_
    rotate_left
    ·intro w'
     go_simp
     with_reducible rfl
    rotate_left
    ·simp only [Act.put,NRM]
     rfl
    refine pure_ (i:=2) (N:=some 14) (v:=?_) (a':=?_) (ba 23 6) rfl rfl (any_of HT_.out (by kernel_rfl)) (fun _ _ _ h=>h) (Or.inl ⟨by rfl,?_⟩) ?_ ?_
    rotate_left
    ·intro w'
     go_simp
     with_reducible rfl
    rotate_left
    ·simp only [Act.put,NRM]
     rfl
    refine pure_ (i:=3) (N:=some 15) (v:=?_) (a':=?_) (ba 23 14) rfl rfl (any_of HT_.out (by kernel_rfl)) (fun _ _ _ h=>h) (Or.inl ⟨by rfl,?_⟩) ?_ ?_
    rotate_left
    ·intro w'
     go_simp
     with_reducible rfl
    rotate_left
    ·simp only [Act.put,NRM]
     rfl
    refine take_ (i:=0) (N:=some 12) (v:=?_) (a':=?_) (ba 23 15) rfl rfl (take_ofW HT_.out HW_.out (by kernel_rfl)) (fun _ _ _ h=>h) (Or.inl ⟨by rfl,?_⟩) hHeld ?_ ?_
    rotate_left
    ·rintro w' ⟨s0,s1,s2⟩
     go_simp
     with_reducible rfl
    rotate_left
    ·simp only [Act.put,NRM]
     rfl
    refine take_ (i:=4) (N:=some 16) (v:=?_) (a':=?_) (ba 23 31) rfl rfl (take_ofW HT_.out HW_.out (by kernel_rfl)) (fun _ _ _ h=>h) (Or.inl ⟨by rfl,?_⟩) hHeld ?_ ?_
    rotate_left
    ·rintro w' ⟨s0,s1,s2⟩
     go_simp
     with_reducible rfl
    rotate_left
    ·simp only [Act.put,NRM]
     rfl
    refine one_ (i:=5) (N:=some 17) (ba 23 63) rfl rfl (one_of HT_.out (by kernel_rfl)) (by decide) (fun K hK=>?_)
    refine goes_ Tryz.func42 (by kernel_rfl) rfl #[.agg #[.slice A0_0 l0_0.length c0_0,.slice A0_1 l0_1.length c0_1],.int .i64 (rd l1 x5_1)] (by rfl) rfl rfl (by (try simp only [List.map_toArray,List.map_cons,List.map_nil]);first | done | rfl | (simp only [List.length_drop,List.length_take];rfl)) ?_
    with_reducible refine (q8_Gate.calls _ _ l0_0 _ _ l0_1 (rd l1 x5_1) false _ ?side1 ?side2 ?side3 ?side4 A6.out).mono ?_
    (case side1=>exact kC HR0_0.out HB.out)
    (case side2=>exact HC0_0.out)
    (case side3=>exact kC HR0_1.out HB.out)
    (case side4=>exact HC0_1.out)
    rintro e w20 ⟨rfl,hb⟩
    refine ⟨_,rfl,?_⟩
    replace BK272:=(kmv hb BK272)
    replace HB:=am (below_step (HB.out) hb)
    (try clear hb)
    (try clear hb2)
    (try clear hk)
    (try clear hi)
    refine hK.out _ _ ⟨(blk_cell BK272.out 0).trans rfl,(blk_cell BK272.out 1).trans rfl,((HB.out.cell (wbl hw273_0)).trans hw273_0)⟩ (fun hHeld=>?_)
    clear hK K
    refine norm_ (a':=?_) ?_ ?_
    rotate_left
    ·show Act.put _ (some 17) _ = _
     simp only [Act.put,NRM]
     rfl
    refine pure_ (i:=6) (N:=some 18) (v:=?_) (a':=?_) (ba 23 127) rfl rfl (any_of HT_.out (by kernel_rfl)) (fun _ _ _ h=>h) (Or.inl ⟨by rfl,?_⟩) ?_ ?_
    rotate_left
    ·intro w'
     go_simp
     with_reducible rfl
    rotate_left
    ·simp only [Act.put,NRM]
     rfl
    refine pure_ (i:=7) (N:=some 19) (v:=?_) (a':=?_) (ba 23 255) rfl rfl (any_of HT_.out (by kernel_rfl)) (fun _ _ _ h=>h) (Or.inl ⟨by rfl,?_⟩) ?_ ?_
    rotate_left
    ·intro w'
     go_simp
     with_reducible rfl
    rotate_left
    ·simp only [Act.put,NRM]
     rfl
    refine pure_ (i:=8) (N:=some 20) (v:=undef) (a':=?_) (ba 23 511) rfl rfl (any_of HT_.out (by kernel_rfl)) (fun _ _ _ h=>h) (Or.inr ⟨by rfl,rfl⟩) ?_ ?_
    rotate_left
    ·simp only [Act.put,NRM]
     rfl
    refine pure_ (i:=9) (N:=some 21) (v:=undef) (a':=?_) (ba 23 1023) rfl rfl (any_of HT_.out (by kernel_rfl)) (fun _ _ _ h=>h) (Or.inr ⟨by rfl,rfl⟩) ?_ ?_
    rotate_left
    ·simp only [Act.put,NRM]
     rfl
    refine pure_ (i:=10) (N:=some 22) (v:=undef) (a':=?_) (ba 23 2047) rfl rfl (any_of HT_.out (by kernel_rfl)) (fun _ _ _ h=>h) (Or.inr ⟨by rfl,rfl⟩) ?_ ?_
    rotate_left
    ·simp only [Act.put,NRM]
     rfl
    refine pure_ (i:=11) (N:=some 23) (v:=undef) (a':=?_) (ba 23 4095) rfl rfl (any_of HT_.out (by kernel_rfl)) (fun _ _ _ h=>h) (Or.inr ⟨by rfl,rfl⟩) ?_ ?_
    rotate_left
    ·simp only [Act.put,NRM]
     rfl
    refine pure_ (i:=12) (N:=some 24) (v:=undef) (a':=?_) (ba 23 8191) rfl rfl (any_of HT_.out (by kernel_rfl)) (fun _ _ _ h=>h) (Or.inr ⟨by rfl,rfl⟩) ?_ ?_
    rotate_left
    ·simp only [Act.put,NRM]
     rfl
    refine pure_ (i:=13) (N:=some 25) (v:=undef) (a':=?_) (ba 23 16383) rfl rfl (any_of HT_.out (by kernel_rfl)) (fun _ _ _ h=>h) (Or.inr ⟨by rfl,rfl⟩) ?_ ?_
    rotate_left
    ·simp only [Act.put,NRM]
     rfl
    refine pure_ (i:=14) (N:=some 26) (v:=undef) (a':=?_) (ba 23 32767) rfl rfl (any_of HT_.out (by kernel_rfl)) (fun _ _ _ h=>h) (Or.inr ⟨by rfl,rfl⟩) ?_ ?_
    rotate_left
    ·simp only [Act.put,NRM]
     rfl
    refine pure_ (i:=15) (N:=some 27) (v:=undef) (a':=?_) (ba 23 65535) rfl rfl (any_of HT_.out (by kernel_rfl)) (fun _ _ _ h=>h) (Or.inr ⟨by rfl,rfl⟩) ?_ ?_
    rotate_left
    ·simp only [Act.put,NRM]
     rfl
    refine pure_ (i:=16) (N:=some 28) (v:=undef) (a':=?_) (ba 23 131071) rfl rfl (any_of HT_.out (by kernel_rfl)) (fun _ _ _ h=>h) (Or.inr ⟨by rfl,rfl⟩) ?_ ?_
    rotate_left
    ·simp only [Act.put,NRM]
     rfl
    refine pure_ (i:=17) (N:=some 29) (v:=undef) (a':=?_) (ba 23 262143) rfl rfl (any_of HT_.out (by kernel_rfl)) (fun _ _ _ h=>h) (Or.inr ⟨by rfl,rfl⟩) ?_ ?_
    rotate_left
    ·simp only [Act.put,NRM]
     rfl
    refine pure_ (i:=18) (N:=some 30) (v:=undef) (a':=?_) (ba 23 524287) rfl rfl (any_of HT_.out (by kernel_rfl)) (fun _ _ _ h=>h) (Or.inr ⟨by rfl,rfl⟩) ?_ ?_
    rotate_left
    ·simp only [Act.put,NRM]
     rfl
    refine pure_ (i:=19) (N:=some 31) (v:=undef) (a':=?_) (ba 23 1048575) rfl rfl (any_of HT_.out (by kernel_rfl)) (fun _ _ _ h=>h) (Or.inr ⟨by rfl,rfl⟩) ?_ ?_
    rotate_left
    ·simp only [Act.put,NRM]
     rfl
    refine pure_ (i:=20) (N:=some 32) (v:=undef) (a':=?_) (ba 23 2097151) rfl rfl (any_of HT_.out (by kernel_rfl)) (fun _ _ _ h=>h) (Or.inr ⟨by rfl,rfl⟩) ?_ ?_
    rotate_left
    ·simp only [Act.put,NRM]
     rfl
    refine pure_ (i:=21) (N:=some 33) (v:=undef) (a':=?_) (ba 23 4194303) rfl rfl (any_of HT_.out (by kernel_rfl)) (fun _ _ _ h=>h) (Or.inr ⟨by rfl,rfl⟩) ?_ ?_
    rotate_left
    ·simp only [Act.put,NRM]
     rfl
    refine pure_ (i:=22) (N:=some 34) (v:=?_) (a':=?_) (ba 23 8388607) rfl rfl (any_of HT_.out (by kernel_rfl)) (fun _ _ _ h=>h) (Or.inl ⟨by rfl,?_⟩) ?_ ?_
    rotate_left
    ·intro w'
     go_simp
     with_reducible rfl
    rotate_left
    ·simp only [Act.put,NRM]
     rfl
    refine done_ (done_of HT_.out (by kernel_rfl)) ?_
    try go_wp2
    go_ret
    exact ⟨by first | rfl | (simp [*]<;>rfl),HB.out⟩
   subst c7
   replace H : (if x5_1 > 0 then (if 0≤(wrap64 (x5_1 - 1)) then (if (wrap64 (x5_1 - 1)) < (l1.length : Int) then (if (rd l1 x5_1)≤(rd l1 (wrap64 (x5_1 - 1))) then (some false) else (q8_Some.l0 k1 l1 (wrap64 (x5_1 + 1)) l0_0 l0_1)) else (none)) else (none)) else (q8_Some.l0 k1 l1 (wrap64 (x5_1 + 1)) l0_0 l0_1)) = some r:=by rw [if_pos rfl] at H;exact H
   by_cases c8 : x5_1 > 0
   case neg =>
    rw [if_neg c8] at H
    have c8b0 : decide (0 < x5_1) = false:=decide_eq_false c8
    clear c8
    replace H':=am H
    try go_wp2
    replace BK272:=am (blk_drew BK272.out)
    replace HB:=am (below_drew1 HB.out)
    have p273 : 0≤(x5_1 : Int):=of_decide_eq_true (by assumption)
    have q273 : x5_1 < (l1.length : Int):=of_decide_eq_true (by assumption)
    obtain ⟨ad273,e273,hx273_0⟩:=Kd.at_int HR1.out x5_1 p273 q273
    have hw273_0:=hx273_0
    cases e273
    replace hx273_0:=(HB.out.cell (wbl hx273_0)).trans hx273_0
    replace p273:=eq_true p273
    replace q273:=eq_true q273
    refine start_ (n:=23) (S:=fun w'=>w'.cell? ⟨gb272,0,none⟩ = some (.slice A0_0 l0_0.length c0_0)∧w'.cell? ⟨gb272,1,none⟩ = some (.slice A0_1 l0_1.length c0_1)∧w'.cell? (ad273.add (x5_1).toNat) = some (.int .i64 (rd l1 x5_1))) (ds:=[]) (ba 23 0) (by kernel_rfl) rfl rfl ⟨(blk_cell BK272.out 0).trans rfl,(blk_cell BK272.out 1).trans rfl,((HB.out.cell (wbl hw273_0)).trans hw273_0)⟩ (fun hHeld=>?_);refine with_tabW q8_Some.tab4 q8_Some.bits4 (fun HT_ HW_=>?_)
    generalize wr.drew = w17 at BK272 HB hx273_0 hHeld ⊢
    refine pure_ (i:=1) (N:=some 13) (v:=?_) (a':=?_) (ba 23 2) rfl rfl (any_of HT_.out (by kernel_rfl)) (fun _ _ _ h=>h) (Or.inl ⟨by rfl,?_⟩) ?_ ?_
    rotate_left
    ·intro w'
     go_simp
     with_reducible rfl
    rotate_left
    ·simp only [Act.put,NRM]
     rfl
    refine pure_ (i:=2) (N:=some 14) (v:=?_) (a':=?_) (ba 23 6) rfl rfl (any_of HT_.out (by kernel_rfl)) (fun _ _ _ h=>h) (Or.inl ⟨by rfl,?_⟩) ?_ ?_
    rotate_left
    ·intro w'
     go_simp
     with_reducible rfl
    rotate_left
    ·simp only [Act.put,NRM]
     rfl
    refine pure_ (i:=3) (N:=some 15) (v:=?_) (a':=?_) (ba 23 14) rfl rfl (any_of HT_.out (by kernel_rfl)) (fun _ _ _ h=>h) (Or.inl ⟨by rfl,?_⟩) ?_ ?_
    rotate_left
    ·intro w'
     go_simp
     with_reducible rfl
    rotate_left
    ·simp only [Act.put,NRM]
     rfl
    refine take_ (i:=0) (N:=some 12) (v:=?_) (a':=?_) (ba 23 15) rfl rfl (take_ofW HT_.out HW_.out (by kernel_rfl)) (fun _ _ _ h=>h) (Or.inl ⟨by rfl,?_⟩) hHeld ?_ ?_
    rotate_left
    ·rintro w' ⟨s0,s1,s2⟩
     go_simp
     with_reducible rfl
    rotate_left
    ·simp only [Act.put,NRM]
     rfl
    refine take_ (i:=4) (N:=some 16) (v:=?_) (a':=?_) (ba 23 31) rfl rfl (take_ofW HT_.out HW_.out (by kernel_rfl)) (fun _ _ _ h=>h) (Or.inl ⟨by rfl,?_⟩) hHeld ?_ ?_
    rotate_left
    ·rintro w' ⟨s0,s1,s2⟩
     go_simp
     with_reducible rfl
    rotate_left
    ·simp only [Act.put,NRM]
     rfl
    refine one_ (i:=5) (N:=some 17) (ba 23 63) rfl rfl (one_of HT_.out (by kernel_rfl)) (by decide) (fun K hK=>?_)
    refine goes_ Tryz.func42 (by kernel_rfl) rfl #[.agg #[.slice A0_0 l0_0.length c0_0,.slice A0_1 l0_1.length c0_1],.int .i64 (rd l1 x5_1)] (by rfl) rfl rfl (by (try simp only [List.map_toArray,List.map_cons,List.map_nil]);first | done | rfl | (simp only [List.length_drop,List.length_take];rfl)) ?_
    with_reducible refine (q8_Gate.calls _ _ l0_0 _ _ l0_1 (rd l1 x5_1) true _ ?side1 ?side2 ?side3 ?side4 A6.out).mono ?_
    (case side1=>exact kC HR0_0.out HB.out)
    (case side2=>exact HC0_0.out)
    (case side3=>exact kC HR0_1.out HB.out)
    (case side4=>exact HC0_1.out)
    rintro e w18 ⟨rfl,hb⟩
    refine ⟨_,rfl,?_⟩
    replace BK272:=(kmv hb BK272)
    replace HB:=am (below_step (HB.out) hb)
    (try clear hb)
    (try clear hb2)
    (try clear hk)
    (try clear hi)
    refine hK.out _ _ ⟨(blk_cell BK272.out 0).trans rfl,(blk_cell BK272.out 1).trans rfl,((HB.out.cell (wbl hw273_0)).trans hw273_0)⟩ (fun hHeld=>?_)
    clear hK K
    refine norm_ (a':=?_) ?_ ?_
    rotate_left
    ·show Act.put _ (some 17) _ = _
     simp only [Act.put,NRM]
     rfl
    refine pure_ (i:=6) (N:=some 18) (v:=?_) (a':=?_) (ba 23 127) rfl rfl (any_of HT_.out (by kernel_rfl)) (fun _ _ _ h=>h) (Or.inl ⟨by rfl,?_⟩) ?_ ?_
    rotate_left
    ·intro w'
     go_simp
     with_reducible rfl
    rotate_left
    ·simp only [Act.put,NRM]
     rfl
    refine pure_ (i:=7) (N:=some 19) (v:=?_) (a':=?_) (ba 23 255) rfl rfl (any_of HT_.out (by kernel_rfl)) (fun _ _ _ h=>h) (Or.inl ⟨by rfl,?_⟩) ?_ ?_
    rotate_left
    ·intro w'
     go_simp
     with_reducible rfl
    rotate_left
    ·simp only [Act.put,NRM]
     rfl
    refine pure_ (i:=8) (N:=some 20) (v:=?_) (a':=?_) (ba 23 511) rfl rfl (any_of HT_.out (by kernel_rfl)) (fun _ _ _ h=>h) (Or.inl ⟨by rfl,?_⟩) ?_ ?_
    rotate_left
    ·intro w'
     go_simp
     with_reducible rfl
    rotate_left
    ·simp only [Act.put,NRM]
     rfl
    refine pure_ (i:=9) (N:=some 21) (v:=?_) (a':=?_) (ba 23 1023) rfl rfl (any_of HT_.out (by kernel_rfl)) (fun _ _ _ h=>h) (Or.inl ⟨by rfl,?_⟩) ?_ ?_
    rotate_left
    ·intro w'
     go_simp
     with_reducible rfl
    rotate_left
    ·simp only [Act.put,NRM]
     rfl
    refine pure_ (i:=10) (N:=some 22) (v:=?_) (a':=?_) (ba 23 2047) rfl rfl (any_of HT_.out (by kernel_rfl)) (fun _ _ _ h=>h) (Or.inl ⟨by rfl,?_⟩) ?_ ?_
    rotate_left
    ·intro w'
     go_simp
     with_reducible rfl
    rotate_left
    ·simp only [Act.put,NRM]
     rfl
    refine pure_ (i:=11) (N:=some 23) (v:=undef) (a':=?_) (ba 23 4095) rfl rfl (any_of HT_.out (by kernel_rfl)) (fun _ _ _ h=>h) (Or.inr ⟨by rfl,rfl⟩) ?_ ?_
    rotate_left
    ·simp only [Act.put,NRM]
     rfl
    refine pure_ (i:=12) (N:=some 24) (v:=undef) (a':=?_) (ba 23 8191) rfl rfl (any_of HT_.out (by kernel_rfl)) (fun _ _ _ h=>h) (Or.inr ⟨by rfl,rfl⟩) ?_ ?_
    rotate_left
    ·simp only [Act.put,NRM]
     rfl
    refine pure_ (i:=13) (N:=some 25) (v:=undef) (a':=?_) (ba 23 16383) rfl rfl (any_of HT_.out (by kernel_rfl)) (fun _ _ _ h=>h) (Or.inr ⟨by rfl,rfl⟩) ?_ ?_
    rotate_left
    ·simp only [Act.put,NRM]
     rfl
    refine pure_ (i:=14) (N:=some 26) (v:=undef) (a':=?_) (ba 23 32767) rfl rfl (any_of HT_.out (by kernel_rfl)) (fun _ _ _ h=>h) (Or.inr ⟨by rfl,rfl⟩) ?_ ?_
    rotate_left
    ·simp only [Act.put,NRM]
     rfl
    refine pure_ (i:=15) (N:=some 27) (v:=undef) (a':=?_) (ba 23 65535) rfl rfl (any_of HT_.out (by kernel_rfl)) (fun _ _ _ h=>h) (Or.inr ⟨by rfl,rfl⟩) ?_ ?_
    rotate_left
    ·simp only [Act.put,NRM]
     rfl
    refine pure_ (i:=16) (N:=some 28) (v:=undef) (a':=?_) (ba 23 131071) rfl rfl (any_of HT_.out (by kernel_rfl)) (fun _ _ _ h=>h) (Or.inr ⟨by rfl,rfl⟩) ?_ ?_
    rotate_left
    ·simp only [Act.put,NRM]
     rfl
    refine pure_ (i:=17) (N:=some 29) (v:=undef) (a':=?_) (ba 23 262143) rfl rfl (any_of HT_.out (by kernel_rfl)) (fun _ _ _ h=>h) (Or.inr ⟨by rfl,rfl⟩) ?_ ?_
    rotate_left
    ·simp only [Act.put,NRM]
     rfl
    refine pure_ (i:=18) (N:=some 30) (v:=undef) (a':=?_) (ba 23 524287) rfl rfl (any_of HT_.out (by kernel_rfl)) (fun _ _ _ h=>h) (Or.inr ⟨by rfl,rfl⟩) ?_ ?_
    rotate_left
    ·simp only [Act.put,NRM]
     rfl
    refine pure_ (i:=19) (N:=some 31) (v:=undef) (a':=?_) (ba 23 1048575) rfl rfl (any_of HT_.out (by kernel_rfl)) (fun _ _ _ h=>h) (Or.inr ⟨by rfl,rfl⟩) ?_ ?_
    rotate_left
    ·simp only [Act.put,NRM]
     rfl
    refine pure_ (i:=20) (N:=some 32) (v:=undef) (a':=?_) (ba 23 2097151) rfl rfl (any_of HT_.out (by kernel_rfl)) (fun _ _ _ h=>h) (Or.inr ⟨by rfl,rfl⟩) ?_ ?_
    rotate_left
    ·simp only [Act.put,NRM]
     rfl
    refine pure_ (i:=21) (N:=some 33) (v:=?_) (a':=?_) (ba 23 4194303) rfl rfl (any_of HT_.out (by kernel_rfl)) (fun _ _ _ h=>h) (Or.inl ⟨by rfl,?_⟩) ?_ ?_
    rotate_left
    ·intro w'
     go_simp
     with_reducible rfl
    rotate_left
    ·simp only [Act.put,NRM]
     rfl
    refine pure_ (i:=22) (N:=some 34) (v:=?_) (a':=?_) (ba 23 8388607) rfl rfl (any_of HT_.out (by kernel_rfl)) (fun _ _ _ h=>h) (Or.inl ⟨by rfl,?_⟩) ?_ ?_
    rotate_left
    ·intro w'
     go_simp
     with_reducible rfl
    rotate_left
    ·simp only [Act.put,NRM]
     rfl
    refine done_ (done_of HT_.out (by kernel_rfl)) ?_
    try go_wp2
    go_roundg k1
    case measure=>have:=HK1.out;omega
    case rel=>exact ⟨(wrap64 (x5_1 + 1)),(by first | rfl | (simp;done) | (simp [*];done)),H',⟨by have:=HK1.out;omega⟩,⟨BK272.out⟩,⟨HB.out⟩⟩
   rw [if_pos c8] at H
   have c8b0 : decide (0 < x5_1) = true:=decide_eq_true c8
   clear c8
   obtain ⟨ji9,hji9⟩ : ∃ j_ : Int,(wrap64 (x5_1 - 1)) = j_:=⟨_,rfl⟩
   replace H : (if 0≤(ji9) then (if (ji9) < (l1.length : Int) then (if (rd l1 x5_1)≤(rd l1 (ji9)) then (some false) else (q8_Some.l0 k1 l1 (wrap64 (x5_1 + 1)) l0_0 l0_1)) else (none)) else (none)) = some r:=by first | (rw [hji9] at H;exact H) | (simp only [hji9] at H ⊢;exact H)
   (try rw [hji9] at A6)
   have hji9w : (IntKind.i64.wrap (x5_1 - 1)) = ji9:=(i64_w _).trans hji9
   by_cases c10 : 0≤(ji9)
   case neg =>
    rw [if_neg c10] at H
    exact absurd H (by simp)
   rw [if_pos c10] at H
   have c10b0 : decide (0≤(ji9)) = true:=decide_eq_true c10
   clear c10
   by_cases c11 : (ji9) < (l1.length : Int)
   case neg =>
    rw [if_neg c11] at H
    exact absurd H (by simp)
   rw [if_pos c11] at H
   have c11b0 : decide ((ji9) < (l1.length : Int)) = true:=decide_eq_true c11
   clear c11
   by_cases c12 : (rd l1 x5_1)≤(rd l1 (ji9))
   ·rw [if_pos c12] at H
    have c12b0 : decide ((rd l1 x5_1)≤(rd l1 (ji9))) = true:=decide_eq_true c12
    clear c12
    obtain rfl:=Option.some.inj H
    try go_wp2
    replace BK272:=am (blk_drew BK272.out)
    replace HB:=am (below_drew1 HB.out)
    have p273 : 0≤(x5_1 : Int):=of_decide_eq_true (by assumption)
    have q273 : x5_1 < (l1.length : Int):=of_decide_eq_true (by assumption)
    obtain ⟨ad273,e273,hx273_0⟩:=Kd.at_int HR1.out x5_1 p273 q273
    have hw273_0:=hx273_0
    cases e273
    replace hx273_0:=(HB.out.cell (wbl hx273_0)).trans hx273_0
    replace p273:=eq_true p273
    replace q273:=eq_true q273
    have p275 : 0≤(x5_1 : Int):=of_decide_eq_true (by assumption)
    have q275 : x5_1 < (l1.length : Int):=of_decide_eq_true (by assumption)
    obtain ⟨ad275,e275,hx275_0⟩:=Kd.at_int HR1.out x5_1 p275 q275
    have hw275_0:=hx275_0
    obtain rfl : ad273 = ad275:=(by injection e275)
    replace hx275_0:=(HB.out.cell (wbl hx275_0)).trans hx275_0
    replace p275:=eq_true p275
    replace q275:=eq_true q275
    have p276 : 0≤((ji9) : Int):=of_decide_eq_true (by assumption)
    have q276 : (ji9) < (l1.length : Int):=of_decide_eq_true (by assumption)
    obtain ⟨ad276,e276,hx276_0⟩:=Kd.at_int HR1.out (ji9) p276 q276
    have hw276_0:=hx276_0
    obtain rfl : ad273 = ad276:=(by injection e276)
    replace hx276_0:=(HB.out.cell (wbl hx276_0)).trans hx276_0
    replace p276:=eq_true p276
    replace q276:=eq_true q276
    refine start_ (n:=23) (S:=fun w'=>w'.cell? ⟨gb272,0,none⟩ = some (.slice A0_0 l0_0.length c0_0)∧w'.cell? ⟨gb272,1,none⟩ = some (.slice A0_1 l0_1.length c0_1)∧w'.cell? (ad273.add (x5_1).toNat) = some (.int .i64 (rd l1 x5_1))∧w'.cell? (ad273.add (x5_1).toNat) = some (.int .i64 (rd l1 x5_1))∧w'.cell? (ad273.add ((ji9)).toNat) = some (.int .i64 (rd l1 (ji9)))) (ds:=[]) (ba 23 0) (by kernel_rfl) rfl rfl ⟨(blk_cell BK272.out 0).trans rfl,(blk_cell BK272.out 1).trans rfl,((HB.out.cell (wbl hw273_0)).trans hw273_0),((HB.out.cell (wbl hw275_0)).trans hw275_0),((HB.out.cell (wbl hw276_0)).trans hw276_0)⟩ (fun hHeld=>?_);refine with_tabW q8_Some.tab4 q8_Some.bits4 (fun HT_ HW_=>?_)
    generalize wr.drew = w13 at BK272 HB hx273_0 hx275_0 hx276_0 hHeld ⊢
    refine pure_ (i:=1) (N:=some 13) (v:=?_) (a':=?_) (ba 23 2) rfl rfl (any_of HT_.out (by kernel_rfl)) (fun _ _ _ h=>h) (Or.inl ⟨by rfl,?_⟩) ?_ ?_
    rotate_left
    ·intro w'
     go_simp
     with_reducible rfl
    rotate_left
    ·simp only [Act.put,NRM]
     rfl
    refine pure_ (i:=2) (N:=some 14) (v:=?_) (a':=?_) (ba 23 6) rfl rfl (any_of HT_.out (by kernel_rfl)) (fun _ _ _ h=>h) (Or.inl ⟨by rfl,?_⟩) ?_ ?_
    rotate_left
    ·intro w'
     go_simp
     with_reducible rfl
    rotate_left
    ·simp only [Act.put,NRM]
     rfl
    refine pure_ (i:=3) (N:=some 15) (v:=?_) (a':=?_) (ba 23 14) rfl rfl (any_of HT_.out (by kernel_rfl)) (fun _ _ _ h=>h) (Or.inl ⟨by rfl,?_⟩) ?_ ?_
    rotate_left
    ·intro w'
     go_simp
     with_reducible rfl
    rotate_left
    ·simp only [Act.put,NRM]
     rfl
    refine take_ (i:=0) (N:=some 12) (v:=?_) (a':=?_) (ba 23 15) rfl rfl (take_ofW HT_.out HW_.out (by kernel_rfl)) (fun _ _ _ h=>h) (Or.inl ⟨by rfl,?_⟩) hHeld ?_ ?_
    rotate_left
    ·rintro w' ⟨s0,s1,s2,s3,s4⟩
     go_simp
     with_reducible rfl
    rotate_left
    ·simp only [Act.put,NRM]
     rfl
    refine take_ (i:=4) (N:=some 16) (v:=?_) (a':=?_) (ba 23 31) rfl rfl (take_ofW HT_.out HW_.out (by kernel_rfl)) (fun _ _ _ h=>h) (Or.inl ⟨by rfl,?_⟩) hHeld ?_ ?_
    rotate_left
    ·rintro w' ⟨s0,s1,s2,s3,s4⟩
     go_simp
     with_reducible rfl
    rotate_left
    ·simp only [Act.put,NRM]
     rfl
    refine one_ (i:=5) (N:=some 17) (ba 23 63) rfl rfl (one_of HT_.out (by kernel_rfl)) (by decide) (fun K hK=>?_)
    refine goes_ Tryz.func42 (by kernel_rfl) rfl #[.agg #[.slice A0_0 l0_0.length c0_0,.slice A0_1 l0_1.length c0_1],.int .i64 (rd l1 x5_1)] (by rfl) rfl rfl (by (try simp only [List.map_toArray,List.map_cons,List.map_nil]);first | done | rfl | (simp only [List.length_drop,List.length_take];rfl)) ?_
    with_reducible refine (q8_Gate.calls _ _ l0_0 _ _ l0_1 (rd l1 x5_1) true _ ?side1 ?side2 ?side3 ?side4 A6.out).mono ?_
    (case side1=>exact kC HR0_0.out HB.out)
    (case side2=>exact HC0_0.out)
    (case side3=>exact kC HR0_1.out HB.out)
    (case side4=>exact HC0_1.out)
    rintro e w14 ⟨rfl,hb⟩
    refine ⟨_,rfl,?_⟩
    replace BK272:=(kmv hb BK272)
    replace HB:=am (below_step (HB.out) hb)
    (try clear hb)
    (try clear hb2)
    (try clear hk)
    (try clear hi)
    refine hK.out _ _ ⟨(blk_cell BK272.out 0).trans rfl,(blk_cell BK272.out 1).trans rfl,((HB.out.cell (wbl hw273_0)).trans hw273_0),((HB.out.cell (wbl hw275_0)).trans hw275_0),((HB.out.cell (wbl hw276_0)).trans hw276_0)⟩ (fun hHeld=>?_)
    clear hK K
    refine norm_ (a':=?_) ?_ ?_
    rotate_left
    ·show Act.put _ (some 17) _ = _
     simp only [Act.put,NRM]
     rfl
    refine pure_ (i:=6) (N:=some 18) (v:=?_) (a':=?_) (ba 23 127) rfl rfl (any_of HT_.out (by kernel_rfl)) (fun _ _ _ h=>h) (Or.inl ⟨by rfl,?_⟩) ?_ ?_
    rotate_left
    ·intro w'
     go_simp
     with_reducible rfl
    rotate_left
    ·simp only [Act.put,NRM]
     rfl
    refine pure_ (i:=7) (N:=some 19) (v:=?_) (a':=?_) (ba 23 255) rfl rfl (any_of HT_.out (by kernel_rfl)) (fun _ _ _ h=>h) (Or.inl ⟨by rfl,?_⟩) ?_ ?_
    rotate_left
    ·intro w'
     go_simp
     with_reducible rfl
    rotate_left
    ·simp only [Act.put,NRM]
     rfl
    refine pure_ (i:=8) (N:=some 20) (v:=?_) (a':=?_) (ba 23 511) rfl rfl (any_of HT_.out (by kernel_rfl)) (fun _ _ _ h=>h) (Or.inl ⟨by rfl,?_⟩) ?_ ?_
    rotate_left
    ·intro w'
     go_simp
     with_reducible rfl
    rotate_left
    ·simp only [Act.put,NRM]
     rfl
    refine pure_ (i:=9) (N:=some 21) (v:=?_) (a':=?_) (ba 23 1023) rfl rfl (any_of HT_.out (by kernel_rfl)) (fun _ _ _ h=>h) (Or.inl ⟨by rfl,?_⟩) ?_ ?_
    rotate_left
    ·intro w'
     go_simp
     with_reducible rfl
    rotate_left
    ·simp only [Act.put,NRM]
     rfl
    refine pure_ (i:=10) (N:=some 22) (v:=?_) (a':=?_) (ba 23 2047) rfl rfl (any_of HT_.out (by kernel_rfl)) (fun _ _ _ h=>h) (Or.inl ⟨by rfl,?_⟩) ?_ ?_
    rotate_left
    ·intro w'
     go_simp
     with_reducible rfl
    rotate_left
    ·simp only [Act.put,NRM]
     rfl
    refine pure_ (i:=11) (N:=some 23) (v:=?_) (a':=?_) (ba 23 4095) rfl rfl (any_of HT_.out (by kernel_rfl)) (fun _ _ _ h=>h) (Or.inl ⟨by rfl,?_⟩) ?_ ?_
    rotate_left
    ·intro w'
     go_simp
     with_reducible rfl
    rotate_left
    ·simp only [Act.put,NRM]
     rfl
    refine pure_ (i:=12) (N:=some 24) (v:=?_) (a':=?_) (ba 23 8191) rfl rfl (any_of HT_.out (by kernel_rfl)) (fun _ _ _ h=>h) (Or.inl ⟨by rfl,?_⟩) ?_ ?_
    rotate_left
    ·intro w'
     go_simp
     with_reducible rfl
    rotate_left
    ·simp only [Act.put,NRM]
     rfl
    refine pure_ (i:=13) (N:=some 25) (v:=?_) (a':=?_) (ba 23 16383) rfl rfl (any_of HT_.out (by kernel_rfl)) (fun _ _ _ h=>h) (Or.inl ⟨by rfl,?_⟩) ?_ ?_
    rotate_left
    ·intro w'
     go_simp
     with_reducible rfl
    rotate_left
    ·simp only [Act.put,NRM]
     rfl
    refine pure_ (i:=15) (N:=some 27) (v:=?_) (a':=?_) (ba 23 49151) rfl rfl (any_of HT_.out (by kernel_rfl)) (fun _ _ _ h=>h) (Or.inl ⟨by rfl,?_⟩) ?_ ?_
    rotate_left
    ·intro w'
     go_simp
     with_reducible rfl
    rotate_left
    ·simp only [Act.put,NRM]
     rfl
    refine pure_ (i:=16) (N:=some 28) (v:=?_) (a':=?_) (ba 23 114687) rfl rfl (any_of HT_.out (by kernel_rfl)) (fun _ _ _ h=>h) (Or.inl ⟨by rfl,?_⟩) ?_ ?_
    rotate_left
    ·intro w'
     go_simp
     with_reducible rfl
    rotate_left
    ·simp only [Act.put,NRM]
     rfl
    refine pure_ (i:=17) (N:=some 29) (v:=?_) (a':=?_) (ba 23 245759) rfl rfl (any_of HT_.out (by kernel_rfl)) (fun _ _ _ h=>h) (Or.inl ⟨by rfl,?_⟩) ?_ ?_
    rotate_left
    ·intro w'
     go_simp
     with_reducible rfl
    rotate_left
    ·simp only [Act.put,NRM]
     rfl
    refine pure_ (i:=18) (N:=some 30) (v:=?_) (a':=?_) (ba 23 507903) rfl rfl (any_of HT_.out (by kernel_rfl)) (fun _ _ _ h=>h) (Or.inl ⟨by rfl,?_⟩) ?_ ?_
    rotate_left
    ·intro w'
     go_simp
     with_reducible rfl
    rotate_left
    ·simp only [Act.put,NRM]
     rfl
    refine take_ (i:=14) (N:=some 26) (v:=?_) (a':=?_) (ba 23 524287) rfl rfl (take_ofW HT_.out HW_.out (by kernel_rfl)) (fun _ _ _ h=>h) (Or.inl ⟨by rfl,?_⟩) hHeld ?_ ?_
    rotate_left
    ·rintro w' ⟨s0,s1,s2,s3,s4⟩
     go_simp
     with_reducible rfl
    rotate_left
    ·simp only [Act.put,NRM]
     rfl
    refine take_ (i:=19) (N:=some 31) (v:=?_) (a':=?_) (ba 23 1048575) rfl rfl (take_ofW HT_.out HW_.out (by kernel_rfl)) (fun _ _ _ h=>h) (Or.inl ⟨by rfl,?_⟩) hHeld ?_ ?_
    rotate_left
    ·rintro w' ⟨s0,s1,s2,s3,s4⟩
     go_simp
     with_reducible rfl
    rotate_left
    ·simp only [Act.put,NRM]
     rfl
    refine pure_ (i:=20) (N:=some 32) (v:=?_) (a':=?_) (ba 23 2097151) rfl rfl (any_of HT_.out (by kernel_rfl)) (fun _ _ _ h=>h) (Or.inl ⟨by rfl,?_⟩) ?_ ?_
    rotate_left
    ·intro w'
     go_simp
     with_reducible rfl
    rotate_left
    ·simp only [Act.put,NRM]
     rfl
    refine pure_ (i:=21) (N:=some 33) (v:=?_) (a':=?_) (ba 23 4194303) rfl rfl (any_of HT_.out (by kernel_rfl)) (fun _ _ _ h=>h) (Or.inl ⟨by rfl,?_⟩) ?_ ?_
    rotate_left
    ·intro w'
     go_simp
     with_reducible rfl
    rotate_left
    ·simp only [Act.put,NRM]
     rfl
    refine pure_ (i:=22) (N:=some 34) (v:=?_) (a':=?_) (ba 23 8388607) rfl rfl (any_of HT_.out (by kernel_rfl)) (fun _ _ _ h=>h) (Or.inl ⟨by rfl,?_⟩) ?_ ?_
    rotate_left
    ·intro w'
     go_simp
     with_reducible rfl
    rotate_left
    ·simp only [Act.put,NRM]
     rfl
    refine done_ (done_of HT_.out (by kernel_rfl)) ?_
    try go_wp2
    go_ret
    exact ⟨by first | rfl | (simp [errW_none,errW_some]<;>rfl) | (simp only [← hji9];first | rfl | (simp [errW_none,errW_some]<;>rfl)) | (simp [*,errW_none,errW_some]<;>rfl),HB.out⟩
   ·rw [if_neg c12] at H
    have c12b0 : decide ((rd l1 x5_1)≤(rd l1 (ji9))) = false:=decide_eq_false c12
    clear c12
    replace H':=am H
    try go_wp2
    replace BK272:=am (blk_drew BK272.out)
    replace HB:=am (below_drew1 HB.out)
    have p273 : 0≤(x5_1 : Int):=of_decide_eq_true (by assumption)
    have q273 : x5_1 < (l1.length : Int):=of_decide_eq_true (by assumption)
    obtain ⟨ad273,e273,hx273_0⟩:=Kd.at_int HR1.out x5_1 p273 q273
    have hw273_0:=hx273_0
    cases e273
    replace hx273_0:=(HB.out.cell (wbl hx273_0)).trans hx273_0
    replace p273:=eq_true p273
    replace q273:=eq_true q273
    have p275 : 0≤(x5_1 : Int):=of_decide_eq_true (by assumption)
    have q275 : x5_1 < (l1.length : Int):=of_decide_eq_true (by assumption)
    obtain ⟨ad275,e275,hx275_0⟩:=Kd.at_int HR1.out x5_1 p275 q275
    have hw275_0:=hx275_0
    obtain rfl : ad273 = ad275:=(by injection e275)
    replace hx275_0:=(HB.out.cell (wbl hx275_0)).trans hx275_0
    replace p275:=eq_true p275
    replace q275:=eq_true q275
    have p276 : 0≤((ji9) : Int):=of_decide_eq_true (by assumption)
    have q276 : (ji9) < (l1.length : Int):=of_decide_eq_true (by assumption)
    obtain ⟨ad276,e276,hx276_0⟩:=Kd.at_int HR1.out (ji9) p276 q276
    have hw276_0:=hx276_0
    obtain rfl : ad273 = ad276:=(by injection e276)
    replace hx276_0:=(HB.out.cell (wbl hx276_0)).trans hx276_0
    replace p276:=eq_true p276
    replace q276:=eq_true q276
    refine start_ (n:=23) (S:=fun w'=>w'.cell? ⟨gb272,0,none⟩ = some (.slice A0_0 l0_0.length c0_0)∧w'.cell? ⟨gb272,1,none⟩ = some (.slice A0_1 l0_1.length c0_1)∧w'.cell? (ad273.add (x5_1).toNat) = some (.int .i64 (rd l1 x5_1))∧w'.cell? (ad273.add (x5_1).toNat) = some (.int .i64 (rd l1 x5_1))∧w'.cell? (ad273.add ((ji9)).toNat) = some (.int .i64 (rd l1 (ji9)))) (ds:=[]) (ba 23 0) (by kernel_rfl) rfl rfl ⟨(blk_cell BK272.out 0).trans rfl,(blk_cell BK272.out 1).trans rfl,((HB.out.cell (wbl hw273_0)).trans hw273_0),((HB.out.cell (wbl hw275_0)).trans hw275_0),((HB.out.cell (wbl hw276_0)).trans hw276_0)⟩ (fun hHeld=>?_);refine with_tabW q8_Some.tab4 q8_Some.bits4 (fun HT_ HW_=>?_)
    generalize wr.drew = w15 at BK272 HB hx273_0 hx275_0 hx276_0 hHeld ⊢
    refine pure_ (i:=1) (N:=some 13) (v:=?_) (a':=?_) (ba 23 2) rfl rfl (any_of HT_.out (by kernel_rfl)) (fun _ _ _ h=>h) (Or.inl ⟨by rfl,?_⟩) ?_ ?_
    rotate_left
    ·intro w'
     go_simp
     with_reducible rfl
    rotate_left
    ·simp only [Act.put,NRM]
     rfl
    refine pure_ (i:=2) (N:=some 14) (v:=?_) (a':=?_) (ba 23 6) rfl rfl (any_of HT_.out (by kernel_rfl)) (fun _ _ _ h=>h) (Or.inl ⟨by rfl,?_⟩) ?_ ?_
    rotate_left
    ·intro w'
     go_simp
     with_reducible rfl
    rotate_left
    ·simp only [Act.put,NRM]
     rfl
    refine pure_ (i:=3) (N:=some 15) (v:=?_) (a':=?_) (ba 23 14) rfl rfl (any_of HT_.out (by kernel_rfl)) (fun _ _ _ h=>h) (Or.inl ⟨by rfl,?_⟩) ?_ ?_
    rotate_left
    ·intro w'
     go_simp
     with_reducible rfl
    rotate_left
    ·simp only [Act.put,NRM]
     rfl
    refine take_ (i:=0) (N:=some 12) (v:=?_) (a':=?_) (ba 23 15) rfl rfl (take_ofW HT_.out HW_.out (by kernel_rfl)) (fun _ _ _ h=>h) (Or.inl ⟨by rfl,?_⟩) hHeld ?_ ?_
    rotate_left
    ·rintro w' ⟨s0,s1,s2,s3,s4⟩
     go_simp
     with_reducible rfl
    rotate_left
    ·simp only [Act.put,NRM]
     rfl
    refine take_ (i:=4) (N:=some 16) (v:=?_) (a':=?_) (ba 23 31) rfl rfl (take_ofW HT_.out HW_.out (by kernel_rfl)) (fun _ _ _ h=>h) (Or.inl ⟨by rfl,?_⟩) hHeld ?_ ?_
    rotate_left
    ·rintro w' ⟨s0,s1,s2,s3,s4⟩
     go_simp
     with_reducible rfl
    rotate_left
    ·simp only [Act.put,NRM]
     rfl
    refine one_ (i:=5) (N:=some 17) (ba 23 63) rfl rfl (one_of HT_.out (by kernel_rfl)) (by decide) (fun K hK=>?_)
    refine goes_ Tryz.func42 (by kernel_rfl) rfl #[.agg #[.slice A0_0 l0_0.length c0_0,.slice A0_1 l0_1.length c0_1],.int .i64 (rd l1 x5_1)] (by rfl) rfl rfl (by (try simp only [List.map_toArray,List.map_cons,List.map_nil]);first | done | rfl | (simp only [List.length_drop,List.length_take];rfl)) ?_
    with_reducible refine (q8_Gate.calls _ _ l0_0 _ _ l0_1 (rd l1 x5_1) true _ ?side1 ?side2 ?side3 ?side4 A6.out).mono ?_
    (case side1=>exact kC HR0_0.out HB.out)
    (case side2=>exact HC0_0.out)
    (case side3=>exact kC HR0_1.out HB.out)
    (case side4=>exact HC0_1.out)
    rintro e w16 ⟨rfl,hb⟩
    refine ⟨_,rfl,?_⟩
    replace BK272:=(kmv hb BK272)
    replace HB:=am (below_step (HB.out) hb)
    (try clear hb)
    (try clear hb2)
    (try clear hk)
    (try clear hi)
    refine hK.out _ _ ⟨(blk_cell BK272.out 0).trans rfl,(blk_cell BK272.out 1).trans rfl,((HB.out.cell (wbl hw273_0)).trans hw273_0),((HB.out.cell (wbl hw275_0)).trans hw275_0),((HB.out.cell (wbl hw276_0)).trans hw276_0)⟩ (fun hHeld=>?_)
    clear hK K
    refine norm_ (a':=?_) ?_ ?_
    rotate_left
    ·show Act.put _ (some 17) _ = _
     simp only [Act.put,NRM]
     rfl
    refine pure_ (i:=6) (N:=some 18) (v:=?_) (a':=?_) (ba 23 127) rfl rfl (any_of HT_.out (by kernel_rfl)) (fun _ _ _ h=>h) (Or.inl ⟨by rfl,?_⟩) ?_ ?_
    rotate_left
    ·intro w'
     go_simp
     with_reducible rfl
    rotate_left
    ·simp only [Act.put,NRM]
     rfl
    refine pure_ (i:=7) (N:=some 19) (v:=?_) (a':=?_) (ba 23 255) rfl rfl (any_of HT_.out (by kernel_rfl)) (fun _ _ _ h=>h) (Or.inl ⟨by rfl,?_⟩) ?_ ?_
    rotate_left
    ·intro w'
     go_simp
     with_reducible rfl
    rotate_left
    ·simp only [Act.put,NRM]
     rfl
    refine pure_ (i:=8) (N:=some 20) (v:=?_) (a':=?_) (ba 23 511) rfl rfl (any_of HT_.out (by kernel_rfl)) (fun _ _ _ h=>h) (Or.inl ⟨by rfl,?_⟩) ?_ ?_
    rotate_left
    ·intro w'
     go_simp
     with_reducible rfl
    rotate_left
    ·simp only [Act.put,NRM]
     rfl
    refine pure_ (i:=9) (N:=some 21) (v:=?_) (a':=?_) (ba 23 1023) rfl rfl (any_of HT_.out (by kernel_rfl)) (fun _ _ _ h=>h) (Or.inl ⟨by rfl,?_⟩) ?_ ?_
    rotate_left
    ·intro w'
     go_simp
     with_reducible rfl
    rotate_left
    ·simp only [Act.put,NRM]
     rfl
    refine pure_ (i:=10) (N:=some 22) (v:=?_) (a':=?_) (ba 23 2047) rfl rfl (any_of HT_.out (by kernel_rfl)) (fun _ _ _ h=>h) (Or.inl ⟨by rfl,?_⟩) ?_ ?_
    rotate_left
    ·intro w'
     go_simp
     with_reducible rfl
    rotate_left
    ·simp only [Act.put,NRM]
     rfl
    refine pure_ (i:=11) (N:=some 23) (v:=?_) (a':=?_) (ba 23 4095) rfl rfl (any_of HT_.out (by kernel_rfl)) (fun _ _ _ h=>h) (Or.inl ⟨by rfl,?_⟩) ?_ ?_
    rotate_left
    ·intro w'
     go_simp
     with_reducible rfl
    rotate_left
    ·simp only [Act.put,NRM]
     rfl
    refine pure_ (i:=12) (N:=some 24) (v:=?_) (a':=?_) (ba 23 8191) rfl rfl (any_of HT_.out (by kernel_rfl)) (fun _ _ _ h=>h) (Or.inl ⟨by rfl,?_⟩) ?_ ?_
    rotate_left
    ·intro w'
     go_simp
     with_reducible rfl
    rotate_left
    ·simp only [Act.put,NRM]
     rfl
    refine pure_ (i:=13) (N:=some 25) (v:=?_) (a':=?_) (ba 23 16383) rfl rfl (any_of HT_.out (by kernel_rfl)) (fun _ _ _ h=>h) (Or.inl ⟨by rfl,?_⟩) ?_ ?_
    rotate_left
    ·intro w'
     go_simp
     with_reducible rfl
    rotate_left
    ·simp only [Act.put,NRM]
     rfl
    refine pure_ (i:=15) (N:=some 27) (v:=?_) (a':=?_) (ba 23 49151) rfl rfl (any_of HT_.out (by kernel_rfl)) (fun _ _ _ h=>h) (Or.inl ⟨by rfl,?_⟩) ?_ ?_
    rotate_left
    ·intro w'
     go_simp
     with_reducible rfl
    rotate_left
    ·simp only [Act.put,NRM]
     rfl
    refine pure_ (i:=16) (N:=some 28) (v:=?_) (a':=?_) (ba 23 114687) rfl rfl (any_of HT_.out (by kernel_rfl)) (fun _ _ _ h=>h) (Or.inl ⟨by rfl,?_⟩) ?_ ?_
    rotate_left
    ·intro w'
     go_simp
     with_reducible rfl
    rotate_left
    ·simp only [Act.put,NRM]
     rfl
    refine pure_ (i:=17) (N:=some 29) (v:=?_) (a':=?_) (ba 23 245759) rfl rfl (any_of HT_.out (by kernel_rfl)) (fun _ _ _ h=>h) (Or.inl ⟨by rfl,?_⟩) ?_ ?_
    rotate_left
    ·intro w'
     go_simp
     with_reducible rfl
    rotate_left
    ·simp only [Act.put,NRM]
     rfl
    refine pure_ (i:=18) (N:=some 30) (v:=?_) (a':=?_) (ba 23 507903) rfl rfl (any_of HT_.out (by kernel_rfl)) (fun _ _ _ h=>h) (Or.inl ⟨by rfl,?_⟩) ?_ ?_
    rotate_left
    ·intro w'
     go_simp
     with_reducible rfl
    rotate_left
    ·simp only [Act.put,NRM]
     rfl
    refine take_ (i:=14) (N:=some 26) (v:=?_) (a':=?_) (ba 23 524287) rfl rfl (take_ofW HT_.out HW_.out (by kernel_rfl)) (fun _ _ _ h=>h) (Or.inl ⟨by rfl,?_⟩) hHeld ?_ ?_
    rotate_left
    ·rintro w' ⟨s0,s1,s2,s3,s4⟩
     go_simp
     with_reducible rfl
    rotate_left
    ·simp only [Act.put,NRM]
     rfl
    refine take_ (i:=19) (N:=some 31) (v:=?_) (a':=?_) (ba 23 1048575) rfl rfl (take_ofW HT_.out HW_.out (by kernel_rfl)) (fun _ _ _ h=>h) (Or.inl ⟨by rfl,?_⟩) hHeld ?_ ?_
    rotate_left
    ·rintro w' ⟨s0,s1,s2,s3,s4⟩
     go_simp
     with_reducible rfl
    rotate_left
    ·simp only [Act.put,NRM]
     rfl
    refine pure_ (i:=20) (N:=some 32) (v:=?_) (a':=?_) (ba 23 2097151) rfl rfl (any_of HT_.out (by kernel_rfl)) (fun _ _ _ h=>h) (Or.inl ⟨by rfl,?_⟩) ?_ ?_
    rotate_left
    ·intro w'
     go_simp
     with_reducible rfl
    rotate_left
    ·simp only [Act.put,NRM]
     rfl
    refine pure_ (i:=21) (N:=some 33) (v:=?_) (a':=?_) (ba 23 4194303) rfl rfl (any_of HT_.out (by kernel_rfl)) (fun _ _ _ h=>h) (Or.inl ⟨by rfl,?_⟩) ?_ ?_
    rotate_left
    ·intro w'
     go_simp
     with_reducible rfl
    rotate_left
    ·simp only [Act.put,NRM]
     rfl
    refine pure_ (i:=22) (N:=some 34) (v:=?_) (a':=?_) (ba 23 8388607) rfl rfl (any_of HT_.out (by kernel_rfl)) (fun _ _ _ h=>h) (Or.inl ⟨by rfl,?_⟩) ?_ ?_
    rotate_left
    ·intro w'
     go_simp
     with_reducible rfl
    rotate_left
    ·simp only [Act.put,NRM]
     rfl
    refine done_ (done_of HT_.out (by kernel_rfl)) ?_
    try go_wp2
    go_roundg k1
    case measure=>have:=HK1.out;omega
    case rel=>exact ⟨(wrap64 (x5_1 + 1)),(by first | rfl | (simp;done) | (simp [*];done)),H',⟨by have:=HK1.out;omega⟩,⟨BK272.out⟩,⟨HB.out⟩⟩
set_option linter.unusedSimpArgs false
def q8_Listed.l0 : Nat→List Int→Int→Int→Option (Bool)
 | 0,_,_,_=>none
 | k + 1,x0,x1,x5=>if x5 < (x0.length : Int) then (if 0≤x5 then (if (rd x0 x5) = x1 then (some true) else (q8_Listed.l0 k x0 x1 (wrap64 (x5 + 1)))) else (none)) else (some false)
def q8_Listed.f (k : Nat) (l0 : List Int) (a1 : Int) : Option (Bool):=q8_Listed.l0 k l0 a1 0
theorem q8_Listed.calls (k : Nat) (A0 : Option Addr) (c0 : Nat) (l0 : List Int) (a1 : Int) (r : Bool) (w : World) (hr0 : Kd.C (Kd.int .i64) w A0 l0.length l0) (hc0 : l0.length≤c0) (h : q8_Listed.f k l0 a1 = some r) :
 Calls Tryz.prog 43 #[.slice A0 l0.length c0,.int .i64 a1] w fun e w'=>e = .returned (.bool r)∧Drawn0 w w':=by
 have HR0:=am hr0
 have HC0:=am hc0
 clear hr0 hc0
 have H : (q8_Listed.l0 k l0 a1 0) = some r:=h
 clear h
 replace H':=am H
 go_enter Tryz.func43,Tryz.ntmps43
 go_wp2
 go_loopg [5] k (fun kq v5 w'=>∃ (x5_1 : Int),v5 = .int .i64 x5_1∧Aside0 (q8_Listed.l0 kq l0 a1 x5_1 = some r)∧Aside0 (kq≤k)∧Drawn0 w w')
 case atStart=>exact ⟨(0),(by first | rfl | (simp;done) | (simp [*];done)),H',⟨Nat.le_refl _⟩,by repeat (first | exact Drawn0.refl _ | apply Drawn0.step)⟩
 case round =>
  clear H'
  obtain ⟨x5_1,rfl,HA,HK1,⟨m1,rfl⟩⟩:=hrel
  cases gk with
  | zero=>exact absurd HA.out (by simp [q8_Listed.l0])
  | succ k1 =>
   have H:=HA.out
   clear HA
   simp only [q8_Listed.l0] at H
   by_cases c3 : x5_1 < (l0.length : Int)
   case neg =>
    rw [if_neg c3] at H
    have c3b0 : decide (x5_1 < (l0.length : Int)) = false:=decide_eq_false c3
    clear c3
    obtain rfl:=Option.some.inj H
    go_wp2
    go_ret
    exact ⟨by first | rfl | (simp;done) | (simp [*];done),by repeat (first | exact Drawn0.refl _ | apply Drawn0.step)⟩
   rw [if_pos c3] at H
   have c3b0 : decide (x5_1 < (l0.length : Int)) = true:=decide_eq_true c3
   clear c3
   by_cases c4 : 0≤x5_1
   case neg =>
    rw [if_neg c4] at H
    exact absurd H (by simp)
   rw [if_pos c4] at H
   have c4b0 : decide (0≤x5_1) = true:=decide_eq_true c4
   clear c4
   by_cases c5 : (rd l0 x5_1) = a1
   ·rw [if_pos c5] at H
    have c5b0 : ((rd l0 x5_1) == a1) = true:=beq_iff_eq.mpr c5
    have c5b1 : ((rd l0 x5_1) != a1) = false:=bne_eq_false_iff_eq.mpr c5
    clear c5
    obtain rfl:=Option.some.inj H
    have p280 : 0≤(x5_1 : Int):=of_decide_eq_true (by assumption)
    have q280 : x5_1 < (l0.length : Int):=of_decide_eq_true (by assumption)
    obtain ⟨ad280,e280,hx280_0⟩:=Kd.at_int HR0.out x5_1 p280 q280
    cases e280
    replace p280:=eq_true p280
    replace q280:=eq_true q280
    go_wp2
    go_ret
    exact ⟨by first | rfl | (simp;done) | (simp [*];done),by repeat (first | exact Drawn0.refl _ | apply Drawn0.step)⟩
   ·rw [if_neg c5] at H
    have c5b0 : ((rd l0 x5_1) == a1) = false:=beq_eq_false_iff_ne.mpr c5
    have c5b1 : ((rd l0 x5_1) != a1) = true:=bne_iff_ne.mpr c5
    replace H':=am H
    have p280 : 0≤(x5_1 : Int):=of_decide_eq_true (by assumption)
    have q280 : x5_1 < (l0.length : Int):=of_decide_eq_true (by assumption)
    obtain ⟨ad280,e280,hx280_0⟩:=Kd.at_int HR0.out x5_1 p280 q280
    cases e280
    replace p280:=eq_true p280
    replace q280:=eq_true q280
    go_wp2
    go_roundg k1
    case measure=>have:=HK1.out;omega
    case rel=>exact ⟨(wrap64 (x5_1 + 1)),(by first | rfl | (simp;done) | (simp [*];done)),H',⟨by have:=HK1.out;omega⟩,by repeat (first | exact Drawn0.refl _ | apply Drawn0.step)⟩
def l8_short.f (l0_0 : List (S37)) (l0_1 : List (S65)) : Option (Bool):=if (l0_0.length : Int)≤9 then (some (decide ((l0_1.length : Int)≤13))) else (some false)
theorem l8_short.calls (A0_0 : Option Addr) (c0_0 : Nat) (l0_0 : List (S37)) (A0_1 : Option Addr) (c0_1 : Nat) (l0_1 : List (S65)) (r : Bool) (w : World) (hr0_0 : Kd.C k37 w A0_0 l0_0.length l0_0) (hc0_0 : l0_0.length≤c0_0) (hr0_1 : Kd.C k65 w A0_1 l0_1.length l0_1) (hc0_1 : l0_1.length≤c0_1) (h : l8_short.f l0_0 l0_1 = some r) :
 Calls Tryz.prog 14 #[.agg #[.slice A0_0 l0_0.length c0_0,.slice A0_1 l0_1.length c0_1]] w fun e w'=>e = .returned (.bool r)∧Below w.heap.size w w':=by
 have hu25:=Tryz.underlying25
 have HR0_0:=am hr0_0
 have HC0_0:=am hc0_0
 clear hr0_0 hc0_0
 have HR0_1:=am hr0_1
 have HC0_1:=am hc0_1
 clear hr0_1 hc0_1
 have HB:=am (Below.refl w.heap.size w)
 have H : (if (l0_0.length : Int)≤9 then (some (decide ((l0_1.length : Int)≤13))) else (some false)) = some r:=h
 clear h
 by_cases c2 : (l0_0.length : Int)≤9
 ·rw [if_pos c2] at H
  have c2b0 : decide ((l0_0.length : Int)≤9) = true:=decide_eq_true c2
  have c2b1 : decide (l0_0.length≤9) = true:=decide_eq_true (by omega)
  clear c2
  obtain rfl:=Option.some.inj H
  go_enter Tryz.func14,Tryz.ntmps14
  go_wp2_with (first | ((refine ga_dst (N:=1) rfl ?_);(try (refine ga_guard (by rfl) ?_;dsimp only));refine box_event rfl (N:=1) rfl (cs:=#[.slice A0_0 l0_0.length c0_0,.slice A0_1 l0_1.length c0_1]) (t:=25) ?hr ?_;(case hr=>go_simp;try rfl);intro gb101 hg w3 hbox hb;have BK101:=am (hbox);have GW101:=am (ge_new (HB.out) hg);have GE101:=am (ge_new (HB.out) hg);replace HB:=am (below_step (HB.out) hb);clear hb hbox hg;obtain ⟨hcz4_0,hcz4_1⟩:=cO2 BK101.out))
  go_ret
  exact ⟨by first | rfl | (simp [*]<;>rfl),HB.out⟩
 ·rw [if_neg c2] at H
  have c2b0 : decide ((l0_0.length : Int)≤9) = false:=decide_eq_false c2
  have c2b1 : decide (l0_0.length≤9) = false:=decide_eq_false (by omega)
  clear c2
  obtain rfl:=Option.some.inj H
  go_enter Tryz.func14,Tryz.ntmps14
  go_wp2_with (first | ((refine ga_dst (N:=1) rfl ?_);(try (refine ga_guard (by rfl) ?_;dsimp only));refine box_event rfl (N:=1) rfl (cs:=#[.slice A0_0 l0_0.length c0_0,.slice A0_1 l0_1.length c0_1]) (t:=25) ?hr ?_;(case hr=>go_simp;try rfl);intro gb101 hg w5 hbox hb;have BK101:=am (hbox);have GW101:=am (ge_new (HB.out) hg);have GE101:=am (ge_new (HB.out) hg);replace HB:=am (below_step (HB.out) hb);clear hb hbox hg;obtain ⟨hcz6_0,hcz6_1⟩:=cO2 BK101.out))
  go_ret
  exact ⟨by first | rfl | (simp [*]<;>rfl),HB.out⟩
abbrev Pt:=S37
abbrev Ch:=S65
theorem wr {x : Int} (h0 : -1000000000000≤x) (h1 : x≤1000000000000) : wrap64 x = x:=by unfold wrap64;omega
def allFrom (P : Nat→Bool) : Nat→Nat→Bool
 | 0,_=>true
 | d + 1,i=>P i && allFrom P d (i + 1)
theorem allFrom_iff {P : Nat→Bool} : ∀ {d i : Nat},allFrom P d i = true↔∀ j,i≤j→j < i + d→P j = true
 | 0,i=>by simp only [allFrom,true_iff];intro j h1 h2;omega
 | d + 1,i=>by
  simp only [allFrom,Bool.and_eq_true,allFrom_iff]
  constructor
  ·rintro ⟨h1,h2⟩ j h3 h4
   by_cases e : j = i
   ·subst e;exact h1
   ·exact h2 j (by omega) (by omega)
  ·exact fun h=>⟨h i (Nat.le_refl _) (by omega),fun j h1 h2=>h j (by omega) (by omega)⟩
def cupS (n : Int) : Bool:=decide (0≤n∧n≤10000)
def ptS (p : Pt) : Bool:=cupS p.f0.f0 && (cupS p.f0.f1 && (decide (p.f0.f0≤p.f0.f1) && cupS p.f1))
def isPtS (n : Nat) (p : Int) : Bool:=decide (0≤p∧p < (n : Int))
def chS (n : Nat) (c : Ch) : Bool:=isPtS n c.f0 && (isPtS n c.f1 && (decide (c.f0 ≠ c.f1) && cupS c.f2))
def gatesFrom : Int→List Ch→List Int
 | _,[]=>[]
 | i,c :: cs=>if c.f3 = true then i :: gatesFrom (i + 1) cs else gatesFrom (i + 1) cs
def gatesL (ch : List Ch) : List Int:=gatesFrom 0 ch
def netS (pts : List Pt) (ch : List Ch) : Bool:=decide (1≤pts.length∧pts.length≤7) && (decide (ch.length≤10) && (pts.all ptS && (ch.all (chS pts.length) && decide ((gatesL ch).length≤7))))
def gateAt (ch : List Ch) (c : Int) : Bool:=decide (0≤c∧c < (ch.length : Int)) && (rd_T65 ch c).f3
def someS (ch : List Ch) (l : List Int) : Bool:=allFrom (fun j=>gateAt ch (l.getD j 0) && (decide (j = 0) || decide (l.getD (j - 1) 0 < l.getD j 0))) l.length 0
def shortB (pts : List Pt) (ch : List Ch) : Bool:=decide (pts.length≤9∧ch.length≤13)
section
variable {pts : List Pt} {ch : List Ch}
theorem short_eq : l8_short.f pts ch = some (shortB pts ch):=by
 unfold l8_short.f shortB
 by_cases h : (pts.length : Int)≤9
 ·rw [if_pos h];congr 1;rw [decide_eq_decide];omega
 ·rw [if_neg h];congr 1;symm;rw [decide_eq_false_iff_not];omega
theorem in_eq (a b c : Int) : ga_in.f a b c = some (decide (b≤a∧a≤c)):=by
 unfold ga_in.f
 split
 ·congr 1;rw [decide_eq_decide];omega
 ·congr 1;symm;rw [decide_eq_false_iff_not];omega
theorem rin_eq (a b c : Int) : q8_in.f a b c = some (decide (b≤a∧a≤c)):=by
 unfold q8_in.f
 split
 ·congr 1;rw [decide_eq_decide];omega
 ·congr 1;symm;rw [decide_eq_false_iff_not];omega
theorem isCups_eq (n : Int) : ga_isCups.f n = some (cupS n):=by unfold ga_isCups.f;rw [in_eq];rfl
theorem rcups_eq (n : Int) : q8_cups.f n = some (cupS n):=by unfold q8_cups.f;rw [rin_eq];rfl
theorem isPoint_eq (hp : pts.length≤1000) (p : Int) : ga_isPoint.f pts ch p = some (isPtS pts.length p):=by
 unfold ga_isPoint.f
 rw [in_eq,wr (by omega) (by omega)]
 simp only [Option.bind_some,isPtS]
 congr 1;rw [decide_eq_decide];omega
theorem rPoint_eq (hp : pts.length≤1000) (p : Int) : q8_Point.f pts ch p = some (isPtS pts.length p):=by
 unfold q8_Point.f
 rw [rin_eq,wr (by omega) (by omega)]
 simp only [Option.bind_some,isPtS]
 congr 1;rw [decide_eq_decide];omega
theorem isGate_eq (hc : ch.length≤1000) (c : Int) : ga_isGate.f pts ch c = some (gateAt ch c):=by
 unfold ga_isGate.f gateAt
 rw [in_eq,wr (by omega) (by omega)]
 simp only [Option.bind_some,decide_eq_true_eq]
 by_cases h : 0≤c∧c≤(ch.length : Int) - 1
 ·rw [if_pos h,if_pos h.1,if_pos (by omega),decide_eq_true (show 0≤c∧c < (ch.length : Int) by omega)];rfl
 ·rw [if_neg h,decide_eq_false (show ¬ (0≤c∧c < (ch.length : Int)) by omega)];rfl
theorem rGate_eq (hc : ch.length≤1000) (c : Int) : q8_Gate.f pts ch c = some (gateAt ch c):=by
 unfold q8_Gate.f gateAt
 rw [rin_eq,wr (by omega) (by omega)]
 simp only [Option.bind_some,decide_eq_true_eq]
 by_cases h : 0≤c∧c≤(ch.length : Int) - 1
 ·rw [if_pos h,if_pos h.1,if_pos (by omega),decide_eq_true (show 0≤c∧c < (ch.length : Int) by omega)];rfl
 ·rw [if_neg h,decide_eq_false (show ¬ (0≤c∧c < (ch.length : Int)) by omega)];rfl
theorem rd_nat (l : List Int) (i : Nat) : rd l (i : Int) = l.getD i 0:=rfl
theorem areGates_go (hc : ch.length≤1000) (l : List Int) (hl : l.length≤1000) : ∀ (d k i : Nat),i + d = l.length→d < k→
 ga_areGates.l0 k l l (l.length : Int) (i : Int) pts ch = some (allFrom (fun j=>gateAt ch (l.getD j 0) && (decide (j = 0) || decide (l.getD (j - 1) 0 < l.getD j 0))) d i)
 | _,0,_,_,hk=>by omega
 | 0,k + 1,i,hi,_=>by
  unfold ga_areGates.l0
  rw [if_neg (by omega)];rfl
 | d + 1,k + 1,i,hi,hk=>by
  have ih:=areGates_go hc l hl d k (i + 1) (by omega) (by omega)
  unfold ga_areGates.l0
  rw [if_pos (by omega),if_pos (by omega),if_pos (by omega),isGate_eq hc,rd_nat]
  simp only [Option.bind_some,allFrom]
  cases hg : gateAt ch (l.getD i 0) with
  | false=>rw [if_neg (by decide)];rfl
  | true =>
   rw [if_pos rfl]
   rw [show wrap64 ((i : Int) + 1) = ((i + 1 : Nat) : Int) by rw [wr (by omega) (by omega)];rfl,ih]
   by_cases h0 : i = 0
   ·subst h0
    rw [if_neg (by omega)];simp
   ·rw [if_pos (by omega),wr (by omega) (by omega),if_pos (by omega),if_pos (by omega),show (i : Int) - 1 = ((i - 1 : Nat) : Int) by omega,rd_nat]
    by_cases hle : l.getD i 0≤l.getD (i - 1) 0
    ·rw [if_pos hle,decide_eq_false h0,decide_eq_false (show ¬ l.getD (i - 1) 0 < l.getD i 0 by omega)];rfl
    ·rw [if_neg hle,decide_eq_true (show l.getD (i - 1) 0 < l.getD i 0 by omega)];simp
theorem areGates_eq (hc : ch.length≤1000) {l : List Int} (hl : l.length≤1000) {k : Nat} (hk : l.length < k) : ga_areGates.f k pts ch l = some (someS ch l):=areGates_go hc l hl l.length k 0 (by omega) hk
theorem rSome_go (hc : ch.length≤1000) (l : List Int) (hl : l.length≤1000) : ∀ (d k i : Nat),i + d = l.length→d < k→
 q8_Some.l0 k l (i : Int) pts ch = some (allFrom (fun j=>gateAt ch (l.getD j 0) && (decide (j = 0) || decide (l.getD (j - 1) 0 < l.getD j 0))) d i)
 | _,0,_,_,hk=>by omega
 | 0,k + 1,i,hi,_=>by
  unfold q8_Some.l0
  rw [if_neg (by omega)];rfl
 | d + 1,k + 1,i,hi,hk=>by
  have ih:=rSome_go hc l hl d k (i + 1) (by omega) (by omega)
  unfold q8_Some.l0
  rw [if_pos (by omega),if_pos (by omega),rGate_eq hc,rd_nat]
  simp only [Option.bind_some,allFrom]
  cases hg : gateAt ch (l.getD i 0) with
  | false=>rw [if_neg (by decide)];rfl
  | true =>
   rw [if_pos rfl]
   rw [show wrap64 ((i : Int) + 1) = ((i + 1 : Nat) : Int) by rw [wr (by omega) (by omega)];rfl,ih]
   by_cases h0 : i = 0
   ·subst h0
    rw [if_neg (by omega)];simp
   ·rw [if_pos (by omega),wr (by omega) (by omega),if_pos (by omega),if_pos (by omega),show (i : Int) - 1 = ((i - 1 : Nat) : Int) by omega,rd_nat]
    by_cases hle : l.getD i 0≤l.getD (i - 1) 0
    ·rw [if_pos hle,decide_eq_false h0,decide_eq_false (show ¬ l.getD (i - 1) 0 < l.getD i 0 by omega)];rfl
    ·rw [if_neg hle,decide_eq_true (show l.getD (i - 1) 0 < l.getD i 0 by omega)];simp
theorem rSome_eq (hc : ch.length≤1000) {l : List Int} (hl : l.length≤1000) {k : Nat} (hk : l.length < k) : q8_Some.f k pts ch l = some (someS ch l):=rSome_go hc l hl l.length k 0 (by omega) hk
theorem rdT_nat (l : List Ch) (i : Nat) (x : Ch) (rest : List Ch) (h : l.drop i = x :: rest) : rd_T65 l (i : Int) = x:=by
 have h2 : l[i]? = some x:=by
  have:=congrArg (fun z=>z[0]?) h
  simpa using this
 show l.getD i _ = x
 rw [List.getD_eq_getElem?_getD,h2];rfl
theorem rdP_nat (l : List Pt) (i : Nat) (x : Pt) (rest : List Pt) (h : l.drop i = x :: rest) : rd_T37 l (i : Int) = x:=by
 have h2 : l[i]? = some x:=by
  have:=congrArg (fun z=>z[0]?) h
  simpa using this
 show l.getD i _ = x
 rw [List.getD_eq_getElem?_getD,h2];rfl
theorem drop_succ {α : Type} {l : List α} {i : Nat} {x : α} {rest : List α} (h : l.drop i = x :: rest) : l.drop (i + 1) = rest∧i < l.length:=by
 refine ⟨by rw [← List.drop_drop,h];rfl,?_⟩
 have:=congrArg List.length h
 simp at this;omega
theorem gates_go (hc : ch.length≤1000) : ∀ (rest : List Ch) (k i : Nat) (acc : List Int),ch.drop i = rest→acc.length≤i→rest.length < k→
 ga_gates.l0 k acc ch (ch.length : Int) (i : Int) = some (acc ++ gatesFrom (i : Int) rest)
 | _,0,_,_,_,_,hk=>by omega
 | [],k + 1,i,acc,hd,_,_=>by
  have : ch.length≤i:=by have:=congrArg List.length hd;simp at this;omega
  unfold ga_gates.l0
  rw [if_neg (by omega)];simp [gatesFrom]
 | x :: rest,k + 1,i,acc,hd,ha,hk=>by
  obtain ⟨hd2,hlt⟩:=drop_succ hd
  have ih:=fun acc h=>gates_go hc rest k (i + 1) acc hd2 h (by simp at hk;omega)
  unfold ga_gates.l0
  rw [if_pos (by omega),if_pos (by omega),if_pos (by omega),rdT_nat ch i x rest hd,wr (by omega) (by omega),show (i : Int) + 1 = ((i + 1 : Nat) : Int) from rfl]
  unfold gatesFrom
  by_cases hg : x.f3 = true
  ·rw [if_pos hg,if_pos (by omega),if_pos hg,ih _ (by simp;omega)];simp
  ·rw [if_neg hg,if_neg hg,ih _ (by omega)];rfl
theorem gates_eq (hc : ch.length≤1000) {k : Nat} (hk : ch.length < k) : ga_gates.f k pts ch = some (gatesL ch):=by
 have:=gates_go hc ch k 0 [] rfl (by simp) hk
 exact this
theorem anyM_eq {α : Type} {q : α→Option Bool} {p : α→Bool} : ∀ {l : List α},(∀ x ∈ l,q x = some (p x))→anyM q l = some (l.any p)
 | [],_=>rfl
 | x :: l,h=>by
  unfold anyM
  rw [h x List.mem_cons_self,anyM_eq (fun y hy=>h y (List.mem_cons_of_mem _ hy))]
  simp only [Option.bind_some,List.any_cons]
  cases p x<;>rfl
theorem isNet1_eq (p : Pt) : ga_isNet_1.f p.f0.f0 p.f0.f1 p.f1 = some (!ptS p):=by
 unfold ga_isNet_1.f ptS
 simp only [isCups_eq,Option.bind_some]
 cases cupS p.f0.f0<;>cases cupS p.f0.f1<;>simp
 by_cases h : p.f0.f1 < p.f0.f0
 ·rw [if_pos h];simp [h]
 ·rw [if_neg h];simp;intro h2;exact absurd h2 h
theorem isNet2_eq (hp : pts.length≤1000) (c : Ch) : ga_isNet_2.f pts ch c = some (!chS pts.length c):=by
 unfold ga_isNet_2.f chS
 simp only [isPoint_eq hp,isCups_eq,Option.bind_some]
 cases isPtS pts.length c.f0<;>cases isPtS pts.length c.f1<;>simp
 by_cases h : c.f0 = c.f1
 ·rw [if_pos h];simp [h]
 ·rw [if_neg h];simp [h]
theorem any_not {α : Type} (p : α→Bool) (l : List α) : l.any (fun x=>!p x) = !l.all p:=by
 induction l with
 | nil=>rfl
 | cons x l ih=>simp [ih]
theorem isNet_eq (hp : pts.length≤1000) (hc : ch.length≤1000) {k : Nat} (hk : ch.length < k) : ga_isNet.f k pts ch = some (netS pts ch):=by
 unfold ga_isNet.f netS
 rw [in_eq,anyM_eq (fun x _=>isNet1_eq x),anyM_eq (fun x _=>isNet2_eq hp x),gates_eq hc hk]
 simp only [Option.bind_some,any_not]
 by_cases h1 : 1≤pts.length∧pts.length≤7
 ·rw [decide_eq_true h1,decide_eq_true (show (1 : Int)≤(pts.length : Int)∧(pts.length : Int)≤7 by omega),if_pos rfl]
  by_cases h2 : ch.length≤10
  ·rw [decide_eq_true h2,if_neg (by omega)]
   cases pts.all ptS<;>cases ch.all (chS pts.length)<;>simp
   omega
  ·rw [decide_eq_false h2,if_pos (by omega)];simp
 ·rw [decide_eq_false h1,decide_eq_false (show ¬ ((1 : Int)≤(pts.length : Int)∧(pts.length : Int)≤7) by omega)];simp
end
def q8_Open.f (k : Nat) (l0_0 : List (S37)) (l0_1 : List (S65)) (l1 : List Int) (a2 : Int) : Option (Bool):=if 0≤a2 then (if a2 < (l0_1.length : Int) then (if ((rd_T65 l0_1 a2).f3 = true) then ((q8_Listed.f k l1 a2).bind fun t283=>(some t283)) else (some true)) else (none)) else (none)
theorem q8_Open.calls (k : Nat) (A0_0 : Option Addr) (c0_0 : Nat) (l0_0 : List (S37)) (A0_1 : Option Addr) (c0_1 : Nat) (l0_1 : List (S65)) (A1 : Option Addr) (c1 : Nat) (l1 : List Int) (a2 : Int) (r : Bool) (w : World) (hr0_0 : Kd.C k37 w A0_0 l0_0.length l0_0) (hc0_0 : l0_0.length≤c0_0) (hr0_1 : Kd.C k65 w A0_1 l0_1.length l0_1) (hc0_1 : l0_1.length≤c0_1) (hr1 : Kd.C (Kd.int .i64) w A1 l1.length l1) (hc1 : l1.length≤c1) (h : q8_Open.f k l0_0 l0_1 l1 a2 = some r) :
 Calls Tryz.prog 64 #[.agg #[.slice A0_0 l0_0.length c0_0,.slice A0_1 l0_1.length c0_1],.slice A1 l1.length c1,.int .i64 a2] w fun e w'=>e = .returned (.bool r)∧Below w.heap.size w w':=by
 have hu25:=Tryz.underlying25
 have HR0_0:=am hr0_0
 have HC0_0:=am hc0_0
 clear hr0_0 hc0_0
 have HR0_1:=am hr0_1
 have HC0_1:=am hc0_1
 clear hr0_1 hc0_1
 have HR1:=am hr1
 have HC1:=am hc1
 clear hr1 hc1
 have HB:=am (Below.refl w.heap.size w)
 have H : (if 0≤a2 then (if a2 < (l0_1.length : Int) then (if ((rd_T65 l0_1 a2).f3 = true) then ((q8_Listed.f k l1 a2).bind fun t283=>(some t283)) else (some true)) else (none)) else (none)) = some r:=h
 clear h
 by_cases c4 : 0≤a2
 case neg =>
  rw [if_neg c4] at H
  exact absurd H (by simp)
 rw [if_pos c4] at H
 have c4b0 : decide (0≤a2) = true:=decide_eq_true c4
 clear c4
 by_cases c5 : a2 < (l0_1.length : Int)
 case neg =>
  rw [if_neg c5] at H
  exact absurd H (by simp)
 rw [if_pos c5] at H
 have c5b0 : decide (a2 < (l0_1.length : Int)) = true:=decide_eq_true c5
 clear c5
 obtain ⟨bq6,hbq6⟩ : ∃ b_ : Bool,b_ = ((rd_T65 l0_1 a2).f3):=⟨_,rfl⟩
 replace H : (if (bq6 = true) then ((q8_Listed.f k l1 a2).bind fun t283=>(some t283)) else (some true)) = some r:=by rw [← hbq6] at H;exact H
 have Nbq6:=am hbq6
 clear hbq6
 by_cases c7 : (bq6 = true)
 case neg =>
  replace c7:=Bool.eq_false_iff.mpr c7
  subst c7
  replace H : (some true) = some r:=by rw [if_neg (show ¬ (false = true) by decide)] at H;exact H
  obtain rfl:=Option.some.inj H
  go_enter Tryz.func64,Tryz.ntmps64
  go_wp2_with (first | ((refine ga_dst (N:=3) rfl ?_);refine box_event rfl (N:=3) rfl (cs:=#[.slice A0_0 l0_0.length c0_0,.slice A0_1 l0_1.length c0_1]) (t:=25) ?hr ?_;(case hr=>go_simp;try rfl);intro gb281 hg w11 hbox hb;have BK281:=am (hbox);have GW281:=am (ge_new (HB.out) hg);have GE281:=am (ge_new (HB.out) hg);replace HB:=am (below_step (HB.out) hb);clear hb hbox hg;obtain ⟨hcz12_0,hcz12_1⟩:=cO2 BK281.out;have p282 : 0≤(a2 : Int):=of_decide_eq_true (by assumption);have q282 : a2 < (l0_1.length : Int):=of_decide_eq_true (by assumption);obtain ⟨ad282,e282,hx282_0,hx282_1,hx282_2,hx282_3⟩:=at_T65 HR0_1.out a2 p282 q282;(try rw [← Nbq6.out] at hx282_3);cases e282;replace hx282_0:=(HB.out.cell (wbl hx282_0)).trans hx282_0;replace hx282_1:=(HB.out.cell (wbl hx282_1)).trans hx282_1;replace hx282_2:=(HB.out.cell (wbl hx282_2)).trans hx282_2;replace hx282_3:=(HB.out.cell (wbl hx282_3)).trans hx282_3;replace p282:=eq_true p282;replace q282:=eq_true q282))
  go_ret
  exact ⟨by first | rfl | (simp [*]<;>rfl),HB.out⟩
 subst c7
 replace H : ((q8_Listed.f k l1 a2).bind fun t283=>(some t283)) = some r:=by rw [if_pos rfl] at H;exact H
 replace H:=obm H
 obtain ⟨t283,A80,H⟩:=H
 replace H : (some t283) = some r:=H
 have A8:=am A80
 clear A80
 obtain rfl:=Option.some.inj H
 go_enter Tryz.func64,Tryz.ntmps64
 go_wp2_with (first | ((refine ga_dst (N:=3) rfl ?_);refine box_event rfl (N:=3) rfl (cs:=#[.slice A0_0 l0_0.length c0_0,.slice A0_1 l0_1.length c0_1]) (t:=25) ?hr ?_;(case hr=>go_simp;try rfl);intro gb281 hg w9 hbox hb;have BK281:=am (hbox);have GW281:=am (ge_new (HB.out) hg);have GE281:=am (ge_new (HB.out) hg);replace HB:=am (below_step (HB.out) hb);clear hb hbox hg;obtain ⟨hcz10_0,hcz10_1⟩:=cO2 BK281.out;have p282 : 0≤(a2 : Int):=of_decide_eq_true (by assumption);have q282 : a2 < (l0_1.length : Int):=of_decide_eq_true (by assumption);obtain ⟨ad282,e282,hx282_0,hx282_1,hx282_2,hx282_3⟩:=at_T65 HR0_1.out a2 p282 q282;(try rw [← Nbq6.out] at hx282_3);cases e282;replace hx282_0:=(HB.out.cell (wbl hx282_0)).trans hx282_0;replace hx282_1:=(HB.out.cell (wbl hx282_1)).trans hx282_1;replace hx282_2:=(HB.out.cell (wbl hx282_2)).trans hx282_2;replace hx282_3:=(HB.out.cell (wbl hx282_3)).trans hx282_3;replace p282:=eq_true p282;replace q282:=eq_true q282) | (go_at_call 43;(refine (q8_Listed.calls k _ _ l1 a2 t283 _ ?side1 ?side2 A8.out).mono ?_);(case side1=>exact kC HR1.out HB.out);(case side2=>exact HC1.out);rintro e w' ⟨rfl,⟨nd,rfl⟩⟩))
 go_ret
 exact ⟨by first | rfl | (simp [*]<;>rfl),pw_below_drewN HB.out _⟩
end Go.Proofs.YtclkbedbocnpkaaGreatDoor.C

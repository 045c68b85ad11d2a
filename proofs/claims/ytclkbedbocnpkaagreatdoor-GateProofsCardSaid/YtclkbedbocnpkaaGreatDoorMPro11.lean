/- A part of the proof: the walks of the functions that it reaches. TIGHT. -/
import Derived.Test.YtclkbedbocnpkaaGreatDoorMPro10
set_option linter.unusedVariables false
set_option linter.unusedSimpArgs false
namespace Go.Proofs.YtclkbedbocnpkaaGreatDoor.C
open Go.RowKit Go.Proofs.YtclkbedbocnpkaaGreatDoorW.PrintWords Go.Proofs.YtclkbedbocnpkaaGreatDoorW.PrintLast Go.Proofs.YtclkbedbocnpkaaGreatDoorW.PrintMore
set_option linter.unusedVariables false
set_option linter.unusedSimpArgs false
set_option maxHeartbeats 16000000
set_option maxRecDepth 100000
mutual
def q8_Short.l0 : Nat→List Int→List Int→Bool→Int→Int→List (S37)→List (S65)→Option (Int)
 | 0,_,_,_,_,_,_,_=>none
 | k + 1,x1,x2,x3,x9,x10,x345000,x345001=>if x10 < (x2.length : Int) then (if 0≤x10 then (if 0≤(rd x2 x10) then (if (rd x2 x10) < (x345000.length : Int) then (if x3 = true then (q8_Short.l0 k x1 x2 x3 (wrap64 ((wrap64 ((wrap64 (x9 + ((rd_T37 x345000 (rd x2 x10)).f1))) - ((rd_T37 x345000 (rd x2 x10)).f0.f0))) - (wrap64 (((rd_T37 x345000 (rd x2 x10)).f0.f1) - ((rd_T37 x345000 (rd x2 x10)).f0.f0))))) (wrap64 (x10 + 1)) x345000 x345001) else (q8_Short.l0 k x1 x2 x3 (wrap64 ((wrap64 (x9 + ((rd_T37 x345000 (rd x2 x10)).f1))) - ((rd_T37 x345000 (rd x2 x10)).f0.f0))) (wrap64 (x10 + 1)) x345000 x345001)) else (none)) else (none)) else (none)) else (q8_Short.l1 k x1 x2 x9 0 x345000 x345001)
def q8_Short.l1 : Nat→List Int→List Int→Int→Int→List (S37)→List (S65)→Option (Int)
 | 0,_,_,_,_,_,_=>none
 | k + 1,x1,x2,x9,x12,x345000,x345001=>if x12 < (x345001.length : Int) then (if 0≤x12 then ((q8_Open.f k x345000 x345001 x1 x12).bind fun t350=>(if t350 = true then ((q8_Listed.f k x2 ((rd_T65 x345001 x12).f1)).bind fun t351=>(if t351 = true then ((q8_Listed.f k x2 ((rd_T65 x345001 x12).f0)).bind fun t352=>(if t352 = true then (q8_Short.l1 k x1 x2 x9 (wrap64 (x12 + 1)) x345000 x345001) else (q8_Short.l1 k x1 x2 (wrap64 (x9 - ((rd_T65 x345001 x12).f2))) (wrap64 (x12 + 1)) x345000 x345001))) else (q8_Short.l1 k x1 x2 x9 (wrap64 (x12 + 1)) x345000 x345001))) else (q8_Short.l1 k x1 x2 x9 (wrap64 (x12 + 1)) x345000 x345001))) else (none)) else (some x9)
end
def q8_Short.f (k : Nat) (l0_0 : List (S37)) (l0_1 : List (S65)) (l1 : List Int) (l2 : List Int) (a3 : Bool) : Option (Int):=q8_Short.l0 k l1 l2 a3 0 0 l0_0 l0_1
def q8_Short.T5 : Bool × List (List Nat × List Nat):=(true,[([],[]),([0],[0]),([],[]),([],[]),([2,3],[2,3]),([4],[4]),([1,5],[1,5]),([6],[6]),([],[]),([8,7,0,1,2,3,4,5,6,7,8],[7,8])])
def q8_Short.B5 : List Nat:=[0,1,0,0,12,28,63,127,0,511]
theorem q8_Short.tab5 : rtab .any (opsOf Tryz.f27 5) = q8_Short.T5:=by kernel_rfl
theorem q8_Short.bits5 : waitsOk q8_Short.T5.2 q8_Short.B5 = true:=by kernel_rfl
theorem q8_Short.calls (k : Nat) (A0_0 : Option Addr) (c0_0 : Nat) (l0_0 : List (S37)) (A0_1 : Option Addr) (c0_1 : Nat) (l0_1 : List (S65)) (A1 : Option Addr) (c1 : Nat) (l1 : List Int) (A2 : Option Addr) (c2 : Nat) (l2 : List Int) (a3 : Bool) (r : Int) (w : World) (hr0_0 : Kd.C k37 w A0_0 l0_0.length l0_0) (hc0_0 : l0_0.length≤c0_0) (hr0_1 : Kd.C k65 w A0_1 l0_1.length l0_1) (hc0_1 : l0_1.length≤c0_1) (hr1 : Kd.C (Kd.int .i64) w A1 l1.length l1) (hc1 : l1.length≤c1) (hr2 : Kd.C (Kd.int .i64) w A2 l2.length l2) (hc2 : l2.length≤c2) (h : q8_Short.f k l0_0 l0_1 l1 l2 a3 = some r) :
 Calls Tryz.prog 27 #[.agg #[.slice A0_0 l0_0.length c0_0,.slice A0_1 l0_1.length c0_1],.slice A1 l1.length c1,.slice A2 l2.length c2,.bool a3] w fun e w'=>e = .returned (.int .i64 r)∧Below w.heap.size w w':=by
 have hu25:=Tryz.underlying25
 have hu37:=Tryz.underlying37
 have hu65:=Tryz.underlying65
 have HR0_0:=am hr0_0
 have HC0_0:=am hc0_0
 clear hr0_0 hc0_0
 have HR0_1:=am hr0_1
 have HC0_1:=am hc0_1
 clear hr0_1 hc0_1
 have HR1:=am hr1
 have HC1:=am hc1
 clear hr1 hc1
 have HR2:=am hr2
 have HC2:=am hc2
 clear hr2 hc2
 have HB:=am (Below.refl w.heap.size w)
 have H : (q8_Short.l0 k l1 l2 a3 0 0 l0_0 l0_1) = some r:=h
 clear h
 replace H':=am H
 go_enter Tryz.func27,Tryz.ntmps27
 go_wp2_with (first | ((with_reducible refine ga_dst (N:=4) rfl ?_);refine box_event ?hg (N:=4) ?hd (cs:=#[.slice A0_0 l0_0.length c0_0,.slice A0_1 l0_1.length c0_1]) (t:=25) ?hr ?_;(case hd=>rfl);(case hg=>rfl);(case hr=>go_simp;try rfl);intro gb344 hg w5 hbox hb;have BK344:=am (hbox);have GW344:=am (ge_new (HB.out) hg);have GE344:=am (ge_new (HB.out) hg);replace HB:=am (below_step (HB.out) hb);clear hb hbox hg))
 go_loopg [9,10] k (fun kq v9 v10 w'=>∃ (x9_1 : Int) (x10_1 : Int),v9 = .int .i64 x9_1∧v10 = .int .i64 x10_1∧Aside0 (q8_Short.l0 kq l1 l2 a3 x9_1 x10_1 l0_0 l0_1 = some r)∧Aside0 (kq≤k)∧Aside0 (w'.heap[gb344]? = some (.cells #[(.slice A0_0 l0_0.length c0_0),(.slice A0_1 l0_1.length c0_1)] 25 (0,0)))∧Aside0 (Below w.heap.size w w'))
 case atStart=>exact ⟨(0),(0),(by first | rfl | (simp;done) | (simp [*];done)),(by first | rfl | (simp;done) | (simp [*];done)),H',⟨Nat.le_refl _⟩,⟨by (with_reducible repeat (first | refine blk_drewN ?_ _ | refine blk_drew ?_ | refine blk_alloc ?_ _));exact BK344.out⟩,⟨HB.out⟩⟩
 case round =>
  clear H'
  obtain ⟨x9_1,x10_1,rfl,rfl,HA,HK1,BK344,HB⟩:=hrel
  cases gk with
  | zero=>exact absurd HA.out (by simp [q8_Short.l0])
  | succ k1 =>
   have H:=HA.out
   clear HA
   simp only [q8_Short.l0] at H
   by_cases c6 : x10_1 < (l2.length : Int)
   case neg =>
    rw [if_neg c6] at H
    have c6b0 : decide (x10_1 < (l2.length : Int)) = false:=decide_eq_false c6
    clear c6
    replace H':=am H
    go_wp2
    go_loopg [9,12] k1 (fun kq v9 v12 w'=>∃ (x9_2 : Int) (x12_2 : Int),v9 = .int .i64 x9_2∧v12 = .int .i64 x12_2∧Aside0 (q8_Short.l1 kq l1 l2 x9_2 x12_2 l0_0 l0_1 = some r)∧Aside0 (kq≤k1)∧Aside0 (w'.heap[gb344]? = some (.cells #[(.slice A0_0 l0_0.length c0_0),(.slice A0_1 l0_1.length c0_1)] 25 (0,0)))∧Aside0 (Below w.heap.size w w'))
    case atStart=>exact ⟨(x9_1),(0),(by first | rfl | (simp;done) | (simp [*];done)),(by first | rfl | (simp;done) | (simp [*];done)),H',⟨Nat.le_refl _⟩,⟨by (with_reducible repeat (first | refine blk_drewN ?_ _ | refine blk_drew ?_ | refine blk_alloc ?_ _));exact BK344.out⟩,⟨HB.out⟩⟩
    case round =>
     clear H'
     obtain ⟨x9_2,x12_2,rfl,rfl,HA,HK2,BK344,HB⟩:=hrel
     cases gk with
     | zero=>exact absurd HA.out (by simp [q8_Short.l1])
     | succ k2 =>
      have H:=HA.out
      clear HA
      simp only [q8_Short.l1] at H
      by_cases c25 : x12_2 < (l0_1.length : Int)
      case neg =>
       rw [if_neg c25] at H
       have c25b0 : decide (x12_2 < (l0_1.length : Int)) = false:=decide_eq_false c25
       clear c25
       obtain rfl:=Option.some.inj H
       obtain ⟨hcz60_0,hcz60_1⟩:=cO2 BK344.out
       have hfz60_0:=blk_frozen BK344.out 0
       have hfz60_1:=blk_frozen BK344.out 1
       go_wp2
       go_ret
       exact ⟨by first | rfl | (simp [*]<;>rfl),HB.out⟩
      rw [if_pos c25] at H
      have c25b0 : decide (x12_2 < (l0_1.length : Int)) = true:=decide_eq_true c25
      clear c25
      by_cases c26 : 0≤x12_2
      case neg =>
       rw [if_neg c26] at H
       exact absurd H (by simp)
      rw [if_pos c26] at H
      have c26b0 : decide (0≤x12_2) = true:=decide_eq_true c26
      clear c26
      replace H:=obm H
      obtain ⟨t350,A270,H⟩:=H
      replace H : (if t350 = true then ((q8_Listed.f k2 l2 ((rd_T65 l0_1 x12_2).f1)).bind fun t351=>(if t351 = true then ((q8_Listed.f k2 l2 ((rd_T65 l0_1 x12_2).f0)).bind fun t352=>(if t352 = true then (q8_Short.l1 k2 l1 l2 x9_2 (wrap64 (x12_2 + 1)) l0_0 l0_1) else (q8_Short.l1 k2 l1 l2 (wrap64 (x9_2 - ((rd_T65 l0_1 x12_2).f2))) (wrap64 (x12_2 + 1)) l0_0 l0_1))) else (q8_Short.l1 k2 l1 l2 x9_2 (wrap64 (x12_2 + 1)) l0_0 l0_1))) else (q8_Short.l1 k2 l1 l2 x9_2 (wrap64 (x12_2 + 1)) l0_0 l0_1)) = some r:=H
      have A27:=am A270
      clear A270
      by_cases c28 : t350 = true
      case neg =>
       replace c28:=Bool.eq_false_iff.mpr c28
       subst c28
       replace H : (q8_Short.l1 k2 l1 l2 x9_2 (wrap64 (x12_2 + 1)) l0_0 l0_1) = some r:=by rw [if_neg (show ¬ (false = true) by decide)] at H;exact H
       replace H':=am H
       obtain ⟨hcz54_0,hcz54_1⟩:=cO2 BK344.out
       have hfz54_0:=blk_frozen BK344.out 0
       have hfz54_1:=blk_frozen BK344.out 1
       have p348 : 0≤(x12_2 : Int):=of_decide_eq_true (by assumption)
       have q348 : x12_2 < (l0_1.length : Int):=of_decide_eq_true (by assumption)
       obtain ⟨ad348,e348,hx348_0,hx348_1,hx348_2,hx348_3⟩:=at_T65 HR0_1.out x12_2 p348 q348
       cases e348
       replace hx348_0:=(HB.out.cell (wbl hx348_0)).trans hx348_0
       replace hx348_1:=(HB.out.cell (wbl hx348_1)).trans hx348_1
       replace hx348_2:=(HB.out.cell (wbl hx348_2)).trans hx348_2
       replace hx348_3:=(HB.out.cell (wbl hx348_3)).trans hx348_3
       replace p348:=eq_true p348
       replace q348:=eq_true q348
       go_wp2_with (first | ((with_reducible refine ga_dst (N:=13) rfl ?_);refine box_event ?hg (N:=13) ?hd (cs:=#[.int .i64 0,.int .i64 0,.int .i64 0,.bool false]) (t:=65) ?hr ?_;(case hd=>rfl);(case hg=>rfl);(case hr=>go_simp;try rfl);intro gb349 hg w55 hbox hb;have BK349:=am (hbox);have GW349:=am (ge_new (HB.out) hg);have GE349:=am (ge_new (HB.out) hg);have NB344_349:=am ((by rw [hg];exact Nat.ne_of_lt (blk_lt (g:=gb344) (o:=.cells #[.slice A0_0 l0_0.length c0_0,.slice (some ad348) l0_1.length c0_1] 25 (0,0)) (by (with_reducible repeat (first | refine blk_drewN ?_ _ | refine blk_drew ?_ | refine blk_alloc ?_ _));exact BK344.out)) : gb344 ≠ gb349));have NB349_344:=am ((by rw [hg];exact Nat.ne_of_gt (blk_lt (g:=gb344) (o:=.cells #[.slice A0_0 l0_0.length c0_0,.slice (some ad348) l0_1.length c0_1] 25 (0,0)) (by (with_reducible repeat (first | refine blk_drewN ?_ _ | refine blk_drew ?_ | refine blk_alloc ?_ _));exact BK344.out)) : gb349 ≠ gb344));replace BK344:=am (blk_below (g:=gb344) (o:=.cells #[.slice A0_0 l0_0.length c0_0,.slice (some ad348) l0_1.length c0_1] 25 (0,0)) (by (with_reducible repeat (first | refine blk_drewN ?_ _ | refine blk_drew ?_ | refine blk_alloc ?_ _));exact BK344.out) hb);replace HB:=am (below_step (HB.out) hb);clear hb hbox hg;have hnb56:=NB349_344.out;have hnc56:=NB344_349.out;obtain ⟨hcz57_0,hcz57_1,hcz57_2,hcz57_3⟩:=cO4 BK349.out;have hfz57_0:=blk_frozen BK349.out 0;have hfz57_1:=blk_frozen BK349.out 1;have hfz57_2:=blk_frozen BK349.out 2;have hfz57_3:=blk_frozen BK349.out 3;obtain ⟨hcz58_0,hcz58_1⟩:=cO2 BK344.out;have hfz58_0:=blk_frozen BK344.out 0;have hfz58_1:=blk_frozen BK344.out 1) | ((with_reducible refine ga_callee (f:=64) rfl ?_);refine goesL_ (some 61) rfl rfl Tryz.func64 (by kernel_rfl) rfl #[.agg #[.slice A0_0 l0_0.length c0_0,.slice (some ad348) l0_1.length c0_1],.slice A1 l1.length c1,.int .i64 x12_2] rfl (by (try simp only [List.map_toArray,List.map_cons,List.map_nil]);first | done | rfl | (simp only [List.length_drop,List.length_take];rfl)) ?_;(with_reducible refine (q8_Open.calls k2 _ _ l0_0 _ _ l0_1 _ _ l1 x12_2 false _ ?side1 ?side2 ?side3 ?side4 ?side5 ?side6 A27.out).mono ?_);(case side1=>exact kC HR0_0.out (by repeat (first | (with_reducible first | exact HB.out | refine below_set ?_ (Aside0.out (by assumption)) | apply below_alloc | apply pw_below_drewN) | exact HB.out)));(case side2=>exact HC0_0.out);(case side3=>exact kC HR0_1.out (by repeat (first | (with_reducible first | exact HB.out | refine below_set ?_ (Aside0.out (by assumption)) | apply below_alloc | apply pw_below_drewN) | exact HB.out)));(case side4=>exact HC0_1.out);(case side5=>exact kC HR1.out (by repeat (first | (with_reducible first | exact HB.out | refine below_set ?_ (Aside0.out (by assumption)) | apply below_alloc | apply pw_below_drewN) | exact HB.out)));(case side6=>exact HC1.out);rintro e w59 ⟨rfl,hb⟩;refine ⟨_,rfl,?_⟩;replace BK344:=am (blk_below (g:=gb344) (o:=.cells #[.slice A0_0 l0_0.length c0_0,.slice (some ad348) l0_1.length c0_1] 25 (0,0)) (by (with_reducible repeat (first | refine blk_drewN ?_ _ | refine blk_drew ?_ | refine blk_alloc ?_ _));refine blk_far ?_ NB344_349.out _;(with_reducible repeat (first | refine blk_drewN ?_ _ | refine blk_drew ?_ | refine blk_alloc ?_ _));refine blk_far ?_ NB344_349.out _;(with_reducible repeat (first | refine blk_drewN ?_ _ | refine blk_drew ?_ | refine blk_alloc ?_ _));refine blk_far ?_ NB344_349.out _;(with_reducible repeat (first | refine blk_drewN ?_ _ | refine blk_drew ?_ | refine blk_alloc ?_ _));refine blk_far ?_ NB344_349.out _;(with_reducible repeat (first | refine blk_drewN ?_ _ | refine blk_drew ?_ | refine blk_alloc ?_ _));exact BK344.out) hb);replace BK349:=am (blk_below (g:=gb349) (o:=.cells #[.int .i64 ((rd_T65 l0_1 x12_2).f0),.int .i64 ((rd_T65 l0_1 x12_2).f1),.int .i64 ((rd_T65 l0_1 x12_2).f2),.bool ((rd_T65 l0_1 x12_2).f3)] 65 (0,0)) (by (with_reducible repeat (first | refine blk_drewN ?_ _ | refine blk_drew ?_ | refine blk_alloc ?_ _));refine blk_put (cs:=#[.int .i64 ((rd_T65 l0_1 x12_2).f0),.int .i64 ((rd_T65 l0_1 x12_2).f1),.int .i64 ((rd_T65 l0_1 x12_2).f2),.bool false]) ?_ 3 _ rfl;(with_reducible repeat (first | refine blk_drewN ?_ _ | refine blk_drew ?_ | refine blk_alloc ?_ _));refine blk_put (cs:=#[.int .i64 ((rd_T65 l0_1 x12_2).f0),.int .i64 ((rd_T65 l0_1 x12_2).f1),.int .i64 0,.bool false]) ?_ 2 _ rfl;(with_reducible repeat (first | refine blk_drewN ?_ _ | refine blk_drew ?_ | refine blk_alloc ?_ _));refine blk_put (cs:=#[.int .i64 ((rd_T65 l0_1 x12_2).f0),.int .i64 0,.int .i64 0,.bool false]) ?_ 1 _ rfl;(with_reducible repeat (first | refine blk_drewN ?_ _ | refine blk_drew ?_ | refine blk_alloc ?_ _));refine blk_put (cs:=#[.int .i64 0,.int .i64 0,.int .i64 0,.bool false]) ?_ 0 _ rfl;(with_reducible repeat (first | refine blk_drewN ?_ _ | refine blk_drew ?_ | refine blk_alloc ?_ _));exact BK349.out) hb);replace HB:=am (below_step (by repeat (first | (with_reducible first | exact HB.out | refine below_set ?_ (Aside0.out (by assumption)) | apply below_alloc | apply pw_below_drewN) | exact HB.out)) hb);(try clear hb);(try clear hb2);(try clear hk);(try clear hi)))
       go_roundg k2
       case measure=>have:=HK1.out;have:=HK2.out;omega
       case rel=>exact ⟨(x9_2),(wrap64 (x12_2 + 1)),(by first | rfl | (simp;done) | (simp [*];done)),(by first | rfl | (simp;done) | (simp [*];done)),H',⟨by have:=HK1.out;have:=HK2.out;omega⟩,⟨by (with_reducible repeat (first | refine blk_drewN ?_ _ | refine blk_drew ?_ | refine blk_alloc ?_ _));exact BK344.out⟩,⟨HB.out⟩⟩
      subst c28
      replace H : ((q8_Listed.f k2 l2 ((rd_T65 l0_1 x12_2).f1)).bind fun t351=>(if t351 = true then ((q8_Listed.f k2 l2 ((rd_T65 l0_1 x12_2).f0)).bind fun t352=>(if t352 = true then (q8_Short.l1 k2 l1 l2 x9_2 (wrap64 (x12_2 + 1)) l0_0 l0_1) else (q8_Short.l1 k2 l1 l2 (wrap64 (x9_2 - ((rd_T65 l0_1 x12_2).f2))) (wrap64 (x12_2 + 1)) l0_0 l0_1))) else (q8_Short.l1 k2 l1 l2 x9_2 (wrap64 (x12_2 + 1)) l0_0 l0_1))) = some r:=by rw [if_pos rfl] at H;exact H
      replace H:=obm H
      obtain ⟨t351,A290,H⟩:=H
      replace H : (if t351 = true then ((q8_Listed.f k2 l2 ((rd_T65 l0_1 x12_2).f0)).bind fun t352=>(if t352 = true then (q8_Short.l1 k2 l1 l2 x9_2 (wrap64 (x12_2 + 1)) l0_0 l0_1) else (q8_Short.l1 k2 l1 l2 (wrap64 (x9_2 - ((rd_T65 l0_1 x12_2).f2))) (wrap64 (x12_2 + 1)) l0_0 l0_1))) else (q8_Short.l1 k2 l1 l2 x9_2 (wrap64 (x12_2 + 1)) l0_0 l0_1)) = some r:=H
      have A29:=am A290
      clear A290
      by_cases c30 : t351 = true
      case neg =>
       replace c30:=Bool.eq_false_iff.mpr c30
       subst c30
       replace H : (q8_Short.l1 k2 l1 l2 x9_2 (wrap64 (x12_2 + 1)) l0_0 l0_1) = some r:=by rw [if_neg (show ¬ (false = true) by decide)] at H;exact H
       replace H':=am H
       obtain ⟨hcz47_0,hcz47_1⟩:=cO2 BK344.out
       have hfz47_0:=blk_frozen BK344.out 0
       have hfz47_1:=blk_frozen BK344.out 1
       have p348 : 0≤(x12_2 : Int):=of_decide_eq_true (by assumption)
       have q348 : x12_2 < (l0_1.length : Int):=of_decide_eq_true (by assumption)
       obtain ⟨ad348,e348,hx348_0,hx348_1,hx348_2,hx348_3⟩:=at_T65 HR0_1.out x12_2 p348 q348
       cases e348
       replace hx348_0:=(HB.out.cell (wbl hx348_0)).trans hx348_0
       replace hx348_1:=(HB.out.cell (wbl hx348_1)).trans hx348_1
       replace hx348_2:=(HB.out.cell (wbl hx348_2)).trans hx348_2
       replace hx348_3:=(HB.out.cell (wbl hx348_3)).trans hx348_3
       replace p348:=eq_true p348
       replace q348:=eq_true q348
       go_wp2_with (first | ((with_reducible refine ga_dst (N:=13) rfl ?_);refine box_event ?hg (N:=13) ?hd (cs:=#[.int .i64 0,.int .i64 0,.int .i64 0,.bool false]) (t:=65) ?hr ?_;(case hd=>rfl);(case hg=>rfl);(case hr=>go_simp;try rfl);intro gb349 hg w48 hbox hb;have BK349:=am (hbox);have GW349:=am (ge_new (HB.out) hg);have GE349:=am (ge_new (HB.out) hg);have NB344_349:=am ((by rw [hg];exact Nat.ne_of_lt (blk_lt (g:=gb344) (o:=.cells #[.slice A0_0 l0_0.length c0_0,.slice (some ad348) l0_1.length c0_1] 25 (0,0)) (by (with_reducible repeat (first | refine blk_drewN ?_ _ | refine blk_drew ?_ | refine blk_alloc ?_ _));exact BK344.out)) : gb344 ≠ gb349));have NB349_344:=am ((by rw [hg];exact Nat.ne_of_gt (blk_lt (g:=gb344) (o:=.cells #[.slice A0_0 l0_0.length c0_0,.slice (some ad348) l0_1.length c0_1] 25 (0,0)) (by (with_reducible repeat (first | refine blk_drewN ?_ _ | refine blk_drew ?_ | refine blk_alloc ?_ _));exact BK344.out)) : gb349 ≠ gb344));replace BK344:=am (blk_below (g:=gb344) (o:=.cells #[.slice A0_0 l0_0.length c0_0,.slice (some ad348) l0_1.length c0_1] 25 (0,0)) (by (with_reducible repeat (first | refine blk_drewN ?_ _ | refine blk_drew ?_ | refine blk_alloc ?_ _));exact BK344.out) hb);replace HB:=am (below_step (HB.out) hb);clear hb hbox hg;have hnb49:=NB349_344.out;have hnc49:=NB344_349.out;obtain ⟨hcz50_0,hcz50_1,hcz50_2,hcz50_3⟩:=cO4 BK349.out;have hfz50_0:=blk_frozen BK349.out 0;have hfz50_1:=blk_frozen BK349.out 1;have hfz50_2:=blk_frozen BK349.out 2;have hfz50_3:=blk_frozen BK349.out 3;obtain ⟨hcz51_0,hcz51_1⟩:=cO2 BK344.out;have hfz51_0:=blk_frozen BK344.out 0;have hfz51_1:=blk_frozen BK344.out 1) | ((with_reducible refine ga_callee (f:=64) rfl ?_);refine goesL_ (some 61) rfl rfl Tryz.func64 (by kernel_rfl) rfl #[.agg #[.slice A0_0 l0_0.length c0_0,.slice (some ad348) l0_1.length c0_1],.slice A1 l1.length c1,.int .i64 x12_2] rfl (by (try simp only [List.map_toArray,List.map_cons,List.map_nil]);first | done | rfl | (simp only [List.length_drop,List.length_take];rfl)) ?_;(with_reducible refine (q8_Open.calls k2 _ _ l0_0 _ _ l0_1 _ _ l1 x12_2 true _ ?side1 ?side2 ?side3 ?side4 ?side5 ?side6 A27.out).mono ?_);(case side1=>exact kC HR0_0.out (by repeat (first | (with_reducible first | exact HB.out | refine below_set ?_ (Aside0.out (by assumption)) | apply below_alloc | apply pw_below_drewN) | exact HB.out)));(case side2=>exact HC0_0.out);(case side3=>exact kC HR0_1.out (by repeat (first | (with_reducible first | exact HB.out | refine below_set ?_ (Aside0.out (by assumption)) | apply below_alloc | apply pw_below_drewN) | exact HB.out)));(case side4=>exact HC0_1.out);(case side5=>exact kC HR1.out (by repeat (first | (with_reducible first | exact HB.out | refine below_set ?_ (Aside0.out (by assumption)) | apply below_alloc | apply pw_below_drewN) | exact HB.out)));(case side6=>exact HC1.out);rintro e w52 ⟨rfl,hb⟩;refine ⟨_,rfl,?_⟩;replace BK344:=am (blk_below (g:=gb344) (o:=.cells #[.slice A0_0 l0_0.length c0_0,.slice (some ad348) l0_1.length c0_1] 25 (0,0)) (by (with_reducible repeat (first | refine blk_drewN ?_ _ | refine blk_drew ?_ | refine blk_alloc ?_ _));refine blk_far ?_ NB344_349.out _;(with_reducible repeat (first | refine blk_drewN ?_ _ | refine blk_drew ?_ | refine blk_alloc ?_ _));refine blk_far ?_ NB344_349.out _;(with_reducible repeat (first | refine blk_drewN ?_ _ | refine blk_drew ?_ | refine blk_alloc ?_ _));refine blk_far ?_ NB344_349.out _;(with_reducible repeat (first | refine blk_drewN ?_ _ | refine blk_drew ?_ | refine blk_alloc ?_ _));refine blk_far ?_ NB344_349.out _;(with_reducible repeat (first | refine blk_drewN ?_ _ | refine blk_drew ?_ | refine blk_alloc ?_ _));exact BK344.out) hb);replace BK349:=am (blk_below (g:=gb349) (o:=.cells #[.int .i64 ((rd_T65 l0_1 x12_2).f0),.int .i64 ((rd_T65 l0_1 x12_2).f1),.int .i64 ((rd_T65 l0_1 x12_2).f2),.bool ((rd_T65 l0_1 x12_2).f3)] 65 (0,0)) (by (with_reducible repeat (first | refine blk_drewN ?_ _ | refine blk_drew ?_ | refine blk_alloc ?_ _));refine blk_put (cs:=#[.int .i64 ((rd_T65 l0_1 x12_2).f0),.int .i64 ((rd_T65 l0_1 x12_2).f1),.int .i64 ((rd_T65 l0_1 x12_2).f2),.bool false]) ?_ 3 _ rfl;(with_reducible repeat (first | refine blk_drewN ?_ _ | refine blk_drew ?_ | refine blk_alloc ?_ _));refine blk_put (cs:=#[.int .i64 ((rd_T65 l0_1 x12_2).f0),.int .i64 ((rd_T65 l0_1 x12_2).f1),.int .i64 0,.bool false]) ?_ 2 _ rfl;(with_reducible repeat (first | refine blk_drewN ?_ _ | refine blk_drew ?_ | refine blk_alloc ?_ _));refine blk_put (cs:=#[.int .i64 ((rd_T65 l0_1 x12_2).f0),.int .i64 0,.int .i64 0,.bool false]) ?_ 1 _ rfl;(with_reducible repeat (first | refine blk_drewN ?_ _ | refine blk_drew ?_ | refine blk_alloc ?_ _));refine blk_put (cs:=#[.int .i64 0,.int .i64 0,.int .i64 0,.bool false]) ?_ 0 _ rfl;(with_reducible repeat (first | refine blk_drewN ?_ _ | refine blk_drew ?_ | refine blk_alloc ?_ _));exact BK349.out) hb);replace HB:=am (below_step (by repeat (first | (with_reducible first | exact HB.out | refine below_set ?_ (Aside0.out (by assumption)) | apply below_alloc | apply pw_below_drewN) | exact HB.out)) hb);(try clear hb);(try clear hb2);(try clear hk);(try clear hi);obtain ⟨hcz53_0,hcz53_1,hcz53_2,hcz53_3⟩:=cO4 BK349.out;have hfz53_0:=blk_frozen BK349.out 0;have hfz53_1:=blk_frozen BK349.out 1;have hfz53_2:=blk_frozen BK349.out 2;have hfz53_3:=blk_frozen BK349.out 3) | (go_at_call 43;(with_reducible refine (q8_Listed.calls k2 _ _ l2 ((rd_T65 l0_1 x12_2).f1) false _ ?side1 ?side2 A29.out).mono ?_);(case side1=>exact kC HR2.out HB.out);(case side2=>exact HC2.out);rintro e w' ⟨rfl,⟨nd,rfl⟩⟩))
       go_roundg k2
       case measure=>have:=HK1.out;have:=HK2.out;omega
       case rel=>exact ⟨(x9_2),(wrap64 (x12_2 + 1)),(by first | rfl | (simp;done) | (simp [*];done)),(by first | rfl | (simp;done) | (simp [*];done)),H',⟨by have:=HK1.out;have:=HK2.out;omega⟩,⟨by (with_reducible repeat (first | refine blk_drewN ?_ _ | refine blk_drew ?_ | refine blk_alloc ?_ _));exact BK344.out⟩,⟨pw_below_drewN HB.out _⟩⟩
      subst c30
      replace H : ((q8_Listed.f k2 l2 ((rd_T65 l0_1 x12_2).f0)).bind fun t352=>(if t352 = true then (q8_Short.l1 k2 l1 l2 x9_2 (wrap64 (x12_2 + 1)) l0_0 l0_1) else (q8_Short.l1 k2 l1 l2 (wrap64 (x9_2 - ((rd_T65 l0_1 x12_2).f2))) (wrap64 (x12_2 + 1)) l0_0 l0_1))) = some r:=by rw [if_pos rfl] at H;exact H
      replace H:=obm H
      obtain ⟨t352,A310,H⟩:=H
      replace H : (if t352 = true then (q8_Short.l1 k2 l1 l2 x9_2 (wrap64 (x12_2 + 1)) l0_0 l0_1) else (q8_Short.l1 k2 l1 l2 (wrap64 (x9_2 - ((rd_T65 l0_1 x12_2).f2))) (wrap64 (x12_2 + 1)) l0_0 l0_1)) = some r:=H
      have A31:=am A310
      clear A310
      by_cases c32 : t352 = true
      ·subst c32
       replace H : (q8_Short.l1 k2 l1 l2 x9_2 (wrap64 (x12_2 + 1)) l0_0 l0_1) = some r:=by rw [if_pos rfl] at H;exact H
       replace H':=am H
       obtain ⟨hcz33_0,hcz33_1⟩:=cO2 BK344.out
       have hfz33_0:=blk_frozen BK344.out 0
       have hfz33_1:=blk_frozen BK344.out 1
       have p348 : 0≤(x12_2 : Int):=of_decide_eq_true (by assumption)
       have q348 : x12_2 < (l0_1.length : Int):=of_decide_eq_true (by assumption)
       obtain ⟨ad348,e348,hx348_0,hx348_1,hx348_2,hx348_3⟩:=at_T65 HR0_1.out x12_2 p348 q348
       cases e348
       replace hx348_0:=(HB.out.cell (wbl hx348_0)).trans hx348_0
       replace hx348_1:=(HB.out.cell (wbl hx348_1)).trans hx348_1
       replace hx348_2:=(HB.out.cell (wbl hx348_2)).trans hx348_2
       replace hx348_3:=(HB.out.cell (wbl hx348_3)).trans hx348_3
       replace p348:=eq_true p348
       replace q348:=eq_true q348
       go_wp2_with (first | ((with_reducible refine ga_dst (N:=13) rfl ?_);refine box_event ?hg (N:=13) ?hd (cs:=#[.int .i64 0,.int .i64 0,.int .i64 0,.bool false]) (t:=65) ?hr ?_;(case hd=>rfl);(case hg=>rfl);(case hr=>go_simp;try rfl);intro gb349 hg w34 hbox hb;have BK349:=am (hbox);have GW349:=am (ge_new (HB.out) hg);have GE349:=am (ge_new (HB.out) hg);have NB344_349:=am ((by rw [hg];exact Nat.ne_of_lt (blk_lt (g:=gb344) (o:=.cells #[.slice A0_0 l0_0.length c0_0,.slice (some ad348) l0_1.length c0_1] 25 (0,0)) (by (with_reducible repeat (first | refine blk_drewN ?_ _ | refine blk_drew ?_ | refine blk_alloc ?_ _));exact BK344.out)) : gb344 ≠ gb349));have NB349_344:=am ((by rw [hg];exact Nat.ne_of_gt (blk_lt (g:=gb344) (o:=.cells #[.slice A0_0 l0_0.length c0_0,.slice (some ad348) l0_1.length c0_1] 25 (0,0)) (by (with_reducible repeat (first | refine blk_drewN ?_ _ | refine blk_drew ?_ | refine blk_alloc ?_ _));exact BK344.out)) : gb349 ≠ gb344));replace BK344:=am (blk_below (g:=gb344) (o:=.cells #[.slice A0_0 l0_0.length c0_0,.slice (some ad348) l0_1.length c0_1] 25 (0,0)) (by (with_reducible repeat (first | refine blk_drewN ?_ _ | refine blk_drew ?_ | refine blk_alloc ?_ _));exact BK344.out) hb);replace HB:=am (below_step (HB.out) hb);clear hb hbox hg;have hnb35:=NB349_344.out;have hnc35:=NB344_349.out;obtain ⟨hcz36_0,hcz36_1,hcz36_2,hcz36_3⟩:=cO4 BK349.out;have hfz36_0:=blk_frozen BK349.out 0;have hfz36_1:=blk_frozen BK349.out 1;have hfz36_2:=blk_frozen BK349.out 2;have hfz36_3:=blk_frozen BK349.out 3;obtain ⟨hcz37_0,hcz37_1⟩:=cO2 BK344.out;have hfz37_0:=blk_frozen BK344.out 0;have hfz37_1:=blk_frozen BK344.out 1) | ((with_reducible refine ga_callee (f:=64) rfl ?_);refine goesL_ (some 61) rfl rfl Tryz.func64 (by kernel_rfl) rfl #[.agg #[.slice A0_0 l0_0.length c0_0,.slice (some ad348) l0_1.length c0_1],.slice A1 l1.length c1,.int .i64 x12_2] rfl (by (try simp only [List.map_toArray,List.map_cons,List.map_nil]);first | done | rfl | (simp only [List.length_drop,List.length_take];rfl)) ?_;(with_reducible refine (q8_Open.calls k2 _ _ l0_0 _ _ l0_1 _ _ l1 x12_2 true _ ?side1 ?side2 ?side3 ?side4 ?side5 ?side6 A27.out).mono ?_);(case side1=>exact kC HR0_0.out (by repeat (first | (with_reducible first | exact HB.out | refine below_set ?_ (Aside0.out (by assumption)) | apply below_alloc | apply pw_below_drewN) | exact HB.out)));(case side2=>exact HC0_0.out);(case side3=>exact kC HR0_1.out (by repeat (first | (with_reducible first | exact HB.out | refine below_set ?_ (Aside0.out (by assumption)) | apply below_alloc | apply pw_below_drewN) | exact HB.out)));(case side4=>exact HC0_1.out);(case side5=>exact kC HR1.out (by repeat (first | (with_reducible first | exact HB.out | refine below_set ?_ (Aside0.out (by assumption)) | apply below_alloc | apply pw_below_drewN) | exact HB.out)));(case side6=>exact HC1.out);rintro e w38 ⟨rfl,hb⟩;refine ⟨_,rfl,?_⟩;replace BK344:=am (blk_below (g:=gb344) (o:=.cells #[.slice A0_0 l0_0.length c0_0,.slice (some ad348) l0_1.length c0_1] 25 (0,0)) (by (with_reducible repeat (first | refine blk_drewN ?_ _ | refine blk_drew ?_ | refine blk_alloc ?_ _));refine blk_far ?_ NB344_349.out _;(with_reducible repeat (first | refine blk_drewN ?_ _ | refine blk_drew ?_ | refine blk_alloc ?_ _));refine blk_far ?_ NB344_349.out _;(with_reducible repeat (first | refine blk_drewN ?_ _ | refine blk_drew ?_ | refine blk_alloc ?_ _));refine blk_far ?_ NB344_349.out _;(with_reducible repeat (first | refine blk_drewN ?_ _ | refine blk_drew ?_ | refine blk_alloc ?_ _));refine blk_far ?_ NB344_349.out _;(with_reducible repeat (first | refine blk_drewN ?_ _ | refine blk_drew ?_ | refine blk_alloc ?_ _));exact BK344.out) hb);replace BK349:=am (blk_below (g:=gb349) (o:=.cells #[.int .i64 ((rd_T65 l0_1 x12_2).f0),.int .i64 ((rd_T65 l0_1 x12_2).f1),.int .i64 ((rd_T65 l0_1 x12_2).f2),.bool ((rd_T65 l0_1 x12_2).f3)] 65 (0,0)) (by (with_reducible repeat (first | refine blk_drewN ?_ _ | refine blk_drew ?_ | refine blk_alloc ?_ _));refine blk_put (cs:=#[.int .i64 ((rd_T65 l0_1 x12_2).f0),.int .i64 ((rd_T65 l0_1 x12_2).f1),.int .i64 ((rd_T65 l0_1 x12_2).f2),.bool false]) ?_ 3 _ rfl;(with_reducible repeat (first | refine blk_drewN ?_ _ | refine blk_drew ?_ | refine blk_alloc ?_ _));refine blk_put (cs:=#[.int .i64 ((rd_T65 l0_1 x12_2).f0),.int .i64 ((rd_T65 l0_1 x12_2).f1),.int .i64 0,.bool false]) ?_ 2 _ rfl;(with_reducible repeat (first | refine blk_drewN ?_ _ | refine blk_drew ?_ | refine blk_alloc ?_ _));refine blk_put (cs:=#[.int .i64 ((rd_T65 l0_1 x12_2).f0),.int .i64 0,.int .i64 0,.bool false]) ?_ 1 _ rfl;(with_reducible repeat (first | refine blk_drewN ?_ _ | refine blk_drew ?_ | refine blk_alloc ?_ _));refine blk_put (cs:=#[.int .i64 0,.int .i64 0,.int .i64 0,.bool false]) ?_ 0 _ rfl;(with_reducible repeat (first | refine blk_drewN ?_ _ | refine blk_drew ?_ | refine blk_alloc ?_ _));exact BK349.out) hb);replace HB:=am (below_step (by repeat (first | (with_reducible first | exact HB.out | refine below_set ?_ (Aside0.out (by assumption)) | apply below_alloc | apply pw_below_drewN) | exact HB.out)) hb);(try clear hb);(try clear hb2);(try clear hk);(try clear hi);obtain ⟨hcz39_0,hcz39_1,hcz39_2,hcz39_3⟩:=cO4 BK349.out;have hfz39_0:=blk_frozen BK349.out 0;have hfz39_1:=blk_frozen BK349.out 1;have hfz39_2:=blk_frozen BK349.out 2;have hfz39_3:=blk_frozen BK349.out 3) | (go_at_call 43;(with_reducible refine (q8_Listed.calls k2 _ _ l2 ((rd_T65 l0_1 x12_2).f1) true _ ?side1 ?side2 A29.out).mono ?_);(case side1=>exact kC HR2.out HB.out);(case side2=>exact HC2.out);rintro e w' ⟨rfl,⟨nd,rfl⟩⟩) | (go_at_call 43;(with_reducible refine (q8_Listed.calls k2 _ _ l2 ((rd_T65 l0_1 x12_2).f0) true _ ?side1 ?side2 A31.out).mono ?_);(case side1=>repeat (first | exact (kC HR2.out (pw_below_drewN HB.out _)) | (with_reducible refine Kd.C_alloc ?_ _) | (with_reducible refine Kd.C_drewN ?_ _) | (with_reducible refine Kd.C_drew ?_)));(case side2=>exact HC2.out);rintro e w' ⟨rfl,⟨nd,rfl⟩⟩))
       go_roundg k2
       case measure=>have:=HK1.out;have:=HK2.out;omega
       case rel=>exact ⟨(x9_2),(wrap64 (x12_2 + 1)),(by first | rfl | (simp;done) | (simp [*];done)),(by first | rfl | (simp;done) | (simp [*];done)),H',⟨by have:=HK1.out;have:=HK2.out;omega⟩,⟨by (with_reducible repeat (first | refine blk_drewN ?_ _ | refine blk_drew ?_ | refine blk_alloc ?_ _));exact BK344.out⟩,⟨pw_below_drewN HB.out _⟩⟩
      ·replace c32:=Bool.eq_false_iff.mpr c32
       subst c32
       replace H : (q8_Short.l1 k2 l1 l2 (wrap64 (x9_2 - ((rd_T65 l0_1 x12_2).f2))) (wrap64 (x12_2 + 1)) l0_0 l0_1) = some r:=by rw [if_neg (show ¬ (false = true) by decide)] at H;exact H
       replace H':=am H
       obtain ⟨hcz40_0,hcz40_1⟩:=cO2 BK344.out
       have hfz40_0:=blk_frozen BK344.out 0
       have hfz40_1:=blk_frozen BK344.out 1
       have p348 : 0≤(x12_2 : Int):=of_decide_eq_true (by assumption)
       have q348 : x12_2 < (l0_1.length : Int):=of_decide_eq_true (by assumption)
       obtain ⟨ad348,e348,hx348_0,hx348_1,hx348_2,hx348_3⟩:=at_T65 HR0_1.out x12_2 p348 q348
       cases e348
       replace hx348_0:=(HB.out.cell (wbl hx348_0)).trans hx348_0
       replace hx348_1:=(HB.out.cell (wbl hx348_1)).trans hx348_1
       replace hx348_2:=(HB.out.cell (wbl hx348_2)).trans hx348_2
       replace hx348_3:=(HB.out.cell (wbl hx348_3)).trans hx348_3
       replace p348:=eq_true p348
       replace q348:=eq_true q348
       go_wp2_with (first | ((with_reducible refine ga_dst (N:=13) rfl ?_);refine box_event ?hg (N:=13) ?hd (cs:=#[.int .i64 0,.int .i64 0,.int .i64 0,.bool false]) (t:=65) ?hr ?_;(case hd=>rfl);(case hg=>rfl);(case hr=>go_simp;try rfl);intro gb349 hg w41 hbox hb;have BK349:=am (hbox);have GW349:=am (ge_new (HB.out) hg);have GE349:=am (ge_new (HB.out) hg);have NB344_349:=am ((by rw [hg];exact Nat.ne_of_lt (blk_lt (g:=gb344) (o:=.cells #[.slice A0_0 l0_0.length c0_0,.slice (some ad348) l0_1.length c0_1] 25 (0,0)) (by (with_reducible repeat (first | refine blk_drewN ?_ _ | refine blk_drew ?_ | refine blk_alloc ?_ _));exact BK344.out)) : gb344 ≠ gb349));have NB349_344:=am ((by rw [hg];exact Nat.ne_of_gt (blk_lt (g:=gb344) (o:=.cells #[.slice A0_0 l0_0.length c0_0,.slice (some ad348) l0_1.length c0_1] 25 (0,0)) (by (with_reducible repeat (first | refine blk_drewN ?_ _ | refine blk_drew ?_ | refine blk_alloc ?_ _));exact BK344.out)) : gb349 ≠ gb344));replace BK344:=am (blk_below (g:=gb344) (o:=.cells #[.slice A0_0 l0_0.length c0_0,.slice (some ad348) l0_1.length c0_1] 25 (0,0)) (by (with_reducible repeat (first | refine blk_drewN ?_ _ | refine blk_drew ?_ | refine blk_alloc ?_ _));exact BK344.out) hb);replace HB:=am (below_step (HB.out) hb);clear hb hbox hg;have hnb42:=NB349_344.out;have hnc42:=NB344_349.out;obtain ⟨hcz43_0,hcz43_1,hcz43_2,hcz43_3⟩:=cO4 BK349.out;have hfz43_0:=blk_frozen BK349.out 0;have hfz43_1:=blk_frozen BK349.out 1;have hfz43_2:=blk_frozen BK349.out 2;have hfz43_3:=blk_frozen BK349.out 3;obtain ⟨hcz44_0,hcz44_1⟩:=cO2 BK344.out;have hfz44_0:=blk_frozen BK344.out 0;have hfz44_1:=blk_frozen BK344.out 1) | ((with_reducible refine ga_callee (f:=64) rfl ?_);refine goesL_ (some 61) rfl rfl Tryz.func64 (by kernel_rfl) rfl #[.agg #[.slice A0_0 l0_0.length c0_0,.slice (some ad348) l0_1.length c0_1],.slice A1 l1.length c1,.int .i64 x12_2] rfl (by (try simp only [List.map_toArray,List.map_cons,List.map_nil]);first | done | rfl | (simp only [List.length_drop,List.length_take];rfl)) ?_;(with_reducible refine (q8_Open.calls k2 _ _ l0_0 _ _ l0_1 _ _ l1 x12_2 true _ ?side1 ?side2 ?side3 ?side4 ?side5 ?side6 A27.out).mono ?_);(case side1=>exact kC HR0_0.out (by repeat (first | (with_reducible first | exact HB.out | refine below_set ?_ (Aside0.out (by assumption)) | apply below_alloc | apply pw_below_drewN) | exact HB.out)));(case side2=>exact HC0_0.out);(case side3=>exact kC HR0_1.out (by repeat (first | (with_reducible first | exact HB.out | refine below_set ?_ (Aside0.out (by assumption)) | apply below_alloc | apply pw_below_drewN) | exact HB.out)));(case side4=>exact HC0_1.out);(case side5=>exact kC HR1.out (by repeat (first | (with_reducible first | exact HB.out | refine below_set ?_ (Aside0.out (by assumption)) | apply below_alloc | apply pw_below_drewN) | exact HB.out)));(case side6=>exact HC1.out);rintro e w45 ⟨rfl,hb⟩;refine ⟨_,rfl,?_⟩;replace BK344:=am (blk_below (g:=gb344) (o:=.cells #[.slice A0_0 l0_0.length c0_0,.slice (some ad348) l0_1.length c0_1] 25 (0,0)) (by (with_reducible repeat (first | refine blk_drewN ?_ _ | refine blk_drew ?_ | refine blk_alloc ?_ _));refine blk_far ?_ NB344_349.out _;(with_reducible repeat (first | refine blk_drewN ?_ _ | refine blk_drew ?_ | refine blk_alloc ?_ _));refine blk_far ?_ NB344_349.out _;(with_reducible repeat (first | refine blk_drewN ?_ _ | refine blk_drew ?_ | refine blk_alloc ?_ _));refine blk_far ?_ NB344_349.out _;(with_reducible repeat (first | refine blk_drewN ?_ _ | refine blk_drew ?_ | refine blk_alloc ?_ _));refine blk_far ?_ NB344_349.out _;(with_reducible repeat (first | refine blk_drewN ?_ _ | refine blk_drew ?_ | refine blk_alloc ?_ _));exact BK344.out) hb);replace BK349:=am (blk_below (g:=gb349) (o:=.cells #[.int .i64 ((rd_T65 l0_1 x12_2).f0),.int .i64 ((rd_T65 l0_1 x12_2).f1),.int .i64 ((rd_T65 l0_1 x12_2).f2),.bool ((rd_T65 l0_1 x12_2).f3)] 65 (0,0)) (by (with_reducible repeat (first | refine blk_drewN ?_ _ | refine blk_drew ?_ | refine blk_alloc ?_ _));refine blk_put (cs:=#[.int .i64 ((rd_T65 l0_1 x12_2).f0),.int .i64 ((rd_T65 l0_1 x12_2).f1),.int .i64 ((rd_T65 l0_1 x12_2).f2),.bool false]) ?_ 3 _ rfl;(with_reducible repeat (first | refine blk_drewN ?_ _ | refine blk_drew ?_ | refine blk_alloc ?_ _));refine blk_put (cs:=#[.int .i64 ((rd_T65 l0_1 x12_2).f0),.int .i64 ((rd_T65 l0_1 x12_2).f1),.int .i64 0,.bool false]) ?_ 2 _ rfl;(with_reducible repeat (first | refine blk_drewN ?_ _ | refine blk_drew ?_ | refine blk_alloc ?_ _));refine blk_put (cs:=#[.int .i64 ((rd_T65 l0_1 x12_2).f0),.int .i64 0,.int .i64 0,.bool false]) ?_ 1 _ rfl;(with_reducible repeat (first | refine blk_drewN ?_ _ | refine blk_drew ?_ | refine blk_alloc ?_ _));refine blk_put (cs:=#[.int .i64 0,.int .i64 0,.int .i64 0,.bool false]) ?_ 0 _ rfl;(with_reducible repeat (first | refine blk_drewN ?_ _ | refine blk_drew ?_ | refine blk_alloc ?_ _));exact BK349.out) hb);replace HB:=am (below_step (by repeat (first | (with_reducible first | exact HB.out | refine below_set ?_ (Aside0.out (by assumption)) | apply below_alloc | apply pw_below_drewN) | exact HB.out)) hb);(try clear hb);(try clear hb2);(try clear hk);(try clear hi);obtain ⟨hcz46_0,hcz46_1,hcz46_2,hcz46_3⟩:=cO4 BK349.out;have hfz46_0:=blk_frozen BK349.out 0;have hfz46_1:=blk_frozen BK349.out 1;have hfz46_2:=blk_frozen BK349.out 2;have hfz46_3:=blk_frozen BK349.out 3) | (go_at_call 43;(with_reducible refine (q8_Listed.calls k2 _ _ l2 ((rd_T65 l0_1 x12_2).f1) true _ ?side1 ?side2 A29.out).mono ?_);(case side1=>exact kC HR2.out HB.out);(case side2=>exact HC2.out);rintro e w' ⟨rfl,⟨nd,rfl⟩⟩) | (go_at_call 43;(with_reducible refine (q8_Listed.calls k2 _ _ l2 ((rd_T65 l0_1 x12_2).f0) false _ ?side1 ?side2 A31.out).mono ?_);(case side1=>repeat (first | exact (kC HR2.out (pw_below_drewN HB.out _)) | (with_reducible refine Kd.C_alloc ?_ _) | (with_reducible refine Kd.C_drewN ?_ _) | (with_reducible refine Kd.C_drew ?_)));(case side2=>exact HC2.out);rintro e w' ⟨rfl,⟨nd,rfl⟩⟩))
       go_roundg k2
       case measure=>have:=HK1.out;have:=HK2.out;omega
       case rel=>exact ⟨(wrap64 (x9_2 - ((rd_T65 l0_1 x12_2).f2))),(wrap64 (x12_2 + 1)),(by first | rfl | (simp;done) | (simp [*];done)),(by first | rfl | (simp;done) | (simp [*];done)),H',⟨by have:=HK1.out;have:=HK2.out;omega⟩,⟨by (with_reducible repeat (first | refine blk_drewN ?_ _ | refine blk_drew ?_ | refine blk_alloc ?_ _));exact BK344.out⟩,⟨pw_below_drewN HB.out _⟩⟩
   rw [if_pos c6] at H
   have c6b0 : decide (x10_1 < (l2.length : Int)) = true:=decide_eq_true c6
   clear c6
   by_cases c7 : 0≤x10_1
   case neg =>
    rw [if_neg c7] at H
    exact absurd H (by simp)
   rw [if_pos c7] at H
   have c7b0 : decide (0≤x10_1) = true:=decide_eq_true c7
   clear c7
   by_cases c8 : 0≤(rd l2 x10_1)
   case neg =>
    rw [if_neg c8] at H
    exact absurd H (by simp)
   rw [if_pos c8] at H
   have c8b0 : decide (0≤(rd l2 x10_1)) = true:=decide_eq_true c8
   clear c8
   by_cases c9 : (rd l2 x10_1) < (l0_0.length : Int)
   case neg =>
    rw [if_neg c9] at H
    exact absurd H (by simp)
   rw [if_pos c9] at H
   have c9b0 : decide ((rd l2 x10_1) < (l0_0.length : Int)) = true:=decide_eq_true c9
   clear c9
   by_cases c10 : a3 = true
   ·subst c10
    replace H : (q8_Short.l0 k1 l1 l2 true (wrap64 ((wrap64 ((wrap64 (x9_1 + ((rd_T37 l0_0 (rd l2 x10_1)).f1))) - ((rd_T37 l0_0 (rd l2 x10_1)).f0.f0))) - (wrap64 (((rd_T37 l0_0 (rd l2 x10_1)).f0.f1) - ((rd_T37 l0_0 (rd l2 x10_1)).f0.f0))))) (wrap64 (x10_1 + 1)) l0_0 l0_1) = some r:=by rw [if_pos rfl] at H;exact H
    replace H':=am H
    try go_wp2
    replace BK344:=am (blk_drew BK344.out)
    replace HB:=am (below_drew1 HB.out)
    have p345 : 0≤(x10_1 : Int):=of_decide_eq_true (by assumption)
    have q345 : x10_1 < (l2.length : Int):=of_decide_eq_true (by assumption)
    obtain ⟨ad345,e345,hx345_0⟩:=Kd.at_int HR2.out x10_1 p345 q345
    have hw345_0:=hx345_0
    cases e345
    replace hx345_0:=(HB.out.cell (wbl hx345_0)).trans hx345_0
    replace p345:=eq_true p345
    replace q345:=eq_true q345
    have p346 : 0≤((rd l2 x10_1) : Int):=of_decide_eq_true (by assumption)
    have q346 : (rd l2 x10_1) < (l0_0.length : Int):=of_decide_eq_true (by assumption)
    obtain ⟨ad346,e346,hx346_0,hx346_1,hx346_2⟩:=at_T37 HR0_0.out (rd l2 x10_1) p346 q346
    have hw346_2:=hx346_2
    have hw346_1:=hx346_1
    have hw346_0:=hx346_0
    cases e346
    replace hx346_0:=(HB.out.cell (wbl hx346_0)).trans hx346_0
    replace hx346_1:=(HB.out.cell (wbl hx346_1)).trans hx346_1
    replace hx346_2:=(HB.out.cell (wbl hx346_2)).trans hx346_2
    replace p346:=eq_true p346
    replace q346:=eq_true q346
    refine start_ (n:=10) (S:=fun w'=>w'.cell? ⟨gb344,0,none⟩ = some (.slice (some ad346) l0_0.length c0_0)∧w'.cell? ⟨gb344,1,none⟩ = some (.slice A0_1 l0_1.length c0_1)∧w'.cell? (ad345.add (x10_1).toNat) = some (.int .i64 (rd l2 x10_1))∧w'.cell? (ad346.add (((rd l2 x10_1)).toNat * 3)) = some (.int .i64 ((rd_T37 l0_0 (rd l2 x10_1)).f0.f0))∧w'.cell? ⟨(ad346.add (((rd l2 x10_1)).toNat * 3)).block,(ad346.add (((rd l2 x10_1)).toNat * 3)).off + 1,none⟩ = some (.int .i64 ((rd_T37 l0_0 (rd l2 x10_1)).f0.f1))∧w'.cell? ⟨(ad346.add (((rd l2 x10_1)).toNat * 3)).block,(ad346.add (((rd l2 x10_1)).toNat * 3)).off + 2,none⟩ = some (.int .i64 ((rd_T37 l0_0 (rd l2 x10_1)).f1))) (ds:=[]) (ba 10 0) (by kernel_rfl) rfl rfl ⟨(blk_cell BK344.out 0).trans rfl,(blk_cell BK344.out 1).trans rfl,((HB.out.cell (wbl hw345_0)).trans hw345_0),((HB.out.cell (wbl hw346_0)).trans hw346_0),((HB.out.cell (wbl hw346_1)).trans hw346_1),((HB.out.cell (wbl hw346_2)).trans hw346_2)⟩ (fun hHeld=>?_);refine with_tabW q8_Short.tab5 q8_Short.bits5 (fun HT_ HW_=>?_)
    generalize wr.drew = w11 at BK344 HB hx345_0 hx346_0 hx346_1 hx346_2 hHeld ⊢
    refine pure_ (i:=0) (N:=some 20) (v:=?_) (a':=?_) (ba 10 1) rfl rfl (any_of HT_.out (by kernel_rfl)) (fun _ _ _ h=>h) (Or.inl ⟨by rfl,?_⟩) ?_ ?_
    rotate_left
    ·intro w'
     go_simp
     with_reducible rfl
    rotate_left
    ·simp only [Act.put,NRM]
     rfl
    refine pure_ (i:=2) (N:=some 22) (v:=?_) (a':=?_) (ba 10 5) rfl rfl (any_of HT_.out (by kernel_rfl)) (fun _ _ _ h=>h) (Or.inl ⟨by rfl,?_⟩) ?_ ?_
    rotate_left
    ·intro w'
     go_simp
     with_reducible rfl
    rotate_left
    ·simp only [Act.put,NRM]
     rfl
    refine pure_ (i:=3) (N:=some 23) (v:=?_) (a':=?_) (ba 10 13) rfl rfl (any_of HT_.out (by kernel_rfl)) (fun _ _ _ h=>h) (Or.inl ⟨by rfl,?_⟩) ?_ ?_
    rotate_left
    ·intro w'
     go_simp
     with_reducible rfl
    rotate_left
    ·simp only [Act.put,NRM]
     rfl
    refine pure_ (i:=4) (N:=some 24) (v:=?_) (a':=?_) (ba 10 29) rfl rfl (any_of HT_.out (by kernel_rfl)) (fun _ _ _ h=>h) (Or.inl ⟨by rfl,?_⟩) ?_ ?_
    rotate_left
    ·intro w'
     go_simp
     with_reducible rfl
    rotate_left
    ·simp only [Act.put,NRM]
     rfl
    refine take_ (i:=1) (N:=some 21) (v:=?_) (a':=?_) (ba 10 31) rfl rfl (take_ofW HT_.out HW_.out (by kernel_rfl)) (fun _ _ _ h=>h) (Or.inl ⟨by rfl,?_⟩) hHeld ?_ ?_
    rotate_left
    ·rintro w' ⟨s0,s1,s2,s3,s4,s5⟩
     go_simp
     with_reducible rfl
    rotate_left
    ·simp only [Act.put,NRM]
     rfl
    refine take_ (i:=5) (N:=some 25) (v:=?_) (a':=?_) (ba 10 63) rfl rfl (take_ofW HT_.out HW_.out (by kernel_rfl)) (fun _ _ _ h=>h) (Or.inl ⟨by rfl,?_⟩) hHeld ?_ ?_
    rotate_left
    ·rintro w' ⟨s0,s1,s2,s3,s4,s5⟩
     go_simp
     with_reducible rfl
    rotate_left
    ·simp only [Act.put,NRM]
     rfl
    refine pure_ (i:=6) (N:=some 26) (v:=?_) (a':=?_) (ba 10 127) rfl rfl (any_of HT_.out (by kernel_rfl)) (fun _ _ _ h=>h) (Or.inl ⟨by rfl,?_⟩) ?_ ?_
    rotate_left
    ·intro w'
     go_simp
     with_reducible rfl
    rotate_left
    ·simp only [Act.put,NRM]
     rfl
    refine take_ (i:=7) (N:=some 27) (v:=?_) (a':=?_) (ba 10 255) rfl rfl (take_ofW HT_.out HW_.out (by kernel_rfl)) (fun _ _ _ h=>h) (Or.inl ⟨by rfl,?_⟩) hHeld ?_ ?_
    rotate_left
    ·rintro w' ⟨s0,s1,s2,s3,s4,s5⟩
     go_simp
     with_reducible rfl
    rotate_left
    ·simp only [Act.put,NRM]
     rfl
    refine one_ (i:=8) (N:=some 11) (ba 10 511) rfl rfl (one_of HT_.out (by kernel_rfl)) (by decide) (fun K hK=>?_)
    refine box_step ?hg (N:=11) ?hd (cs:=#[.int .i64 0,.int .i64 0,.int .i64 0]) (t:=37) ?hr ?_;(case hd=>rfl);(case hg=>rfl);(case hr=>go_simp;try rfl)
    intro gb347 hg w12 hbox hb
    have BK347:=am (hbox)
    have GW347:=am (ge_new (HB.out) hg)
    have GE347:=am (ge_new (HB.out) hg)
    have NB344_347:=am ((by rw [hg];exact Nat.ne_of_lt (blk_lt (g:=gb344) (o:=.cells #[.slice (some ad346) l0_0.length c0_0,.slice A0_1 l0_1.length c0_1] 25 (0,0)) (by (with_reducible repeat (first | refine blk_drewN ?_ _ | refine blk_drew ?_ | refine blk_alloc ?_ _));exact BK344.out)) : gb344 ≠ gb347))
    have NB347_344:=am ((by rw [hg];exact Nat.ne_of_gt (blk_lt (g:=gb344) (o:=.cells #[.slice (some ad346) l0_0.length c0_0,.slice A0_1 l0_1.length c0_1] 25 (0,0)) (by (with_reducible repeat (first | refine blk_drewN ?_ _ | refine blk_drew ?_ | refine blk_alloc ?_ _));exact BK344.out)) : gb347 ≠ gb344))
    replace BK344:=am (blk_below (g:=gb344) (o:=.cells #[.slice (some ad346) l0_0.length c0_0,.slice A0_1 l0_1.length c0_1] 25 (0,0)) (by (with_reducible repeat (first | refine blk_drewN ?_ _ | refine blk_drew ?_ | refine blk_alloc ?_ _));exact BK344.out) hb)
    replace HB:=am (below_step (HB.out) hb)
    clear hb hbox hg
    refine hK.out _ _ ⟨(blk_cell BK344.out 0).trans rfl,(blk_cell BK344.out 1).trans rfl,((HB.out.cell (wbl hw345_0)).trans hw345_0),((HB.out.cell (wbl hw346_0)).trans hw346_0),((HB.out.cell (wbl hw346_1)).trans hw346_1),((HB.out.cell (wbl hw346_2)).trans hw346_2)⟩ (fun hHeld=>?_)
    clear hK K
    refine norm_ (a':=?_) ?_ ?_
    rotate_left
    ·show Act.put _ (some 11) _ = _
     simp only [Act.put,NRM]
     rfl
    refine one_ (i:=9) (N:=none) (ba 10 1023) rfl rfl (one_of HT_.out (by kernel_rfl)) (by decide) (fun K hK=>?_)
    have hs13:=cO1 BK347.out
    have hfs13:=blk_frozen BK347.out 0
    have hns13_0:=NB344_347.out
    have hms13_0:=NB347_344.out
    have hs14 : w12.cell? ⟨gb347,1,none⟩ = some (.int .i64 0):=(blk_cell BK347.out 1).trans rfl
    have hfs14:=blk_frozen BK347.out 1
    have hns14_0:=NB344_347.out
    have hms14_0:=NB347_344.out
    have hs15 : w12.cell? ⟨gb347,2,none⟩ = some (.int .i64 0):=(blk_cell BK347.out 2).trans rfl
    have hfs15:=blk_frozen BK347.out 2
    have hns15_0:=NB344_347.out
    have hms15_0:=NB347_344.out
    refine skip_ (w1:=?_) (by rfl) rfl ?_ ?_
    rotate_left
    ·go_simp
     rfl
    refine hK.out _ _ ⟨((cell_far (p:=⟨gb347,_,none⟩) NB344_347.out _).trans (((cell_far (p:=⟨gb347,_,none⟩) NB344_347.out _).trans (((cell_far (p:=⟨gb347,_,none⟩) NB344_347.out _).trans (hHeld.1)))))),((cell_far (p:=⟨gb347,_,none⟩) NB344_347.out _).trans (((cell_far (p:=⟨gb347,_,none⟩) NB344_347.out _).trans (((cell_far (p:=⟨gb347,_,none⟩) NB344_347.out _).trans (hHeld.2.1)))))),((cell_far (p:=⟨gb347,_,none⟩) (by first | exact Nat.ne_of_lt (Nat.lt_of_lt_of_le (by have:=World.block_lt_of_cell? _ _ hw345_0;first | rwa [add_block] at this | exact this) GW347.out) | (rw [add_block];exact Nat.ne_of_lt (Nat.lt_of_lt_of_le (by have:=World.block_lt_of_cell? _ _ hw345_0;first | rwa [add_block] at this | exact this) GW347.out)) | (show (Addr.add _ _).block ≠ _;rw [add_block];exact Nat.ne_of_lt (Nat.lt_of_lt_of_le (by have:=World.block_lt_of_cell? _ _ hw345_0;first | rwa [add_block] at this | exact this) GW347.out)) | (dsimp only;exact Nat.ne_of_lt (Nat.lt_of_lt_of_le (by have:=World.block_lt_of_cell? _ _ hw345_0;first | rwa [add_block] at this | exact this) GW347.out))) _).trans (((cell_far (p:=⟨gb347,_,none⟩) (by first | exact Nat.ne_of_lt (Nat.lt_of_lt_of_le (by have:=World.block_lt_of_cell? _ _ hw345_0;first | rwa [add_block] at this | exact this) GW347.out) | (rw [add_block];exact Nat.ne_of_lt (Nat.lt_of_lt_of_le (by have:=World.block_lt_of_cell? _ _ hw345_0;first | rwa [add_block] at this | exact this) GW347.out)) | (show (Addr.add _ _).block ≠ _;rw [add_block];exact Nat.ne_of_lt (Nat.lt_of_lt_of_le (by have:=World.block_lt_of_cell? _ _ hw345_0;first | rwa [add_block] at this | exact this) GW347.out)) | (dsimp only;exact Nat.ne_of_lt (Nat.lt_of_lt_of_le (by have:=World.block_lt_of_cell? _ _ hw345_0;first | rwa [add_block] at this | exact this) GW347.out))) _).trans (((cell_far (p:=⟨gb347,_,none⟩) (by first | exact Nat.ne_of_lt (Nat.lt_of_lt_of_le (by have:=World.block_lt_of_cell? _ _ hw345_0;first | rwa [add_block] at this | exact this) GW347.out) | (rw [add_block];exact Nat.ne_of_lt (Nat.lt_of_lt_of_le (by have:=World.block_lt_of_cell? _ _ hw345_0;first | rwa [add_block] at this | exact this) GW347.out)) | (show (Addr.add _ _).block ≠ _;rw [add_block];exact Nat.ne_of_lt (Nat.lt_of_lt_of_le (by have:=World.block_lt_of_cell? _ _ hw345_0;first | rwa [add_block] at this | exact this) GW347.out)) | (dsimp only;exact Nat.ne_of_lt (Nat.lt_of_lt_of_le (by have:=World.block_lt_of_cell? _ _ hw345_0;first | rwa [add_block] at this | exact this) GW347.out))) _).trans (hHeld.2.2.1)))))),((cell_far (p:=⟨gb347,_,none⟩) (by first | exact Nat.ne_of_lt (Nat.lt_of_lt_of_le (by have:=World.block_lt_of_cell? _ _ hw346_0;first | rwa [add_block] at this | exact this) GW347.out) | (rw [add_block];exact Nat.ne_of_lt (Nat.lt_of_lt_of_le (by have:=World.block_lt_of_cell? _ _ hw346_0;first | rwa [add_block] at this | exact this) GW347.out)) | (show (Addr.add _ _).block ≠ _;rw [add_block];exact Nat.ne_of_lt (Nat.lt_of_lt_of_le (by have:=World.block_lt_of_cell? _ _ hw346_0;first | rwa [add_block] at this | exact this) GW347.out)) | (dsimp only;exact Nat.ne_of_lt (Nat.lt_of_lt_of_le (by have:=World.block_lt_of_cell? _ _ hw346_0;first | rwa [add_block] at this | exact this) GW347.out))) _).trans (((cell_far (p:=⟨gb347,_,none⟩) (by first | exact Nat.ne_of_lt (Nat.lt_of_lt_of_le (by have:=World.block_lt_of_cell? _ _ hw346_0;first | rwa [add_block] at this | exact this) GW347.out) | (rw [add_block];exact Nat.ne_of_lt (Nat.lt_of_lt_of_le (by have:=World.block_lt_of_cell? _ _ hw346_0;first | rwa [add_block] at this | exact this) GW347.out)) | (show (Addr.add _ _).block ≠ _;rw [add_block];exact Nat.ne_of_lt (Nat.lt_of_lt_of_le (by have:=World.block_lt_of_cell? _ _ hw346_0;first | rwa [add_block] at this | exact this) GW347.out)) | (dsimp only;exact Nat.ne_of_lt (Nat.lt_of_lt_of_le (by have:=World.block_lt_of_cell? _ _ hw346_0;first | rwa [add_block] at this | exact this) GW347.out))) _).trans (((cell_far (p:=⟨gb347,_,none⟩) (by first | exact Nat.ne_of_lt (Nat.lt_of_lt_of_le (by have:=World.block_lt_of_cell? _ _ hw346_0;first | rwa [add_block] at this | exact this) GW347.out) | (rw [add_block];exact Nat.ne_of_lt (Nat.lt_of_lt_of_le (by have:=World.block_lt_of_cell? _ _ hw346_0;first | rwa [add_block] at this | exact this) GW347.out)) | (show (Addr.add _ _).block ≠ _;rw [add_block];exact Nat.ne_of_lt (Nat.lt_of_lt_of_le (by have:=World.block_lt_of_cell? _ _ hw346_0;first | rwa [add_block] at this | exact this) GW347.out)) | (dsimp only;exact Nat.ne_of_lt (Nat.lt_of_lt_of_le (by have:=World.block_lt_of_cell? _ _ hw346_0;first | rwa [add_block] at this | exact this) GW347.out))) _).trans (hHeld.2.2.2.1)))))),((cell_far (p:=⟨gb347,_,none⟩) (by first | exact Nat.ne_of_lt (Nat.lt_of_lt_of_le (by have:=World.block_lt_of_cell? _ _ hw346_1;first | rwa [add_block] at this | exact this) GW347.out) | (rw [add_block];exact Nat.ne_of_lt (Nat.lt_of_lt_of_le (by have:=World.block_lt_of_cell? _ _ hw346_1;first | rwa [add_block] at this | exact this) GW347.out)) | (show (Addr.add _ _).block ≠ _;rw [add_block];exact Nat.ne_of_lt (Nat.lt_of_lt_of_le (by have:=World.block_lt_of_cell? _ _ hw346_1;first | rwa [add_block] at this | exact this) GW347.out)) | (dsimp only;exact Nat.ne_of_lt (Nat.lt_of_lt_of_le (by have:=World.block_lt_of_cell? _ _ hw346_1;first | rwa [add_block] at this | exact this) GW347.out))) _).trans (((cell_far (p:=⟨gb347,_,none⟩) (by first | exact Nat.ne_of_lt (Nat.lt_of_lt_of_le (by have:=World.block_lt_of_cell? _ _ hw346_1;first | rwa [add_block] at this | exact this) GW347.out) | (rw [add_block];exact Nat.ne_of_lt (Nat.lt_of_lt_of_le (by have:=World.block_lt_of_cell? _ _ hw346_1;first | rwa [add_block] at this | exact this) GW347.out)) | (show (Addr.add _ _).block ≠ _;rw [add_block];exact Nat.ne_of_lt (Nat.lt_of_lt_of_le (by have:=World.block_lt_of_cell? _ _ hw346_1;first | rwa [add_block] at this | exact this) GW347.out)) | (dsimp only;exact Nat.ne_of_lt (Nat.lt_of_lt_of_le (by have:=World.block_lt_of_cell? _ _ hw346_1;first | rwa [add_block] at this | exact this) GW347.out))) _).trans (((cell_far (p:=⟨gb347,_,none⟩) (by first | exact Nat.ne_of_lt (Nat.lt_of_lt_of_le (by have:=World.block_lt_of_cell? _ _ hw346_1;first | rwa [add_block] at this | exact this) GW347.out) | (rw [add_block];exact Nat.ne_of_lt (Nat.lt_of_lt_of_le (by have:=World.block_lt_of_cell? _ _ hw346_1;first | rwa [add_block] at this | exact this) GW347.out)) | (show (Addr.add _ _).block ≠ _;rw [add_block];exact Nat.ne_of_lt (Nat.lt_of_lt_of_le (by have:=World.block_lt_of_cell? _ _ hw346_1;first | rwa [add_block] at this | exact this) GW347.out)) | (dsimp only;exact Nat.ne_of_lt (Nat.lt_of_lt_of_le (by have:=World.block_lt_of_cell? _ _ hw346_1;first | rwa [add_block] at this | exact this) GW347.out))) _).trans (hHeld.2.2.2.2.1)))))),((cell_far (p:=⟨gb347,_,none⟩) (by first | exact Nat.ne_of_lt (Nat.lt_of_lt_of_le (by have:=World.block_lt_of_cell? _ _ hw346_2;first | rwa [add_block] at this | exact this) GW347.out) | (rw [add_block];exact Nat.ne_of_lt (Nat.lt_of_lt_of_le (by have:=World.block_lt_of_cell? _ _ hw346_2;first | rwa [add_block] at this | exact this) GW347.out)) | (show (Addr.add _ _).block ≠ _;rw [add_block];exact Nat.ne_of_lt (Nat.lt_of_lt_of_le (by have:=World.block_lt_of_cell? _ _ hw346_2;first | rwa [add_block] at this | exact this) GW347.out)) | (dsimp only;exact Nat.ne_of_lt (Nat.lt_of_lt_of_le (by have:=World.block_lt_of_cell? _ _ hw346_2;first | rwa [add_block] at this | exact this) GW347.out))) _).trans (((cell_far (p:=⟨gb347,_,none⟩) (by first | exact Nat.ne_of_lt (Nat.lt_of_lt_of_le (by have:=World.block_lt_of_cell? _ _ hw346_2;first | rwa [add_block] at this | exact this) GW347.out) | (rw [add_block];exact Nat.ne_of_lt (Nat.lt_of_lt_of_le (by have:=World.block_lt_of_cell? _ _ hw346_2;first | rwa [add_block] at this | exact this) GW347.out)) | (show (Addr.add _ _).block ≠ _;rw [add_block];exact Nat.ne_of_lt (Nat.lt_of_lt_of_le (by have:=World.block_lt_of_cell? _ _ hw346_2;first | rwa [add_block] at this | exact this) GW347.out)) | (dsimp only;exact Nat.ne_of_lt (Nat.lt_of_lt_of_le (by have:=World.block_lt_of_cell? _ _ hw346_2;first | rwa [add_block] at this | exact this) GW347.out))) _).trans (((cell_far (p:=⟨gb347,_,none⟩) (by first | exact Nat.ne_of_lt (Nat.lt_of_lt_of_le (by have:=World.block_lt_of_cell? _ _ hw346_2;first | rwa [add_block] at this | exact this) GW347.out) | (rw [add_block];exact Nat.ne_of_lt (Nat.lt_of_lt_of_le (by have:=World.block_lt_of_cell? _ _ hw346_2;first | rwa [add_block] at this | exact this) GW347.out)) | (show (Addr.add _ _).block ≠ _;rw [add_block];exact Nat.ne_of_lt (Nat.lt_of_lt_of_le (by have:=World.block_lt_of_cell? _ _ hw346_2;first | rwa [add_block] at this | exact this) GW347.out)) | (dsimp only;exact Nat.ne_of_lt (Nat.lt_of_lt_of_le (by have:=World.block_lt_of_cell? _ _ hw346_2;first | rwa [add_block] at this | exact this) GW347.out))) _).trans (hHeld.2.2.2.2.2))))))⟩ (fun hHeld=>?_)
    clear hK K
    refine done_ (done_of HT_.out (by kernel_rfl)) ?_
    have hnb16:=NB347_344.out
    have hnc16:=NB344_347.out
    obtain ⟨hcz17_0,hcz17_1,hcz17_2⟩:=cO3 BK347.out
    have hfz17_0:=blk_frozen BK347.out 0
    have hfz17_1:=blk_frozen BK347.out 1
    have hfz17_2:=blk_frozen BK347.out 2
    try go_wp2
    go_roundg k1
    case measure=>have:=HK1.out;omega
    case rel=>exact ⟨(wrap64 ((wrap64 ((wrap64 (x9_1 + ((rd_T37 l0_0 (rd l2 x10_1)).f1))) - ((rd_T37 l0_0 (rd l2 x10_1)).f0.f0))) - (wrap64 (((rd_T37 l0_0 (rd l2 x10_1)).f0.f1) - ((rd_T37 l0_0 (rd l2 x10_1)).f0.f0))))),(wrap64 (x10_1 + 1)),(by first | rfl | (simp;done) | (simp [*];done)),(by first | rfl | (simp;done) | (simp [*];done)),H',⟨by have:=HK1.out;omega⟩,⟨by (with_reducible repeat (first | refine blk_drewN ?_ _ | refine blk_drew ?_ | refine blk_alloc ?_ _));refine blk_far ?_ NB344_347.out _;(with_reducible repeat (first | refine blk_drewN ?_ _ | refine blk_drew ?_ | refine blk_alloc ?_ _));refine blk_far ?_ NB344_347.out _;(with_reducible repeat (first | refine blk_drewN ?_ _ | refine blk_drew ?_ | refine blk_alloc ?_ _));refine blk_far ?_ NB344_347.out _;(with_reducible repeat (first | refine blk_drewN ?_ _ | refine blk_drew ?_ | refine blk_alloc ?_ _));exact BK344.out⟩,⟨by repeat (first | (with_reducible first | exact HB.out | refine below_set ?_ (Aside0.out (by assumption)) | apply below_alloc | apply pw_below_drewN) | exact HB.out)⟩⟩
   ·replace c10:=Bool.eq_false_iff.mpr c10
    subst c10
    replace H : (q8_Short.l0 k1 l1 l2 false (wrap64 ((wrap64 (x9_1 + ((rd_T37 l0_0 (rd l2 x10_1)).f1))) - ((rd_T37 l0_0 (rd l2 x10_1)).f0.f0))) (wrap64 (x10_1 + 1)) l0_0 l0_1) = some r:=by rw [if_neg (show ¬ (false = true) by decide)] at H;exact H
    replace H':=am H
    try go_wp2
    replace BK344:=am (blk_drew BK344.out)
    replace HB:=am (below_drew1 HB.out)
    have p345 : 0≤(x10_1 : Int):=of_decide_eq_true (by assumption)
    have q345 : x10_1 < (l2.length : Int):=of_decide_eq_true (by assumption)
    obtain ⟨ad345,e345,hx345_0⟩:=Kd.at_int HR2.out x10_1 p345 q345
    have hw345_0:=hx345_0
    cases e345
    replace hx345_0:=(HB.out.cell (wbl hx345_0)).trans hx345_0
    replace p345:=eq_true p345
    replace q345:=eq_true q345
    have p346 : 0≤((rd l2 x10_1) : Int):=of_decide_eq_true (by assumption)
    have q346 : (rd l2 x10_1) < (l0_0.length : Int):=of_decide_eq_true (by assumption)
    obtain ⟨ad346,e346,hx346_0,hx346_1,hx346_2⟩:=at_T37 HR0_0.out (rd l2 x10_1) p346 q346
    have hw346_2:=hx346_2
    have hw346_1:=hx346_1
    have hw346_0:=hx346_0
    cases e346
    replace hx346_0:=(HB.out.cell (wbl hx346_0)).trans hx346_0
    replace hx346_1:=(HB.out.cell (wbl hx346_1)).trans hx346_1
    replace hx346_2:=(HB.out.cell (wbl hx346_2)).trans hx346_2
    replace p346:=eq_true p346
    replace q346:=eq_true q346
    refine start_ (n:=10) (S:=fun w'=>w'.cell? ⟨gb344,0,none⟩ = some (.slice (some ad346) l0_0.length c0_0)∧w'.cell? ⟨gb344,1,none⟩ = some (.slice A0_1 l0_1.length c0_1)∧w'.cell? (ad345.add (x10_1).toNat) = some (.int .i64 (rd l2 x10_1))∧w'.cell? (ad346.add (((rd l2 x10_1)).toNat * 3)) = some (.int .i64 ((rd_T37 l0_0 (rd l2 x10_1)).f0.f0))∧w'.cell? ⟨(ad346.add (((rd l2 x10_1)).toNat * 3)).block,(ad346.add (((rd l2 x10_1)).toNat * 3)).off + 1,none⟩ = some (.int .i64 ((rd_T37 l0_0 (rd l2 x10_1)).f0.f1))∧w'.cell? ⟨(ad346.add (((rd l2 x10_1)).toNat * 3)).block,(ad346.add (((rd l2 x10_1)).toNat * 3)).off + 2,none⟩ = some (.int .i64 ((rd_T37 l0_0 (rd l2 x10_1)).f1))) (ds:=[]) (ba 10 0) (by kernel_rfl) rfl rfl ⟨(blk_cell BK344.out 0).trans rfl,(blk_cell BK344.out 1).trans rfl,((HB.out.cell (wbl hw345_0)).trans hw345_0),((HB.out.cell (wbl hw346_0)).trans hw346_0),((HB.out.cell (wbl hw346_1)).trans hw346_1),((HB.out.cell (wbl hw346_2)).trans hw346_2)⟩ (fun hHeld=>?_);refine with_tabW q8_Short.tab5 q8_Short.bits5 (fun HT_ HW_=>?_)
    generalize wr.drew = w18 at BK344 HB hx345_0 hx346_0 hx346_1 hx346_2 hHeld ⊢
    refine pure_ (i:=0) (N:=some 20) (v:=?_) (a':=?_) (ba 10 1) rfl rfl (any_of HT_.out (by kernel_rfl)) (fun _ _ _ h=>h) (Or.inl ⟨by rfl,?_⟩) ?_ ?_
    rotate_left
    ·intro w'
     go_simp
     with_reducible rfl
    rotate_left
    ·simp only [Act.put,NRM]
     rfl
    refine pure_ (i:=2) (N:=some 22) (v:=?_) (a':=?_) (ba 10 5) rfl rfl (any_of HT_.out (by kernel_rfl)) (fun _ _ _ h=>h) (Or.inl ⟨by rfl,?_⟩) ?_ ?_
    rotate_left
    ·intro w'
     go_simp
     with_reducible rfl
    rotate_left
    ·simp only [Act.put,NRM]
     rfl
    refine pure_ (i:=3) (N:=some 23) (v:=?_) (a':=?_) (ba 10 13) rfl rfl (any_of HT_.out (by kernel_rfl)) (fun _ _ _ h=>h) (Or.inl ⟨by rfl,?_⟩) ?_ ?_
    rotate_left
    ·intro w'
     go_simp
     with_reducible rfl
    rotate_left
    ·simp only [Act.put,NRM]
     rfl
    refine pure_ (i:=4) (N:=some 24) (v:=?_) (a':=?_) (ba 10 29) rfl rfl (any_of HT_.out (by kernel_rfl)) (fun _ _ _ h=>h) (Or.inl ⟨by rfl,?_⟩) ?_ ?_
    rotate_left
    ·intro w'
     go_simp
     with_reducible rfl
    rotate_left
    ·simp only [Act.put,NRM]
     rfl
    refine take_ (i:=1) (N:=some 21) (v:=?_) (a':=?_) (ba 10 31) rfl rfl (take_ofW HT_.out HW_.out (by kernel_rfl)) (fun _ _ _ h=>h) (Or.inl ⟨by rfl,?_⟩) hHeld ?_ ?_
    rotate_left
    ·rintro w' ⟨s0,s1,s2,s3,s4,s5⟩
     go_simp
     with_reducible rfl
    rotate_left
    ·simp only [Act.put,NRM]
     rfl
    refine take_ (i:=5) (N:=some 25) (v:=?_) (a':=?_) (ba 10 63) rfl rfl (take_ofW HT_.out HW_.out (by kernel_rfl)) (fun _ _ _ h=>h) (Or.inl ⟨by rfl,?_⟩) hHeld ?_ ?_
    rotate_left
    ·rintro w' ⟨s0,s1,s2,s3,s4,s5⟩
     go_simp
     with_reducible rfl
    rotate_left
    ·simp only [Act.put,NRM]
     rfl
    refine pure_ (i:=6) (N:=some 26) (v:=?_) (a':=?_) (ba 10 127) rfl rfl (any_of HT_.out (by kernel_rfl)) (fun _ _ _ h=>h) (Or.inl ⟨by rfl,?_⟩) ?_ ?_
    rotate_left
    ·intro w'
     go_simp
     with_reducible rfl
    rotate_left
    ·simp only [Act.put,NRM]
     rfl
    refine take_ (i:=7) (N:=some 27) (v:=?_) (a':=?_) (ba 10 255) rfl rfl (take_ofW HT_.out HW_.out (by kernel_rfl)) (fun _ _ _ h=>h) (Or.inl ⟨by rfl,?_⟩) hHeld ?_ ?_
    rotate_left
    ·rintro w' ⟨s0,s1,s2,s3,s4,s5⟩
     go_simp
     with_reducible rfl
    rotate_left
    ·simp only [Act.put,NRM]
     rfl
    refine one_ (i:=8) (N:=some 11) (ba 10 511) rfl rfl (one_of HT_.out (by kernel_rfl)) (by decide) (fun K hK=>?_)
    refine box_step ?hg (N:=11) ?hd (cs:=#[.int .i64 0,.int .i64 0,.int .i64 0]) (t:=37) ?hr ?_;(case hd=>rfl);(case hg=>rfl);(case hr=>go_simp;try rfl)
    intro gb347 hg w19 hbox hb
    have BK347:=am (hbox)
    have GW347:=am (ge_new (HB.out) hg)
    have GE347:=am (ge_new (HB.out) hg)
    have NB344_347:=am ((by rw [hg];exact Nat.ne_of_lt (blk_lt (g:=gb344) (o:=.cells #[.slice (some ad346) l0_0.length c0_0,.slice A0_1 l0_1.length c0_1] 25 (0,0)) (by (with_reducible repeat (first | refine blk_drewN ?_ _ | refine blk_drew ?_ | refine blk_alloc ?_ _));exact BK344.out)) : gb344 ≠ gb347))
    have NB347_344:=am ((by rw [hg];exact Nat.ne_of_gt (blk_lt (g:=gb344) (o:=.cells #[.slice (some ad346) l0_0.length c0_0,.slice A0_1 l0_1.length c0_1] 25 (0,0)) (by (with_reducible repeat (first | refine blk_drewN ?_ _ | refine blk_drew ?_ | refine blk_alloc ?_ _));exact BK344.out)) : gb347 ≠ gb344))
    replace BK344:=am (blk_below (g:=gb344) (o:=.cells #[.slice (some ad346) l0_0.length c0_0,.slice A0_1 l0_1.length c0_1] 25 (0,0)) (by (with_reducible repeat (first | refine blk_drewN ?_ _ | refine blk_drew ?_ | refine blk_alloc ?_ _));exact BK344.out) hb)
    replace HB:=am (below_step (HB.out) hb)
    clear hb hbox hg
    refine hK.out _ _ ⟨(blk_cell BK344.out 0).trans rfl,(blk_cell BK344.out 1).trans rfl,((HB.out.cell (wbl hw345_0)).trans hw345_0),((HB.out.cell (wbl hw346_0)).trans hw346_0),((HB.out.cell (wbl hw346_1)).trans hw346_1),((HB.out.cell (wbl hw346_2)).trans hw346_2)⟩ (fun hHeld=>?_)
    clear hK K
    refine norm_ (a':=?_) ?_ ?_
    rotate_left
    ·show Act.put _ (some 11) _ = _
     simp only [Act.put,NRM]
     rfl
    refine one_ (i:=9) (N:=none) (ba 10 1023) rfl rfl (one_of HT_.out (by kernel_rfl)) (by decide) (fun K hK=>?_)
    have hs20:=cO1 BK347.out
    have hfs20:=blk_frozen BK347.out 0
    have hns20_0:=NB344_347.out
    have hms20_0:=NB347_344.out
    have hs21 : w19.cell? ⟨gb347,1,none⟩ = some (.int .i64 0):=(blk_cell BK347.out 1).trans rfl
    have hfs21:=blk_frozen BK347.out 1
    have hns21_0:=NB344_347.out
    have hms21_0:=NB347_344.out
    have hs22 : w19.cell? ⟨gb347,2,none⟩ = some (.int .i64 0):=(blk_cell BK347.out 2).trans rfl
    have hfs22:=blk_frozen BK347.out 2
    have hns22_0:=NB344_347.out
    have hms22_0:=NB347_344.out
    refine skip_ (w1:=?_) (by rfl) rfl ?_ ?_
    rotate_left
    ·go_simp
     rfl
    refine hK.out _ _ ⟨((cell_far (p:=⟨gb347,_,none⟩) NB344_347.out _).trans (((cell_far (p:=⟨gb347,_,none⟩) NB344_347.out _).trans (((cell_far (p:=⟨gb347,_,none⟩) NB344_347.out _).trans (hHeld.1)))))),((cell_far (p:=⟨gb347,_,none⟩) NB344_347.out _).trans (((cell_far (p:=⟨gb347,_,none⟩) NB344_347.out _).trans (((cell_far (p:=⟨gb347,_,none⟩) NB344_347.out _).trans (hHeld.2.1)))))),((cell_far (p:=⟨gb347,_,none⟩) (by first | exact Nat.ne_of_lt (Nat.lt_of_lt_of_le (by have:=World.block_lt_of_cell? _ _ hw345_0;first | rwa [add_block] at this | exact this) GW347.out) | (rw [add_block];exact Nat.ne_of_lt (Nat.lt_of_lt_of_le (by have:=World.block_lt_of_cell? _ _ hw345_0;first | rwa [add_block] at this | exact this) GW347.out)) | (show (Addr.add _ _).block ≠ _;rw [add_block];exact Nat.ne_of_lt (Nat.lt_of_lt_of_le (by have:=World.block_lt_of_cell? _ _ hw345_0;first | rwa [add_block] at this | exact this) GW347.out)) | (dsimp only;exact Nat.ne_of_lt (Nat.lt_of_lt_of_le (by have:=World.block_lt_of_cell? _ _ hw345_0;first | rwa [add_block] at this | exact this) GW347.out))) _).trans (((cell_far (p:=⟨gb347,_,none⟩) (by first | exact Nat.ne_of_lt (Nat.lt_of_lt_of_le (by have:=World.block_lt_of_cell? _ _ hw345_0;first | rwa [add_block] at this | exact this) GW347.out) | (rw [add_block];exact Nat.ne_of_lt (Nat.lt_of_lt_of_le (by have:=World.block_lt_of_cell? _ _ hw345_0;first | rwa [add_block] at this | exact this) GW347.out)) | (show (Addr.add _ _).block ≠ _;rw [add_block];exact Nat.ne_of_lt (Nat.lt_of_lt_of_le (by have:=World.block_lt_of_cell? _ _ hw345_0;first | rwa [add_block] at this | exact this) GW347.out)) | (dsimp only;exact Nat.ne_of_lt (Nat.lt_of_lt_of_le (by have:=World.block_lt_of_cell? _ _ hw345_0;first | rwa [add_block] at this | exact this) GW347.out))) _).trans (((cell_far (p:=⟨gb347,_,none⟩) (by first | exact Nat.ne_of_lt (Nat.lt_of_lt_of_le (by have:=World.block_lt_of_cell? _ _ hw345_0;first | rwa [add_block] at this | exact this) GW347.out) | (rw [add_block];exact Nat.ne_of_lt (Nat.lt_of_lt_of_le (by have:=World.block_lt_of_cell? _ _ hw345_0;first | rwa [add_block] at this | exact this) GW347.out)) | (show (Addr.add _ _).block ≠ _;rw [add_block];exact Nat.ne_of_lt (Nat.lt_of_lt_of_le (by have:=World.block_lt_of_cell? _ _ hw345_0;first | rwa [add_block] at this | exact this) GW347.out)) | (dsimp only;exact Nat.ne_of_lt (Nat.lt_of_lt_of_le (by have:=World.block_lt_of_cell? _ _ hw345_0;first | rwa [add_block] at this | exact this) GW347.out))) _).trans (hHeld.2.2.1)))))),((cell_far (p:=⟨gb347,_,none⟩) (by first | exact Nat.ne_of_lt (Nat.lt_of_lt_of_le (by have:=World.block_lt_of_cell? _ _ hw346_0;first | rwa [add_block] at this | exact this) GW347.out) | (rw [add_block];exact Nat.ne_of_lt (Nat.lt_of_lt_of_le (by have:=World.block_lt_of_cell? _ _ hw346_0;first | rwa [add_block] at this | exact this) GW347.out)) | (show (Addr.add _ _).block ≠ _;rw [add_block];exact Nat.ne_of_lt (Nat.lt_of_lt_of_le (by have:=World.block_lt_of_cell? _ _ hw346_0;first | rwa [add_block] at this | exact this) GW347.out)) | (dsimp only;exact Nat.ne_of_lt (Nat.lt_of_lt_of_le (by have:=World.block_lt_of_cell? _ _ hw346_0;first | rwa [add_block] at this | exact this) GW347.out))) _).trans (((cell_far (p:=⟨gb347,_,none⟩) (by first | exact Nat.ne_of_lt (Nat.lt_of_lt_of_le (by have:=World.block_lt_of_cell? _ _ hw346_0;first | rwa [add_block] at this | exact this) GW347.out) | (rw [add_block];exact Nat.ne_of_lt (Nat.lt_of_lt_of_le (by have:=World.block_lt_of_cell? _ _ hw346_0;first | rwa [add_block] at this | exact this) GW347.out)) | (show (Addr.add _ _).block ≠ _;rw [add_block];exact Nat.ne_of_lt (Nat.lt_of_lt_of_le (by have:=World.block_lt_of_cell? _ _ hw346_0;first | rwa [add_block] at this | exact this) GW347.out)) | (dsimp only;exact Nat.ne_of_lt (Nat.lt_of_lt_of_le (by have:=World.block_lt_of_cell? _ _ hw346_0;first | rwa [add_block] at this | exact this) GW347.out))) _).trans (((cell_far (p:=⟨gb347,_,none⟩) (by first | exact Nat.ne_of_lt (Nat.lt_of_lt_of_le (by have:=World.block_lt_of_cell? _ _ hw346_0;first | rwa [add_block] at this | exact this) GW347.out) | (rw [add_block];exact Nat.ne_of_lt (Nat.lt_of_lt_of_le (by have:=World.block_lt_of_cell? _ _ hw346_0;first | rwa [add_block] at this | exact this) GW347.out)) | (show (Addr.add _ _).block ≠ _;rw [add_block];exact Nat.ne_of_lt (Nat.lt_of_lt_of_le (by have:=World.block_lt_of_cell? _ _ hw346_0;first | rwa [add_block] at this | exact this) GW347.out)) | (dsimp only;exact Nat.ne_of_lt (Nat.lt_of_lt_of_le (by have:=World.block_lt_of_cell? _ _ hw346_0;first | rwa [add_block] at this | exact this) GW347.out))) _).trans (hHeld.2.2.2.1)))))),((cell_far (p:=⟨gb347,_,none⟩) (by first | exact Nat.ne_of_lt (Nat.lt_of_lt_of_le (by have:=World.block_lt_of_cell? _ _ hw346_1;first | rwa [add_block] at this | exact this) GW347.out) | (rw [add_block];exact Nat.ne_of_lt (Nat.lt_of_lt_of_le (by have:=World.block_lt_of_cell? _ _ hw346_1;first | rwa [add_block] at this | exact this) GW347.out)) | (show (Addr.add _ _).block ≠ _;rw [add_block];exact Nat.ne_of_lt (Nat.lt_of_lt_of_le (by have:=World.block_lt_of_cell? _ _ hw346_1;first | rwa [add_block] at this | exact this) GW347.out)) | (dsimp only;exact Nat.ne_of_lt (Nat.lt_of_lt_of_le (by have:=World.block_lt_of_cell? _ _ hw346_1;first | rwa [add_block] at this | exact this) GW347.out))) _).trans (((cell_far (p:=⟨gb347,_,none⟩) (by first | exact Nat.ne_of_lt (Nat.lt_of_lt_of_le (by have:=World.block_lt_of_cell? _ _ hw346_1;first | rwa [add_block] at this | exact this) GW347.out) | (rw [add_block];exact Nat.ne_of_lt (Nat.lt_of_lt_of_le (by have:=World.block_lt_of_cell? _ _ hw346_1;first | rwa [add_block] at this | exact this) GW347.out)) | (show (Addr.add _ _).block ≠ _;rw [add_block];exact Nat.ne_of_lt (Nat.lt_of_lt_of_le (by have:=World.block_lt_of_cell? _ _ hw346_1;first | rwa [add_block] at this | exact this) GW347.out)) | (dsimp only;exact Nat.ne_of_lt (Nat.lt_of_lt_of_le (by have:=World.block_lt_of_cell? _ _ hw346_1;first | rwa [add_block] at this | exact this) GW347.out))) _).trans (((cell_far (p:=⟨gb347,_,none⟩) (by first | exact Nat.ne_of_lt (Nat.lt_of_lt_of_le (by have:=World.block_lt_of_cell? _ _ hw346_1;first | rwa [add_block] at this | exact this) GW347.out) | (rw [add_block];exact Nat.ne_of_lt (Nat.lt_of_lt_of_le (by have:=World.block_lt_of_cell? _ _ hw346_1;first | rwa [add_block] at this | exact this) GW347.out)) | (show (Addr.add _ _).block ≠ _;rw [add_block];exact Nat.ne_of_lt (Nat.lt_of_lt_of_le (by have:=World.block_lt_of_cell? _ _ hw346_1;first | rwa [add_block] at this | exact this) GW347.out)) | (dsimp only;exact Nat.ne_of_lt (Nat.lt_of_lt_of_le (by have:=World.block_lt_of_cell? _ _ hw346_1;first | rwa [add_block] at this | exact this) GW347.out))) _).trans (hHeld.2.2.2.2.1)))))),((cell_far (p:=⟨gb347,_,none⟩) (by first | exact Nat.ne_of_lt (Nat.lt_of_lt_of_le (by have:=World.block_lt_of_cell? _ _ hw346_2;first | rwa [add_block] at this | exact this) GW347.out) | (rw [add_block];exact Nat.ne_of_lt (Nat.lt_of_lt_of_le (by have:=World.block_lt_of_cell? _ _ hw346_2;first | rwa [add_block] at this | exact this) GW347.out)) | (show (Addr.add _ _).block ≠ _;rw [add_block];exact Nat.ne_of_lt (Nat.lt_of_lt_of_le (by have:=World.block_lt_of_cell? _ _ hw346_2;first | rwa [add_block] at this | exact this) GW347.out)) | (dsimp only;exact Nat.ne_of_lt (Nat.lt_of_lt_of_le (by have:=World.block_lt_of_cell? _ _ hw346_2;first | rwa [add_block] at this | exact this) GW347.out))) _).trans (((cell_far (p:=⟨gb347,_,none⟩) (by first | exact Nat.ne_of_lt (Nat.lt_of_lt_of_le (by have:=World.block_lt_of_cell? _ _ hw346_2;first | rwa [add_block] at this | exact this) GW347.out) | (rw [add_block];exact Nat.ne_of_lt (Nat.lt_of_lt_of_le (by have:=World.block_lt_of_cell? _ _ hw346_2;first | rwa [add_block] at this | exact this) GW347.out)) | (show (Addr.add _ _).block ≠ _;rw [add_block];exact Nat.ne_of_lt (Nat.lt_of_lt_of_le (by have:=World.block_lt_of_cell? _ _ hw346_2;first | rwa [add_block] at this | exact this) GW347.out)) | (dsimp only;exact Nat.ne_of_lt (Nat.lt_of_lt_of_le (by have:=World.block_lt_of_cell? _ _ hw346_2;first | rwa [add_block] at this | exact this) GW347.out))) _).trans (((cell_far (p:=⟨gb347,_,none⟩) (by first | exact Nat.ne_of_lt (Nat.lt_of_lt_of_le (by have:=World.block_lt_of_cell? _ _ hw346_2;first | rwa [add_block] at this | exact this) GW347.out) | (rw [add_block];exact Nat.ne_of_lt (Nat.lt_of_lt_of_le (by have:=World.block_lt_of_cell? _ _ hw346_2;first | rwa [add_block] at this | exact this) GW347.out)) | (show (Addr.add _ _).block ≠ _;rw [add_block];exact Nat.ne_of_lt (Nat.lt_of_lt_of_le (by have:=World.block_lt_of_cell? _ _ hw346_2;first | rwa [add_block] at this | exact this) GW347.out)) | (dsimp only;exact Nat.ne_of_lt (Nat.lt_of_lt_of_le (by have:=World.block_lt_of_cell? _ _ hw346_2;first | rwa [add_block] at this | exact this) GW347.out))) _).trans (hHeld.2.2.2.2.2))))))⟩ (fun hHeld=>?_)
    clear hK K
    refine done_ (done_of HT_.out (by kernel_rfl)) ?_
    have hnb23:=NB347_344.out
    have hnc23:=NB344_347.out
    obtain ⟨hcz24_0,hcz24_1,hcz24_2⟩:=cO3 BK347.out
    have hfz24_0:=blk_frozen BK347.out 0
    have hfz24_1:=blk_frozen BK347.out 1
    have hfz24_2:=blk_frozen BK347.out 2
    try go_wp2
    go_roundg k1
    case measure=>have:=HK1.out;omega
    case rel=>exact ⟨(wrap64 ((wrap64 (x9_1 + ((rd_T37 l0_0 (rd l2 x10_1)).f1))) - ((rd_T37 l0_0 (rd l2 x10_1)).f0.f0))),(wrap64 (x10_1 + 1)),(by first | rfl | (simp;done) | (simp [*];done)),(by first | rfl | (simp;done) | (simp [*];done)),H',⟨by have:=HK1.out;omega⟩,⟨by (with_reducible repeat (first | refine blk_drewN ?_ _ | refine blk_drew ?_ | refine blk_alloc ?_ _));refine blk_far ?_ NB344_347.out _;(with_reducible repeat (first | refine blk_drewN ?_ _ | refine blk_drew ?_ | refine blk_alloc ?_ _));refine blk_far ?_ NB344_347.out _;(with_reducible repeat (first | refine blk_drewN ?_ _ | refine blk_drew ?_ | refine blk_alloc ?_ _));refine blk_far ?_ NB344_347.out _;(with_reducible repeat (first | refine blk_drewN ?_ _ | refine blk_drew ?_ | refine blk_alloc ?_ _));exact BK344.out⟩,⟨by repeat (first | (with_reducible first | exact HB.out | refine below_set ?_ (Aside0.out (by assumption)) | apply below_alloc | apply pw_below_drewN) | exact HB.out)⟩⟩
section
variable {pts : List Pt} {ch : List Ch}
theorem gatesFrom_len : ∀ (i j : Int) (l : List Ch),(gatesFrom i l).length = (gatesFrom j l).length
 | _,_,[]=>rfl
 | i,j,c :: l=>by
  unfold gatesFrom
  split
  ·simp only [List.length_cons];rw [gatesFrom_len (i + 1) (j + 1) l]
  ·exact gatesFrom_len (i + 1) (j + 1) l
def finS (pts : List Pt) (ch : List Ch) (g : Nat) : Bool:=decide (1≤pts.length∧pts.length≤7) && (decide (ch.length≤10) && decide (g≤7))
theorem rNet_l1 (hp : pts.length≤1000) (hc : ch.length≤1000) : ∀ (rest : List Ch) (k i g : Nat),ch.drop i = rest→g≤i→2 * rest.length < k→
 q8_Net.l1 k (g : Int) (i : Int) pts ch = some (rest.all (chS pts.length) && finS pts ch (g + (gatesFrom 0 rest).length))
 | _,0,_,_,_,_,hk=>by omega
 | [],k + 1,i,g,hd,_,_=>by
  have : ch.length≤i:=by have:=congrArg List.length hd;simp at this;omega
  unfold q8_Net.l1
  rw [if_neg (by omega),rin_eq,show g + (gatesFrom 0 ([] : List Ch)).length = g from rfl,List.all_nil,Bool.true_and]
  unfold finS
  simp only [Option.bind_some]
  by_cases h1 : 1≤pts.length∧pts.length≤7
  ·rw [decide_eq_true h1,decide_eq_true (show (1 : Int)≤(pts.length : Int)∧(pts.length : Int)≤7 by omega),if_pos rfl]
   by_cases h2 : ch.length≤10
   ·rw [decide_eq_true h2,if_pos (by omega)];simp only [Bool.true_and];congr 1;exact Bool.eq_iff_iff.2 (by simp only [decide_eq_true_eq];omega)
   ·rw [decide_eq_false h2,if_neg (by omega)];simp
  ·rw [decide_eq_false h1,decide_eq_false (show ¬ ((1 : Int)≤(pts.length : Int)∧(pts.length : Int)≤7) by omega)];simp
 | x :: rest,k + 1,i,g,hd,hg,hk=>by
  obtain ⟨hd2,hlt⟩:=drop_succ hd
  obtain ⟨k,rfl⟩ : ∃ k',k = k' + 1:=⟨k - 1,by simp at hk;omega⟩
  have ih:=fun g h=>rNet_l1 hp hc rest k (i + 1) g hd2 h (by simp at hk;omega)
  unfold q8_Net.l1
  rw [if_pos (by omega),if_pos (by omega),rdT_nat ch i x rest hd]
  have hj : ∀ b : Bool,q8_Net.j2 (k + 1) (g : Int) (i : Int) b pts ch x.f0 x.f1 x.f2 x.f3 = some (!b && (rest.all (chS pts.length) && finS pts ch (g + (gatesFrom 0 (x :: rest)).length))):=by
   intro b
   unfold q8_Net.j2
   cases b with
   | true=>rfl
   | false =>
    rw [if_neg (by decide),wr (x:=(g : Int) + 1) (by omega) (by omega),wr (x:=(i : Int) + 1) (by omega) (by omega),show (i : Int) + 1 = ((i + 1 : Nat) : Int) from rfl,show (g : Int) + 1 = ((g + 1 : Nat) : Int) from rfl]
    unfold gatesFrom
    by_cases hx : x.f3 = true
    ·rw [if_pos hx,if_pos hx,ih _ (by omega),List.length_cons,gatesFrom_len (0 + 1) 0,show g + 1 + (gatesFrom 0 rest).length = g + ((gatesFrom 0 rest).length + 1) by omega];rfl
    ·rw [if_neg hx,if_neg hx,ih _ (by omega),gatesFrom_len (0 + 1) 0];rfl
  simp only [rPoint_eq hp,rcups_eq,Option.bind_some,hj,List.all_cons]
  unfold chS
  cases isPtS pts.length x.f0<;>cases isPtS pts.length x.f1<;>simp
  by_cases h : x.f0 = x.f1
  ·rw [if_pos h];simp [h]
  ·rw [if_neg h];simp [h,Bool.and_assoc]
theorem rNet_l0 (hp : pts.length≤1000) (hc : ch.length≤1000) : ∀ (rest : List Pt) (k i : Nat),pts.drop i = rest→rest.length + 2 * ch.length + 1 < k→
 q8_Net.l0 k (i : Int) pts ch = some (rest.all ptS && (ch.all (chS pts.length) && finS pts ch (gatesL ch).length))
 | _,0,_,_,hk=>by omega
 | [],k + 1,i,hd,hk=>by
  have : pts.length≤i:=by have:=congrArg List.length hd;simp at this;omega
  unfold q8_Net.l0
  rw [if_neg (by omega)]
  have:=rNet_l1 hp hc ch k 0 0 rfl (Nat.le_refl _) (by simp at hk;omega)
  rw [Nat.zero_add] at this
  rw [List.all_nil,Bool.true_and]
  exact this
 | x :: rest,k + 1,i,hd,hk=>by
  obtain ⟨hd2,hlt⟩:=drop_succ hd
  have ih:=rNet_l0 hp hc rest k (i + 1) hd2 (by simp at hk;omega)
  unfold q8_Net.l0
  rw [if_pos (by omega),if_pos (by omega),rdP_nat pts i x rest hd,wr (by omega) (by omega),show (i : Int) + 1 = ((i + 1 : Nat) : Int) from rfl,ih]
  simp only [rcups_eq,Option.bind_some,List.all_cons]
  unfold ptS
  cases cupS x.f0.f0<;>cases cupS x.f0.f1<;>simp
  by_cases h : x.f0.f1 < x.f0.f0
  ·rw [if_pos h,decide_eq_false (by omega)];simp
  ·rw [if_neg h,decide_eq_true (show x.f0.f0≤x.f0.f1 by omega)];cases cupS x.f1<;>simp
theorem rNet_eq (hp : pts.length≤1000) (hc : ch.length≤1000) {k : Nat} (hk : pts.length + 2 * ch.length + 1 < k) : q8_Net.f k pts ch = some (netS pts ch):=by
 have:=rNet_l0 hp hc pts k 0 rfl hk
 unfold q8_Net.f
 rw [show (0 : Int) = ((0 : Nat) : Int) from rfl,this]
 unfold netS finS
 cases decide (1≤pts.length∧pts.length≤7)<;>cases decide (ch.length≤10)<;>cases pts.all ptS<;>cases ch.all (chS pts.length)<;>rfl
theorem index_go (l : List Int) (hl : l.length≤1000) (a : Int) : ∀ (d k i : Nat),i + d = l.length→d < k→∃ r,sl_Index_int_int.l0 k l a (l.length : Int) (i : Int) = some r∧(0≤r↔a ∈ l.drop i)
 | _,0,_,_,hk=>by omega
 | 0,k + 1,i,hi,_=>by
  refine ⟨-1,?_,?_⟩
  ·unfold sl_Index_int_int.l0;rw [if_neg (by omega)]
  ·rw [List.drop_of_length_le (by omega)];simp
 | d + 1,k + 1,i,hi,hk=>by
  obtain ⟨r,h1,h2⟩:=index_go l hl a d k (i + 1) (by omega) (by omega)
  have hd : l.drop i = l.getD i 0 :: l.drop (i + 1):=by rw [List.drop_eq_getElem_cons (show i < l.length by omega),List.getD_eq_getElem?_getD,List.getElem?_eq_getElem (show i < l.length by omega)];rfl
  unfold sl_Index_int_int.l0
  rw [if_pos (by omega),if_pos (by omega),if_pos (by omega),rd_nat,wr (by omega) (by omega),show (i : Int) + 1 = ((i + 1 : Nat) : Int) from rfl,h1]
  by_cases h : a = l.getD i 0
  ·rw [if_pos h];exact ⟨i,rfl,by rw [hd,h];simp⟩
  ·rw [if_neg h];exact ⟨r,rfl,by rw [hd,List.mem_cons,h2];exact ⟨.inr,fun e=>e.elim (fun e=>absurd e h) id⟩⟩
theorem contains_eq {l : List Int} (hl : l.length≤1000) (a : Int) {k : Nat} (hk : l.length < k) : sl_Contains_int_int.f k l a = some (decide (a ∈ l)):=by
 obtain ⟨r,h1,h2⟩:=index_go l hl a l.length k 0 (by omega) hk
 unfold sl_Contains_int_int.f sl_Index_int_int.f
 rw [show (0 : Int) = ((0 : Nat) : Int) from rfl,h1]
 simp only [Option.bind_some]
 congr 1;rw [decide_eq_decide];rw [List.drop_zero] at h2;exact h2
theorem listed_go (l : List Int) (hl : l.length≤1000) (a : Int) : ∀ (d k i : Nat),i + d = l.length→d < k→q8_Listed.l0 k l a (i : Int) = some (decide (a ∈ l.drop i))
 | _,0,_,_,hk=>by omega
 | 0,k + 1,i,hi,_=>by
  unfold q8_Listed.l0;rw [if_neg (by omega),List.drop_of_length_le (by omega)];simp
 | d + 1,k + 1,i,hi,hk=>by
  have h1:=listed_go l hl a d k (i + 1) (by omega) (by omega)
  have hd : l.drop i = l.getD i 0 :: l.drop (i + 1):=by rw [List.drop_eq_getElem_cons (show i < l.length by omega),List.getD_eq_getElem?_getD,List.getElem?_eq_getElem (show i < l.length by omega)];rfl
  unfold q8_Listed.l0
  rw [if_pos (by omega),if_pos (by omega),rd_nat,wr (by omega) (by omega),show (i : Int) + 1 = ((i + 1 : Nat) : Int) from rfl,h1]
  by_cases h : l.getD i 0 = a
  ·rw [if_pos h,hd,h,decide_eq_true (List.mem_cons_self)]
  ·rw [if_neg h,hd];simp only [List.mem_cons];congr 1;rw [decide_eq_decide];constructor
   ·exact .inr
   ·rintro (e | e)
    ·exact absurd e.symm h
    ·exact e
theorem listed_eq {l : List Int} (hl : l.length≤1000) (a : Int) {k : Nat} (hk : l.length < k) : q8_Listed.f k l a = some (decide (a ∈ l)):=listed_go l hl a l.length k 0 (by omega) hk
def openC (op : List Int) (x : Ch) (c : Int) : Bool:=!x.f3 || decide (c ∈ op)
theorem carries_eq {op : List Int} (ho : op.length≤1000) {k : Nat} (hk : op.length < k) {i : Nat} {x : Ch} {rest : List Ch} (hd : ch.drop i = x :: rest) : gs_carries.f k pts ch op (i : Int) = some (if openC op x (i : Int) = true then x.f2 else 0):=by
 obtain ⟨_,hlt⟩:=drop_succ hd
 unfold gs_carries.f openC
 rw [if_pos (by omega),if_pos (by omega),rdT_nat ch i x rest hd,contains_eq ho _ hk]
 simp only [Option.bind_some]
 cases x.f3 with
 | false=>rw [if_neg (by decide)];rfl
 | true =>
  rw [if_pos rfl]
  by_cases h : (i : Int) ∈ op
  ·rw [decide_eq_true h];rfl
  ·rw [decide_eq_false h];rfl
theorem open_eq {op : List Int} (ho : op.length≤1000) {k : Nat} (hk : op.length < k) {i : Nat} {x : Ch} {rest : List Ch} (hd : ch.drop i = x :: rest) : q8_Open.f k pts ch op (i : Int) = some (openC op x (i : Int)):=by
 obtain ⟨_,hlt⟩:=drop_succ hd
 unfold q8_Open.f openC
 rw [if_pos (by omega),if_pos (by omega),rdT_nat ch i x rest hd,listed_eq ho _ hk]
 simp only [Option.bind_some]
 cases x.f3<;>rfl
def lackP (hi : Bool) (p : Pt) : Int:=p.f1 - (if hi = true then p.f0.f1 else p.f0.f0)
def brings (op S : List Int) : Int→List Ch→Int
 | _,[]=>0
 | c,x :: xs=>(if openC op x c = true∧x.f1 ∈ S∧x.f0 ∉ S then x.f2 else 0) + brings op S (c + 1) xs
def shortS (pts : List Pt) (ch : List Ch) (op S : List Int) (hi : Bool) : Int:=(S.map fun p=>lackP hi (rd_T37 pts p)).sum - brings op S 0 ch
def okPts (n : Nat) (S : List Int) : Prop:=S.length≤10∧∀ p ∈ S,0≤p∧p < (n : Int)
theorem pt_in (h : pts.all ptS = true) {p : Int} (h0 : 0≤p) (h1 : p < (pts.length : Int)) : ptS (rd_T37 pts p) = true:=by
 rw [List.all_eq_true] at h
 refine h _ ?_
 show pts.getD p.toNat _ ∈ pts
 rw [List.getD_eq_getElem?_getD,List.getElem?_eq_getElem (show p.toNat < pts.length by omega)]
 simp
theorem ptS_iff {p : Pt} : ptS p = true↔(0≤p.f0.f0∧p.f0.f0≤10000)∧(0≤p.f0.f1∧p.f0.f1≤10000)∧p.f0.f0≤p.f0.f1∧0≤p.f1∧p.f1≤10000:=by
 unfold ptS cupS
 simp only [Bool.and_eq_true,decide_eq_true_eq]
theorem lack_bd (h : pts.all ptS = true) (hi : Bool) {p : Int} (h0 : 0≤p) (h1 : p < (pts.length : Int)) : -10000≤lackP hi (rd_T37 pts p)∧lackP hi (rd_T37 pts p)≤10000:=by
 have:=ptS_iff.1 (pt_in h h0 h1)
 unfold lackP
 cases hi<;>simp<;>omega
theorem short1_eq (h : pts.all ptS = true) (hi : Bool) : ∀ (S acc : List Int),(∀ p ∈ S,0≤p∧p < (pts.length : Int))→acc.length + 2 * S.length≤1000→
 ∃ l,short1 pts hi S acc = some (acc ++ l)∧l.length = 2 * S.length∧(∀ x ∈ l,-10000≤x∧x≤10000)∧l.sum = (S.map fun p=>lackP hi (rd_T37 pts p)).sum
 | [],acc,_,_=>⟨[],by simp [short1],rfl,by simp,rfl⟩
 | p :: S,acc,hS,hl=>by
  obtain ⟨p0,p1⟩:=hS p List.mem_cons_self
  have hpt:=ptS_iff.1 (pt_in h p0 p1)
  simp only [List.length_cons] at hl
  generalize hq : rd_T37 pts p = q at hpt
  obtain ⟨l,h1,h2,h3,h4⟩:=short1_eq h hi S (acc ++ [q.f1,-(if hi = true then q.f0.f1 else q.f0.f0)]) (fun z hz=>hS z (List.mem_cons_of_mem _ hz)) (by simp;omega)
  refine ⟨[q.f1,-(if hi = true then q.f0.f1 else q.f0.f0)] ++ l,?_,by simp [h2];omega,?_,?_⟩
  ·unfold short1
   rw [if_pos p0,if_pos p1,if_pos (by omega),hq,wr (by cases hi<;>simp<;>omega) (by cases hi<;>simp<;>omega),h1,List.append_assoc]
  ·intro x hx
   rcases List.mem_append.1 hx with hx | hx
   ·simp only [List.mem_cons,List.not_mem_nil,or_false] at hx
    rcases hx with rfl | rfl
    ·omega
    ·cases hi<;>simp<;>omega
   ·exact h3 x hx
  ·rw [List.sum_append,h4,List.map_cons,List.sum_cons,hq]
   unfold lackP
   simp;omega
theorem chS_iff {n : Nat} {c : Ch} : chS n c = true↔(0≤c.f0∧c.f0 < (n : Int))∧(0≤c.f1∧c.f1 < (n : Int))∧c.f0 ≠ c.f1∧0≤c.f2∧c.f2≤10000:=by
 unfold chS cupS isPtS
 simp only [Bool.and_eq_true,decide_eq_true_eq]
theorem short2_eq {op S : List Int} (ho : op.length≤1000) (hS : S.length≤1000) {k : Nat} (hk : op.length < k) (hk2 : S.length < k) : ∀ (rest : List Ch) (i : Nat) (acc : List Int),ch.drop i = rest→(∀ c ∈ rest,0≤c.f2∧c.f2≤10000)→acc.length + rest.length≤1000→
 ∃ l,short2 k pts ch op S rest (i : Int) acc = some (acc ++ l)∧l.length≤rest.length∧(∀ x ∈ l,-10000≤x∧x≤10000)∧l.sum = -brings op S (i : Int) rest
 | [],i,acc,_,_,_=>⟨[],by simp [short2],Nat.le_refl _,by simp,by simp [brings]⟩
 | x :: rest,i,acc,hd,hc,hl=>by
  obtain ⟨hd2,hlt⟩:=drop_succ hd
  have hx:=hc x List.mem_cons_self
  have ih:=fun acc h=>short2_eq ho hS hk hk2 rest (i + 1) acc hd2 (fun z hz=>hc z (List.mem_cons_of_mem _ hz)) h
  unfold short2 brings
  rw [contains_eq hS _ hk2,contains_eq hS _ hk2,carries_eq ho hk hd]
  simp only [Option.bind_some,decide_eq_true_eq]
  rw [show (i : Int) + 1 = ((i + 1 : Nat) : Int) from rfl]
  by_cases h1 : x.f1 ∈ S
  ·rw [if_pos h1]
   by_cases h2 : x.f0 ∈ S
   ·rw [if_pos h2,if_neg (fun e=>e.2.2 h2)]
    obtain ⟨l,a1,a2,a3,a4⟩:=ih acc (by simp at hl;omega)
    exact ⟨l,a1,by simp;omega,a3,by rw [a4];omega⟩
   ·rw [if_neg h2,if_pos (by simp at hl;omega)]
    obtain ⟨l,a1,a2,a3,a4⟩:=ih (acc ++ [wrap64 (-(if openC op x (i : Int) = true then x.f2 else 0))]) (by simp at hl ⊢;omega)
    by_cases h3 : openC op x (i : Int) = true
    ·simp only [h3,h1,h2,if_true,not_false_eq_true,and_self] at a1 ⊢
     rw [wr (x:=-x.f2) (by omega) (by omega)] at a1 ⊢
     refine ⟨-x.f2 :: l,by rw [a1];simp,by simp;omega,?_,by rw [List.sum_cons,a4];omega⟩
     intro y hy
     rcases List.mem_cons.1 hy with rfl | hy
     ·omega
     ·exact a3 y hy
    ·simp only [h3,false_and,if_false,Bool.false_eq_true] at a1 ⊢
     rw [wr (x:=-0) (by omega) (by omega)] at a1 ⊢
     refine ⟨-0 :: l,by rw [a1];simp,by simp;omega,?_,by rw [List.sum_cons,a4];omega⟩
     intro y hy
     rcases List.mem_cons.1 hy with rfl | hy
     ·omega
     ·exact a3 y hy
  ·rw [if_neg h1,if_neg (fun e=>h1 e.2.1)]
   obtain ⟨l,a1,a2,a3,a4⟩:=ih acc (by simp at hl;omega)
   exact ⟨l,a1,by simp;omega,a3,by rw [a4];omega⟩
theorem sum_go (l : List Int) (hl : l.length≤1000) (hb : ∀ x ∈ l,-10000≤x∧x≤10000) : ∀ (rest : List Int) (k i : Nat) (acc : Int),l.drop i = rest→-10000 * (i : Int)≤acc→acc≤10000 * (i : Int)→rest.length < k→
 ga_sum.l0 k acc l (l.length : Int) (i : Int) = some (acc + rest.sum)
 | _,0,_,_,_,_,_,hk=>by omega
 | [],k + 1,i,acc,hd,_,_,_=>by
  have : l.length≤i:=by have:=congrArg List.length hd;simp at this;omega
  unfold ga_sum.l0
  rw [if_neg (by omega)];simp
 | x :: rest,k + 1,i,acc,hd,h0,h1,hk=>by
  obtain ⟨hd2,hlt⟩:=drop_succ hd
  have hx : l.getD i 0 = x:=by
   have:=congrArg (fun z=>z[0]?) hd
   rw [List.getD_eq_getElem?_getD,show l[i]? = some x by simpa using this];rfl
  have hxb:=hb x (by
   have : x ∈ l.drop i:=by rw [hd];exact List.mem_cons_self
   exact List.mem_of_mem_drop this)
  have ih:=sum_go l hl hb rest k (i + 1) (acc + x) hd2 (by omega) (by omega) (by simp at hk;omega)
  unfold ga_sum.l0
  rw [if_pos (by omega),if_pos (by omega),if_pos (by omega),rd_nat,hx,wr (x:=acc + x) (by omega) (by omega),wr (x:=(i : Int) + 1) (by omega) (by omega),show (i : Int) + 1 = ((i + 1 : Nat) : Int) from rfl,ih,List.sum_cons]
  congr 1;omega
theorem sum_eq {l : List Int} (hl : l.length≤1000) (hb : ∀ x ∈ l,-10000≤x∧x≤10000) {k : Nat} (hk : l.length < k) : ga_sum.f k l = some l.sum:=by
 have:=sum_go l hl hb l k 0 0 rfl (by omega) (by omega) hk
 rw [Int.zero_add] at this
 exact this
theorem cSort_eq (hpt : pts.all ptS = true) (hch : ch.all (chS pts.length) = true) (hc : ch.length≤20) {op S : List Int} (ho : op.length≤1000) (hS : okPts pts.length S) (hi : Bool) {k : Nat} (hk : op.length < k) (hk2 : 100≤k) : gs_short.f k pts ch op S hi = some (shortS pts ch op S hi):=by
 obtain ⟨l,a1,a2,a3,a4⟩:=short1_eq hpt hi S [] hS.2 (by have:=hS.1;simp;omega)
 obtain ⟨m,b1,b2,b3,b4⟩:=short2_eq (pts:=pts) (ch:=ch) ho (show S.length≤1000 by have:=hS.1;omega) hk (show S.length < k by have:=hS.1;omega) ch 0 ([] ++ l) rfl (fun c hcm=>(chS_iff.1 (List.all_eq_true.1 hch c hcm)).2.2.2) (by have:=hS.1;simp;omega)
 unfold gs_short.f
 rw [a1]
 simp only [Option.bind_some]
 rw [show (0 : Int) = ((0 : Nat) : Int) from rfl,b1]
 simp only [Option.bind_some,List.nil_append]
 rw [sum_eq (by have:=hS.1;simp;omega) ?_ (by have:=hS.1;simp;omega),List.sum_append,a4,b4]
 ·rfl
 ·intro x hx
  rcases List.mem_append.1 hx with hx | hx
  ·exact a3 x hx
  ·exact b3 x hx
end
mutual
def q8_Lists.l0 : Nat→List Int→Int→List (List Int)→Int→Option ((List (List Int)))
 | 0,_,_,_,_=>none
 | k + 1,x0,x1,x5,x6=>if (wrap64 (x6 + x1))≤(x0.length : Int) then (if 0≤(wrap64 (x6 + 1)) then (if (wrap64 (x6 + 1))≤(x0.length : Int) then ((q8_Lists.f k (x0.drop ((wrap64 (x6 + 1)) : Int).toNat) (wrap64 (x1 - 1))).bind fun t357=>(q8_Lists.l1 k x0 x1 x5 x6 t357 0)) else (none)) else (none)) else (some x5)
def q8_Lists.l1 : Nat→List Int→Int→List (List Int)→Int→List (List Int)→Int→Option ((List (List Int)))
 | 0,_,_,_,_,_,_=>none
 | k + 1,x0,x1,x5,x6,x7,x8=>if x8 < (x7.length : Int) then (if 0≤x6 then (if x6 < (x0.length : Int) then ((some (([rd x0 x6] : List Int) : List Int)).bind fun y361=>(if 0≤x8 then (if y361.length + (rd_L1 x7 x8).length < 17592186044416 then (if x5.length < 5864062014805 then (q8_Lists.l1 k x0 x1 (x5 ++ [(y361 ++ (rd_L1 x7 x8))]) x6 x7 (wrap64 (x8 + 1))) else (none)) else (none)) else (none))) else (none)) else (none)) else (q8_Lists.l0 k x0 x1 x5 (wrap64 (x6 + 1)))
def q8_Lists.f : Nat→List Int→Int→Option ((List (List Int)))
 | 0,_,_=>none
 | k + 1,l0,a1=>if a1 = 0 then (some (([[]] : List (List Int)))) else (q8_Lists.l0 k l0 a1 ([] : List (List Int)) 0)
end
def q8_Lists.T11 : Bool × List (List Nat × List Nat):=(true,[([],[]),([],[]),([],[]),([1,2],[1,2]),([3],[3]),([4],[4]),([],[]),([],[]),([6,7],[6,7]),([8],[8]),([5,9],[5,9]),([10],[10]),([0,11,10],[0,11]),([12,12,0,1,2,3,4,5,6,7,8,9,10,11,12],[0,12])])
def q8_Lists.B11 : List Nat:=[0,0,0,6,14,30,0,0,192,448,1022,2046,4095,8191]
theorem q8_Lists.tab11 : rtab .any (opsOf Tryz.f108 11) = q8_Lists.T11:=by kernel_rfl
theorem q8_Lists.bits11 : waitsOk q8_Lists.T11.2 q8_Lists.B11 = true:=by kernel_rfl
theorem q8_Lists.calls (k : Nat) : ∀ (A0 : Option Addr) (c0 : Nat) (l0 : List Int) (a1 : Int) (r : List (List Int)) (w : World) (hr0 : Kd.C (Kd.int .i64) w A0 l0.length l0) (hc0 : l0.length≤c0) (h : q8_Lists.f k l0 a1 = some r),
 Calls Tryz.prog 108 #[.slice A0 l0.length c0,.int .i64 a1] w fun e w'=>∃ v0_ : Value,e = .returned (v0_)∧Kd.S (Kd.slice 3 (Kd.int .i64)) 26 w' w.heap.size (fun _=>True) v0_ r∧Below w.heap.size w w':=by
 induction k using Nat.strongRecOn with
 | _ k ih =>
 intro A0 c0 l0 a1 r w hr0 hc0 h
 cases k with
 | zero=>exact absurd h (by simp [q8_Lists.f])
 | succ k =>
 simp only [q8_Lists.f] at h
 have HR0:=am hr0
 have HC0:=am hc0
 clear hr0 hc0
 have HB:=am (Below.refl w.heap.size w)
 have H : (if a1 = 0 then (some (([[]] : List (List Int)))) else (q8_Lists.l0 k l0 a1 ([] : List (List Int)) 0)) = some r:=h
 clear h
 by_cases c3 : a1 = 0
 ·rw [if_pos c3] at H
  have c3b0 : (a1 == 0) = true:=beq_iff_eq.mpr c3
  have c3b1 : (a1 != 0) = false:=bne_eq_false_iff_eq.mpr c3
  clear c3
  obtain ⟨y353,hy353⟩ : ∃ y_ : List (List Int),y_ = (([[]] : List (List Int))):=⟨_,rfl⟩
  replace H : (some y353) = some r:=by first | (rw [hy353];with_reducible exact H) | (have H2_:=(Option.bind_some _ _).symm.trans H;rw [hy353];with_reducible exact H2_) | (have H2_:=(Option.bind_some _ _).symm.trans H;with_reducible exact H2_) | with_reducible exact H | (rw [hy353];exact H) | exact H
  have Ny353:=am hy353
  clear hy353
  obtain rfl:=Option.some.inj H
  go_enter Tryz.func108,Tryz.ntmps108
  go_wp2_with (first | ((refine ga_dst (N:=11) rfl ?_);refine Kd.S_lit (Kd.slice 3 (Kd.int .i64)) _ 26 ?hg (N:=11) ?hd (xs:=([[]] : List (List Int))) (inner:=[.slice none 0 0]) (ok:=fun _=>True) (okp:=fun _=>True) ?hr ?hp (fun _ hk=>hk) trivial (Below.refl _ _) (Nat.le_refl _) (by simp) ?_;(case hd=>rfl);(case hg=>rfl);(case hr=>go_simp;try rfl);(case hp=>exact (Reps.one (show Kd.M (Kd.slice 3 (Kd.int .i64)) _ _ _ [] [.slice none 0 0] from ⟨_,rfl,Kd.R_nil _ _ _ _ _⟩) (Reps.none _ _)));intro v354 w4 ho5 hb hg_ hnew_;clear hg_ hnew_;(first | rw [← Ny353.out] at ho5 | (simp only [Int.reduceToNat] at ho5;rw [← Ny353.out] at ho5));have HO355:=am (Kd.S_lower ho5 (below_size (HB.out)));replace HB:=am (below_step (HB.out) hb);clear hb ho5))
  go_ret
  exact ⟨_,by first | rfl | (simp [*]<;>rfl),by (with_reducible repeat (first | apply Kd.S_alloc | apply Kd.S_drewN | apply Kd.S_drew));exact HO355.out,HB.out⟩
 ·rw [if_neg c3] at H
  have c3b0 : (a1 == 0) = false:=beq_eq_false_iff_ne.mpr c3
  have c3b1 : (a1 != 0) = true:=bne_iff_ne.mpr c3
  replace H':=am H
  go_enter Tryz.func108,Tryz.ntmps108
  go_wp2
  go_loopg [5,6] k (fun kq v5 v6 w'=>∃ (x5_1 : List (List Int)) (x6_1 : Int),v6 = .int .i64 x6_1∧Aside0 (q8_Lists.l0 kq l0 a1 x5_1 x6_1 = some r)∧Aside0 (kq≤k)∧Aside0 (Kd.S (Kd.slice 3 (Kd.int .i64)) 26 w' w.heap.size (fun _=>True) v5 x5_1)∧Aside0 (Below w.heap.size w w'))
  case atStart=>exact ⟨(([] : List (List Int))),(0),(by first | rfl | (simp;done) | (simp [*];done)),H',⟨Nat.le_refl _⟩,⟨by first | exact Kd.S_nil _ _ _ _ _ | exact Kd.N_nil _ _ _ _ _ | exact Kd.V_nil _ _ _ _ _ | exact Kd.Q_nil _ _ _ _ _ | exact Kd.R_nil _ _ _ _ _⟩,⟨HB.out⟩⟩
  case round =>
   clear H'
   obtain ⟨x5_1,x6_1,rfl,HA,HK1,HO_5,HB⟩:=hrel
   cases gk with
   | zero=>exact absurd HA.out (by simp [q8_Lists.l0])
   | succ k1 =>
    have H:=HA.out
    clear HA
    simp only [q8_Lists.l0] at H
    by_cases c6 : (wrap64 (x6_1 + a1))≤(l0.length : Int)
    case neg =>
     rw [if_neg c6] at H
     have c6b0 : decide ((wrap64 (x6_1 + a1))≤(l0.length : Int)) = false:=decide_eq_false c6
     clear c6
     obtain rfl:=Option.some.inj H
     go_wp2
     go_ret
     exact ⟨_,by first | rfl | (simp [*]<;>rfl),by (with_reducible repeat (first | apply Kd.S_alloc | apply Kd.S_drewN | apply Kd.S_drew));exact HO_5.out,HB.out⟩
    rw [if_pos c6] at H
    have c6b0 : decide ((wrap64 (x6_1 + a1))≤(l0.length : Int)) = true:=decide_eq_true c6
    clear c6
    obtain ⟨ji7,hji7⟩ : ∃ j_ : Int,(wrap64 (x6_1 + 1)) = j_:=⟨_,rfl⟩
    replace H : (if 0≤(ji7) then (if (ji7)≤(l0.length : Int) then ((q8_Lists.f k1 (l0.drop ((ji7) : Int).toNat) (wrap64 (a1 - 1))).bind fun t357=>(q8_Lists.l1 k1 l0 a1 x5_1 x6_1 t357 0)) else (none)) else (none)) = some r:=by first | (rw [hji7] at H;exact H) | (simp only [hji7] at H ⊢;exact H)
    have hji7w : (IntKind.i64.wrap (x6_1 + 1)) = ji7:=(i64_w _).trans hji7
    by_cases c8 : 0≤(ji7)
    case neg =>
     rw [if_neg c8] at H
     exact absurd H (by simp)
    rw [if_pos c8] at H
    have c8b0:=eq_true c8
    have c8b1 : decide (0≤(ji7)) = true:=decide_eq_true c8
    clear c8
    by_cases c9 : (ji7)≤(l0.length : Int)
    case neg =>
     rw [if_neg c9] at H
     exact absurd H (by simp)
    rw [if_pos c9] at H
    have c9b0:=eq_true c9
    have c9b1 : decide ((ji7)≤(l0.length : Int)) = true:=decide_eq_true c9
    clear c9
    replace H:=obm H
    obtain ⟨t357,A100,H⟩:=H
    replace H : (q8_Lists.l1 k1 l0 a1 x5_1 x6_1 t357 0) = some r:=H
    have A10:=am A100
    clear A100
    replace H':=am H
    obtain ⟨i011,hi011,_,hsz11,_⟩:=info_parts info3
    obtain ⟨A11,hcut11,hA11,hC11⟩:=print_drop_of (P:=Tryz.prog) (Value.int .i64) 0 26 3 .i64 Tryz.underlying26 hi011 hsz11 A0 c0 l0 (ji7) (of_decide_eq_true (by assumption)) (of_decide_eq_true (by assumption)) HC0.out
    have HR356:=am (Kd.C_of_reads (h1:=fun _=>rfl) (hA11 _ (Kd.reads_of_C HR0.out)))
    have HC356:=am hC11
    clear hA11 hC11 hi011 hsz11
    go_wp2_with (first | ((with_reducible refine ga_callee (f:=108) rfl ?_);refine goesL_ (some 26) rfl rfl Tryz.func108 (by kernel_rfl) rfl #[.slice A11 (l0.drop ((ji7) : Int).toNat).length (c0 - (ji7).toNat),.int .i64 (wrap64 (a1 - 1))] rfl (by (try simp only [List.map_toArray,List.map_cons,List.map_nil]);first | done | (rw [show (l0.drop ((ji7) : Int).toNat).length = (l0.length - (ji7).toNat) from List.length_drop]<;>rfl) | (simp only [hji7];rfl) | rfl | (simp only [List.length_drop,List.length_take];rfl)) ?_;(with_reducible refine (ih k1 (by have:=HK1.out;omega) _ _ (l0.drop ((ji7) : Int).toNat) (wrap64 (a1 - 1)) t357 _ ?side1 ?side2 A10.out).mono ?_);(case side1=>repeat (first | exact (kC HR356.out HB.out) | (with_reducible refine Kd.C_alloc ?_ _) | (with_reducible refine Kd.C_drewN ?_ _) | (with_reducible refine Kd.C_drew ?_)));(case side2=>exact HC356.out);rintro e w12 ⟨v358,rfl,ho0,hb⟩;refine ⟨_,rfl,?_⟩;have HO359:=am (Kd.S_lower (Kd.S_new' ho0 (Kd.S_lt HO_5.out)) (below_size (HB.out)));replace HO_5:=am (Kd.S_elder' HO_5.out (Kd.S_base ho0) hb);replace HB:=am (below_step (HB.out) hb);(try clear hb);(try clear hb2);(try clear hk);(try clear hi);(try clear ho0)))
    go_loopg [5,8] k1 (fun kq v5 v8 w'=>∃ (x5_2 : List (List Int)) (x8_2 : Int),v8 = .int .i64 x8_2∧Aside0 (q8_Lists.l1 kq l0 a1 x5_2 x6_1 t357 x8_2 = some r)∧Aside0 (kq≤k1)∧Aside0 (Kd.S (Kd.slice 3 (Kd.int .i64)) 26 w' w.heap.size (fun k_=>some k_ ≠ (v358 : Value).ownBlock) v5 x5_2)∧Aside0 (Kd.S (Kd.slice 3 (Kd.int .i64)) 26 w' w.heap.size (fun k_=>some k_ ≠ (v5 : Value).ownBlock) v358 t357)∧Aside0 (Below w.heap.size w w'))
    case atStart=>exact ⟨(x5_1),(0),(by first | rfl | (simp;done) | (simp [*];done)),H',⟨Nat.le_refl _⟩,⟨by (with_reducible repeat (first | apply Kd.S_alloc | apply Kd.S_drewN | apply Kd.S_drew));exact Kd.S_mono HO_5.out (fun _ hk=>hk.2)⟩,⟨by (with_reducible repeat (first | apply Kd.S_alloc | apply Kd.S_drewN | apply Kd.S_drew));exact Kd.S_mono HO359.out (fun _ hk=>hk.2)⟩,⟨HB.out⟩⟩
    case round =>
     clear H'
     obtain ⟨x5_2,x8_2,rfl,HA,HK2,HO_5,HO_7,HB⟩:=hrel
     cases gk with
     | zero=>exact absurd HA.out (by simp [q8_Lists.l1])
     | succ k2 =>
      have H:=HA.out
      clear HA
      simp only [q8_Lists.l1] at H
      by_cases c13 : x8_2 < (t357.length : Int)
      case neg =>
       rw [if_neg c13] at H
       have c13b0 : decide (x8_2 < (t357.length : Int)) = false:=decide_eq_false c13
       clear c13
       replace H':=am H
       obtain ⟨Ao26,co26,eo26⟩:=Kd.S_slice HO_7.out
       subst eo26
       go_wp2
       go_roundg k2
       case measure=>have:=HK1.out;have:=HK2.out;omega
       case rel=>exact ⟨(x5_2),(wrap64 (x6_1 + 1)),(by first | rfl | (simp;done) | (simp [*];done)),H',⟨by have:=HK1.out;have:=HK2.out;omega⟩,⟨by (with_reducible repeat (first | apply Kd.S_alloc | apply Kd.S_drewN | apply Kd.S_drew));exact Kd.S_mono HO_5.out (fun _ hk=>trivial)⟩,⟨HB.out⟩⟩
      rw [if_pos c13] at H
      have c13b0 : decide (x8_2 < (t357.length : Int)) = true:=decide_eq_true c13
      clear c13
      by_cases c14 : 0≤x6_1
      case neg =>
       rw [if_neg c14] at H
       exact absurd H (by simp)
      rw [if_pos c14] at H
      have c14b0 : decide (0≤x6_1) = true:=decide_eq_true c14
      clear c14
      by_cases c15 : x6_1 < (l0.length : Int)
      case neg =>
       rw [if_neg c15] at H
       exact absurd H (by simp)
      rw [if_pos c15] at H
      have c15b0 : decide (x6_1 < (l0.length : Int)) = true:=decide_eq_true c15
      clear c15
      obtain ⟨y361,hy361⟩ : ∃ y_ : List Int,y_ = (([rd l0 x6_1] : List Int)):=⟨_,rfl⟩
      replace H : (if 0≤x8_2 then (if y361.length + (rd_L1 t357 x8_2).length < 17592186044416 then (if x5_2.length < 5864062014805 then (q8_Lists.l1 k2 l0 a1 (x5_2 ++ [(y361 ++ (rd_L1 t357 x8_2))]) x6_1 t357 (wrap64 (x8_2 + 1))) else (none)) else (none)) else (none)) = some r:=by first | (rw [hy361];with_reducible exact H) | (have H2_:=(Option.bind_some _ _).symm.trans H;rw [hy361];with_reducible exact H2_) | (have H2_:=(Option.bind_some _ _).symm.trans H;with_reducible exact H2_) | with_reducible exact H | (rw [hy361];exact H) | exact H
      have Ny361:=am hy361
      clear hy361
      by_cases c16 : 0≤x8_2
      case neg =>
       rw [if_neg c16] at H
       exact absurd H (by simp)
      rw [if_pos c16] at H
      have c16b0 : decide (0≤x8_2) = true:=decide_eq_true c16
      clear c16
      by_cases c17 : y361.length + (rd_L1 t357 x8_2).length < 17592186044416
      case neg =>
       rw [if_neg c17] at H
       exact absurd H (by simp)
      rw [if_pos c17] at H
      have LMc17:=am c17
      clear c17
      obtain ⟨y365,hy365⟩ : ∃ y_ : List Int,y_ = (y361 ++ (rd_L1 t357 x8_2)):=⟨_,rfl⟩
      replace H : (if x5_2.length < 5864062014805 then (q8_Lists.l1 k2 l0 a1 (x5_2 ++ [y365]) x6_1 t357 (wrap64 (x8_2 + 1))) else (none)) = some r:=by first | (rw [hy365];with_reducible exact H) | (have H2_:=(Option.bind_some _ _).symm.trans H;rw [hy365];with_reducible exact H2_) | (have H2_:=(Option.bind_some _ _).symm.trans H;with_reducible exact H2_) | with_reducible exact H | (rw [hy365];exact H) | exact H
      have Ny365:=am hy365
      clear hy365
      by_cases c18 : x5_2.length < 5864062014805
      case neg =>
       rw [if_neg c18] at H
       exact absurd H (by simp)
      rw [if_pos c18] at H
      have LMc18:=am c18
      clear c18
      obtain ⟨y368,hy368⟩ : ∃ y_ : List (List Int),y_ = (x5_2 ++ [y365]):=⟨_,rfl⟩
      replace H : (q8_Lists.l1 k2 l0 a1 y368 x6_1 t357 (wrap64 (x8_2 + 1))) = some r:=by first | (rw [hy368];with_reducible exact H) | (have H2_:=(Option.bind_some _ _).symm.trans H;rw [hy368];with_reducible exact H2_) | (have H2_:=(Option.bind_some _ _).symm.trans H;with_reducible exact H2_) | with_reducible exact H | (rw [hy368];exact H) | exact H
      have Ny368:=am hy368
      clear hy368
      replace H':=am H
      obtain ⟨Ao19,co19,eo19⟩:=Kd.S_slice HO_7.out
      subst eo19
      try go_wp2
      replace HO_5:=am (Kd.S_drew HO_5.out)
      replace HO_7:=am (Kd.S_drew HO_7.out)
      replace HB:=am (below_drew1 HB.out)
      have p360 : 0≤(x6_1 : Int):=of_decide_eq_true (by assumption)
      have q360 : x6_1 < (l0.length : Int):=of_decide_eq_true (by assumption)
      obtain ⟨ad360,e360,hx360_0⟩:=Kd.at_int HR0.out x6_1 p360 q360
      have hw360_0:=hx360_0
      cases e360
      replace hx360_0:=(HB.out.cell (wbl hx360_0)).trans hx360_0
      replace p360:=eq_true p360
      replace q360:=eq_true q360
      have p364 : 0≤(x8_2 : Int):=of_decide_eq_true (by assumption)
      have q364 : x8_2 < (t357.length : Int):=of_decide_eq_true (by assumption)
      obtain ⟨ad364,A364_0,c364_0,e364,hx364_0,hl364_0,hi364_0⟩:=at_L1 (Kd.S_reads' HO_7.out).2.2 x8_2 p364 q364
      cases e364
      obtain ⟨ce364,hce364,hMe364,hcc364⟩:=Kd.S_get HO_7.out [] x8_2 p364 (by first | exact q364 | exact of_decide_eq_true (by assumption) | (have e_:=(Kd.S_reads' HO_7.out).1;omega))
      obtain ⟨ve364_0,rfl,ge364_0⟩:=hMe364
      have hv364_0:=hcc364 0 _ rfl
      rw [Nat.add_zero,show ((Kd.slice 3 (Kd.int .i64))).sz = 1 from rfl,Nat.mul_one] at hv364_0
      replace hv364_0:=Option.some.inj (hv364_0.symm.trans hx364_0)
      rw [hv364_0] at ge364_0
      have HL364_0:=am (show Kd.R (Kd.int .i64) 3 _ _ _ _ (rd_L1 t357 x8_2) from ge364_0)
      clear hv364_0 ge364_0
      clear hcc364 hce364
      have HR364_0:=am hi364_0
      have HC364_0:=am hl364_0
      clear hi364_0 hl364_0
      replace p364:=eq_true p364
      replace q364:=eq_true q364
      refine start_ (n:=14) (S:=fun w'=>w'.cell? (ad360.add (x6_1).toNat) = some (.int .i64 (rd l0 x6_1))∧w'.cell? (ad364.add (x8_2).toNat) = some (.slice A364_0 (rd_L1 t357 x8_2).length c364_0)) (ds:=[10,11,12]) (ba 14 0) (by kernel_rfl) rfl rfl ⟨((HB.out.cell (wbl hw360_0)).trans hw360_0),hx364_0⟩ (fun hHeld=>?_);refine with_tabW q8_Lists.tab11 q8_Lists.bits11 (fun HT_ HW_=>?_)
      generalize wr.drew = w20 at HO_5 HO_7 HB HL364_0 HR364_0 hx360_0 hx364_0 hHeld ⊢
      refine pure_ (i:=0) (N:=some 33) (v:=?_) (a':=?_) (ba 14 1) rfl rfl (any_of HT_.out (by kernel_rfl)) (fun _ _ _ h=>h) (Or.inl ⟨by rfl,?_⟩) ?_ ?_
      rotate_left
      ·intro w'
       go_simp
       with_reducible rfl
      rotate_left
      ·simp only [Act.put,NRM]
       rfl
      refine pure_ (i:=1) (N:=some 34) (v:=?_) (a':=?_) (ba 14 3) rfl rfl (any_of HT_.out (by kernel_rfl)) (fun _ _ _ h=>h) (Or.inl ⟨by rfl,?_⟩) ?_ ?_
      rotate_left
      ·intro w'
       go_simp
       with_reducible rfl
      rotate_left
      ·simp only [Act.put,NRM]
       rfl
      refine pure_ (i:=2) (N:=some 35) (v:=?_) (a':=?_) (ba 14 7) rfl rfl (any_of HT_.out (by kernel_rfl)) (fun _ _ _ h=>h) (Or.inl ⟨by rfl,?_⟩) ?_ ?_
      rotate_left
      ·intro w'
       go_simp
       with_reducible rfl
      rotate_left
      ·simp only [Act.put,NRM]
       rfl
      refine pure_ (i:=3) (N:=some 36) (v:=?_) (a':=?_) (ba 14 15) rfl rfl (any_of HT_.out (by kernel_rfl)) (fun _ _ _ h=>h) (Or.inl ⟨by rfl,?_⟩) ?_ ?_
      rotate_left
      ·intro w'
       go_simp
       with_reducible rfl
      rotate_left
      ·simp only [Act.put,NRM]
       rfl
      refine pure_ (i:=6) (N:=some 39) (v:=?_) (a':=?_) (ba 14 79) rfl rfl (any_of HT_.out (by kernel_rfl)) (fun _ _ _ h=>h) (Or.inl ⟨by rfl,?_⟩) ?_ ?_
      rotate_left
      ·intro w'
       go_simp
       with_reducible rfl
      rotate_left
      ·simp only [Act.put,NRM]
       rfl
      refine pure_ (i:=7) (N:=some 40) (v:=?_) (a':=?_) (ba 14 207) rfl rfl (any_of HT_.out (by kernel_rfl)) (fun _ _ _ h=>h) (Or.inl ⟨by rfl,?_⟩) ?_ ?_
      rotate_left
      ·intro w'
       go_simp
       with_reducible rfl
      rotate_left
      ·simp only [Act.put,NRM]
       rfl
      refine pure_ (i:=8) (N:=some 41) (v:=?_) (a':=?_) (ba 14 463) rfl rfl (any_of HT_.out (by kernel_rfl)) (fun _ _ _ h=>h) (Or.inl ⟨by rfl,?_⟩) ?_ ?_
      rotate_left
      ·intro w'
       go_simp
       with_reducible rfl
      rotate_left
      ·simp only [Act.put,NRM]
       rfl
      refine take_ (i:=4) (N:=some 37) (v:=?_) (a':=?_) (ba 14 479) rfl rfl (take_ofW HT_.out HW_.out (by kernel_rfl)) (fun _ _ _ h=>h) (Or.inl ⟨by rfl,?_⟩) hHeld ?_ ?_
      rotate_left
      ·rintro w' ⟨s0,s1⟩
       go_simp
       with_reducible rfl
      rotate_left
      ·simp only [Act.put,NRM]
       rfl
      refine take_ (i:=9) (N:=some 42) (v:=?_) (a':=?_) (ba 14 991) rfl rfl (take_ofW HT_.out HW_.out (by kernel_rfl)) (fun _ _ _ h=>h) (Or.inl ⟨by rfl,?_⟩) hHeld ?_ ?_
      rotate_left
      ·rintro w' ⟨s0,s1⟩
       go_simp
       with_reducible rfl
      rotate_left
      ·simp only [Act.put,NRM]
       rfl
      refine one_ (i:=5) (N:=some 38) (ba 14 1023) rfl rfl (one_of HT_.out (by kernel_rfl)) (by decide) (fun K hK=>?_)
      refine Kd.R_lit_step (Kd.int .i64) _ 3 ?hg (N:=38) ?hd (xs:=([rd l0 x6_1] : List Int)) (inner:=[.int .i64 (rd l0 x6_1)]) (ok:=fun _=>True) (okp:=fun _=>True) ?hr ?hp (fun _ hk=>hk) trivial (Below.refl _ _) (Nat.le_refl _) (by simp) ?_;(case hd=>rfl);(case hg=>rfl);(case hr=>go_simp;try rfl);(case hp=>exact (Reps.one (show Kd.M (Kd.int .i64) _ _ _ (rd l0 x6_1) [.int .i64 (rd l0 x6_1)] from rfl) (Reps.none _ _)))
      intro v362 w21 ho22 hb hg_ hnew_
      have HS1_:=(hb.cell (World.block_lt_of_cell? _ _ (hHeld.2))).trans (hHeld.2)
      clear hg_ hnew_
      (first | rw [← Ny361.out] at ho22 | (simp only [Int.reduceToNat] at ho22;rw [← Ny361.out] at ho22))
      have HO363:=am (Kd.R_lower (Kd.R_new' ho22 (Kd.R_lt HL364_0.out)) (below_size (HB.out)))
      replace HO_5:=am (Kd.S_elder' HO_5.out (Kd.R_base ho22) hb)
      replace HO_7:=am (Kd.S_elder' HO_7.out (Kd.R_base ho22) hb)
      replace HL364_0:=am (Kd.R_elder' HL364_0.out (Kd.R_base ho22) hb)
      replace HR364_0:=am (kC (by repeat (first | (with_reducible exact HR364_0.out) | (with_reducible refine Kd.C_alloc ?_ _) | (with_reducible refine Kd.C_drewN ?_ _) | (with_reducible refine Kd.C_drew ?_) | exact HR364_0.out)) hb)
      replace HB:=am (below_step (HB.out) hb)
      clear hb ho22
      refine hK.out _ _ ⟨((HB.out.cell (wbl hw360_0)).trans hw360_0),HS1_⟩ (fun hHeld=>?_)
      clear hK K
      refine norm_ (a':=?_) ?_ ?_
      rotate_left
      ·show Act.put _ (some 38) _ = _
       simp only [Act.put,NRM]
       rfl
      refine last_ (i:=10) (N:=some 43) (ba 14 2047) rfl rfl (one_of HT_.out (by kernel_rfl)) (by decide) (fun K hK=>?_)
      refine Kd.R_append_rows_step (Kd.int .i64) (w0:=w) w.heap.size (by rfl) (.tmp 38) (.tmp 42) 26 3 (.int .i64 0) 8 rfl Tryz.underlying26 info3 rfl (by decide) (by omega) v362 y361 (rd_L1 t357 x8_2) _ _ _ (fun k_=>some k_ ≠ (.slice A364_0 (rd_L1 t357 x8_2).length c364_0 : Value).ownBlock) (fun _=>False) rfl rfl ?aO ?aR (fun _ _ h=>h) (fun _ h=>h.elim) ?aF ?aB ?aS ?aL ?_
      (case aR=>repeat (first | exact (by repeat (first | (with_reducible exact HR364_0.out) | (with_reducible refine Kd.C_alloc ?_ _) | (with_reducible refine Kd.C_drewN ?_ _) | (with_reducible refine Kd.C_drew ?_) | exact HR364_0.out)) | (with_reducible refine Kd.C_alloc ?_ _) | (with_reducible refine Kd.C_drewN ?_ _) | (with_reducible refine Kd.C_drew ?_)))
      (case aB=>exact (HB.out))
      (case aF=>exact (fun k_ hk=>Kd.fresh' (Kd.R_lt HL364_0.out) k_ hk))
      (case aO=>exact (Kd.R_mono HO363.out (fun _ hk=>hk.2)))
      (case aS=>exact (below_size (HB.out)))
      (case aL=>have:=LMc17.out;omega)
      intro v366 w23 ho hb hg hat
      rw [← Ny365.out] at ho
      have n0_:=am (Kd.S_after (ok:=(fun k_=>some k_ ≠ (.slice (some ad364) t357.length co19 : Value).ownBlock)) HO_5.out hg hat)
      have n1_:=am (Kd.S_after (ok:=(fun k_=>some k_ ≠ (u5 : Value).ownBlock)) HO_7.out hg hat)
      have n2_:=am (Kd.R_after (ok:=(fun k_=>some k_ ≠ (u5 : Value).ownBlock∧some k_ ≠ (.slice (some ad364) t357.length co19 : Value).ownBlock)) HL364_0.out hg hat)
      have n3_:=am (hb)
      have n4_:=am (ho)
      clear HO_5
      clear HO_7
      clear HL364_0
      clear HB
      clear HO363
      have HO_5:=n0_
      have HO_7:=n1_
      have HL364_0:=n2_
      have HB:=n3_
      have HO367:=n4_
      clear n0_ n1_ n2_ n3_ n4_
      clear ho hb hg hat
      obtain ⟨Ao25,co25,eo25⟩:=Kd.R_slice HO367.out
      (first | subst eo25 | (injection eo25 with f1_ f2_ f3_;have f4_:=f1_.symm;have f5_:=f3_.symm;clear f1_ f2_ f3_;subst f4_;subst f5_))
      refine hK.out _ _ ?_
      clear hK K
      refine norm_ (a':=?_) ?_ ?_
      rotate_left
      ·show Act.put _ (some 43) _ = _
       simp only [Act.put,NRM]
       rfl
      refine last_ (i:=11) (N:=some 44) (ba 14 4095) rfl rfl (one_of HT_.out (by kernel_rfl)) (by decide) (fun K hK=>?_)
      refine value_ (w1:=?_) (v:=?_) (by rfl) rfl ?_ ?_
      rotate_left 2
      ·go_simp
       constructor
       ·rfl
       ·rfl
      refine hK.out _ _ ?_
      clear hK K
      refine norm_ (a':=?_) ?_ ?_
      rotate_left
      ·show Act.put _ (some 44) _ = _
       simp only [Act.put,NRM]
       rfl
      refine last_ (i:=12) (N:=some 45) (ba 14 8191) rfl rfl (one_of HT_.out (by kernel_rfl)) (by decide) (fun K hK=>?_)
      refine Kd.S_append_step (Kd.slice 3 (Kd.int .i64)) (w0:=w) w.heap.size (by rfl) (.tmp 33) (.tmp 44) 70 26 (.slice none 0 0) 24 rfl Tryz.underlying70 info26 rfl (by decide) (by omega) u5 x5_2 y365 [.slice Ao25 y365.length co25] (fun k_=>some k_ ≠ (.slice (some ad364) t357.length co19 : Value).ownBlock) (fun k_=>some k_ = (.slice Ao25 y365.length co25 : Value).ownBlock) rfl rfl ?aP (fun k_ hk_=>((Kd.R_mono (ok':=fun k_=>((fun k_=>some k_ ≠ (.slice (some ad364) t357.length co19 : Value).ownBlock)) k_∧some k_ ≠ (u5 : Value).ownBlock) (Kd.R_apart' (Kd.R_apart' (HO367.out) (Kd.S_typed HO_7.out) (by decide)) (Kd.S_typed HO_5.out) (by decide)) (fun k_ hk=>⟨hk.1.2,hk.2⟩))).1 k_ hk_.symm) ?aF ?aO ?aB ?aS ?aL ?_
      (case aP=>exact Kd.M_row (Kd.R_mono (Kd.R_tight rfl (Kd.R_mono (ok':=fun k_=>((fun k_=>some k_ ≠ (.slice (some ad364) t357.length co19 : Value).ownBlock)) k_∧some k_ ≠ (u5 : Value).ownBlock) (Kd.R_apart' (Kd.R_apart' (HO367.out) (Kd.S_typed HO_7.out) (by decide)) (Kd.S_typed HO_5.out) (by decide)) (fun k_ hk=>⟨hk.1.2,hk.2⟩))) (fun _ h_=>h_)))
      (case aB=>exact (HB.out))
      (case aF=>exact (fun k_ hk=>Kd.fresh' (Kd.S_lt HO_7.out) k_ hk))
      (case aO=>exact (Kd.S_mono HO_5.out (fun k_ hk=>⟨hk.1,fun e_=>hk.2 e_⟩)))
      (case aS=>exact (below_size (HB.out)))
      (case aL=>have:=LMc18.out;omega)
      intro v369 w24 ho hb hg hat
      rw [← Ny368.out] at ho
      have n0_:=am (Kd.S_after (ok:=(fun k_=>some k_ ≠ (.slice Ao25 y365.length co25 : Value).ownBlock)) (Kd.S_mono HO_7.out (fun _ hk=>⟨hk.2,hk.1⟩)) hg hat)
      have n1_:=am (Kd.R_after (ok:=(fun k_=>some k_ ≠ (.slice (some ad364) t357.length co19 : Value).ownBlock∧some k_ ≠ (.slice Ao25 y365.length co25 : Value).ownBlock)) (Kd.R_mono HL364_0.out (fun _ hk=>⟨⟨hk.1.2,hk.2⟩,hk.1.1⟩)) hg hat)
      have n2_:=am (hb)
      have n3_:=am (ho)
      clear HO_7
      clear HL364_0
      clear HB
      clear HO_5
      clear HO367
      have HO_7:=n0_
      have HL364_0:=n1_
      have HB:=n2_
      have HO370:=n3_
      clear n0_ n1_ n2_ n3_
      clear ho hb hg hat
      refine hK.out _ _ ?_
      clear hK K
      refine norm_ (a':=?_) ?_ ?_
      rotate_left
      ·show Act.put _ (some 45) _ = _
       simp only [Act.put,NRM]
       rfl
      refine pure_ (i:=13) (N:=some 5) (v:=?_) (a':=?_) (ba 14 16383) rfl rfl (any_of HT_.out (by kernel_rfl)) (fun _ _ _ h=>h) (Or.inl ⟨by rfl,?_⟩) ?_ ?_
      rotate_left
      ·intro w'
       go_simp
       with_reducible rfl
      rotate_left
      ·simp only [Act.put,NRM]
       rfl
      refine done_ (done_of HT_.out (by kernel_rfl)) ?_
      try go_wp2
      go_roundg k2
      case measure=>have:=HK1.out;have:=HK2.out;omega
      case rel=>exact ⟨(y368),(wrap64 (x8_2 + 1)),(by first | rfl | (simp;done) | (simp [*];done)),H',⟨by have:=HK1.out;have:=HK2.out;omega⟩,⟨by (with_reducible repeat (first | apply Kd.S_alloc | apply Kd.S_drewN | apply Kd.S_drew));exact HO370.out⟩,⟨by (with_reducible repeat (first | apply Kd.S_alloc | apply Kd.S_drewN | apply Kd.S_drew));exact Kd.S_mono HO_7.out (fun _ hk=>hk.2)⟩,⟨HB.out⟩⟩
def q8_Shortest.l0 : Nat→List Int→List (List Int)→Int→Option ((List (List Int)))
 | 0,_,_,_=>none
 | k + 1,x0,x3,x4=>if x4≤(x0.length : Int) then ((q8_Lists.f k x0 x4).bind fun t371=>(if x3.length + t371.length < 5864062014805 then (q8_Shortest.l0 k x0 (x3 ++ t371) (wrap64 (x4 + 1))) else (none))) else (some x3)
def q8_Shortest.f (k : Nat) (l0 : List Int) : Option ((List (List Int))):=q8_Shortest.l0 k l0 ([] : List (List Int)) 0
theorem q8_Shortest.calls (k : Nat) (A0 : Option Addr) (c0 : Nat) (l0 : List Int) (r : List (List Int)) (w : World) (hr0 : Kd.C (Kd.int .i64) w A0 l0.length l0) (hc0 : l0.length≤c0) (h : q8_Shortest.f k l0 = some r) :
 Calls Tryz.prog 67 #[.slice A0 l0.length c0] w fun e w'=>∃ v0_ : Value,e = .returned (v0_)∧Kd.N (Kd.slice 3 (Kd.int .i64)) 26 w' w.heap.size (fun k_=>(w.heap.size≤k_)) v0_ r∧Below w.heap.size w w':=by
 have HR0:=am hr0
 have HC0:=am hc0
 clear hr0 hc0
 have HB:=am (Below.refl w.heap.size w)
 have H : (q8_Shortest.l0 k l0 ([] : List (List Int)) 0) = some r:=h
 clear h
 replace H':=am H
 go_enter Tryz.func67,Tryz.ntmps67
 go_wp2
 go_loopg [3,4] k (fun kq v3 v4 w'=>∃ (x3_1 : List (List Int)) (x4_1 : Int),v4 = .int .i64 x4_1∧Aside0 (q8_Shortest.l0 kq l0 x3_1 x4_1 = some r)∧Aside0 (kq≤k)∧Aside0 (Kd.N (Kd.slice 3 (Kd.int .i64)) 26 w' w.heap.size (fun k_=>(w.heap.size≤k_)) v3 x3_1)∧Aside0 (Below w.heap.size w w'))
 case atStart=>exact ⟨(([] : List (List Int))),(0),(by first | rfl | (simp;done) | (simp [*];done)),H',⟨Nat.le_refl _⟩,⟨by first | exact Kd.S_nil _ _ _ _ _ | exact Kd.N_nil _ _ _ _ _ | exact Kd.V_nil _ _ _ _ _ | exact Kd.Q_nil _ _ _ _ _ | exact Kd.R_nil _ _ _ _ _⟩,⟨HB.out⟩⟩
 case round =>
  clear H'
  obtain ⟨x3_1,x4_1,rfl,HA,HK1,HO_3,HB⟩:=hrel
  cases gk with
  | zero=>exact absurd HA.out (by simp [q8_Shortest.l0])
  | succ k1 =>
   have H:=HA.out
   clear HA
   simp only [q8_Shortest.l0] at H
   by_cases c2 : x4_1≤(l0.length : Int)
   case neg =>
    rw [if_neg c2] at H
    have c2b0 : decide (x4_1≤(l0.length : Int)) = false:=decide_eq_false c2
    clear c2
    obtain rfl:=Option.some.inj H
    go_wp2
    go_ret
    exact ⟨_,by first | rfl | (simp [*]<;>rfl),by (with_reducible repeat (first | apply Kd.N_alloc | apply Kd.N_drewN | apply Kd.N_drew));exact HO_3.out,HB.out⟩
   rw [if_pos c2] at H
   have c2b0 : decide (x4_1≤(l0.length : Int)) = true:=decide_eq_true c2
   clear c2
   replace H:=obm H
   obtain ⟨t371,A30,H⟩:=H
   replace H : (if x3_1.length + t371.length < 5864062014805 then (q8_Shortest.l0 k1 l0 (x3_1 ++ t371) (wrap64 (x4_1 + 1))) else (none)) = some r:=H
   have A3:=am A30
   clear A30
   by_cases c4 : x3_1.length + t371.length < 5864062014805
   case neg =>
    rw [if_neg c4] at H
    exact absurd H (by simp)
   rw [if_pos c4] at H
   have LMc4:=am c4
   clear c4
   obtain ⟨y374,hy374⟩ : ∃ y_ : List (List Int),y_ = (x3_1 ++ t371):=⟨_,rfl⟩
   replace H : (q8_Shortest.l0 k1 l0 y374 (wrap64 (x4_1 + 1))) = some r:=by first | (rw [hy374];with_reducible exact H) | (have H2_:=(Option.bind_some _ _).symm.trans H;rw [hy374];with_reducible exact H2_) | (have H2_:=(Option.bind_some _ _).symm.trans H;with_reducible exact H2_) | with_reducible exact H | (rw [hy374];exact H) | exact H
   have Ny374:=am hy374
   clear hy374
   replace H':=am H
   go_wp2_with (first | ((with_reducible refine ga_callee (f:=108) rfl ?_);refine goesL_ (some 14) rfl rfl Tryz.func108 (by kernel_rfl) rfl #[.slice A0 l0.length c0,.int .i64 x4_1] rfl (by (try simp only [List.map_toArray,List.map_cons,List.map_nil]);first | done | rfl | (simp only [List.length_drop,List.length_take];rfl)) ?_;(refine (q8_Lists.calls k1 _ _ l0 x4_1 t371 _ ?side1 ?side2 A3.out).mono ?_);(case side1=>exact kC HR0.out HB.out);(case side2=>exact HC0.out);rintro e w5 ⟨v372,rfl,ho0,hb⟩;refine ⟨_,rfl,?_⟩;have HO373:=am (Kd.N_lower (Kd.N_mono (ok':=fun k_=>(w.heap.size≤k_)∧some k_ ≠ (u3 : Value).ownBlock) (Kd.S_N (Kd.S_bound ho0)) (fun k_ hk_=>⟨(Nat.le_trans (below_size (HB.out)) hk_.2.1),(Kd.fresh' (Kd.N_lt HO_3.out) k_ hk_.2.1)⟩)) (below_size (HB.out)));replace HO_3:=am (Kd.N_elder' HO_3.out (Kd.S_base ho0) hb);replace HB:=am (below_step (HB.out) hb);(try clear hb);(try clear hb2);(try clear hk);(try clear hi);(try clear ho0);obtain ⟨Ao7,co7,eo7⟩:=Kd.N_slice HO373.out;subst eo7) | ((with_reducible refine ga_builtin (b:=.append) (xs:=#[.tmp 11,.tmp 14]) rfl ?_);at_builtin;refine Kd.N_append_rows (Kd.slice 3 (Kd.int .i64)) (w0:=w) w.heap.size rfl (.tmp 11) (.tmp 14) 70 26 (.slice none 0 0) 24 rfl Tryz.underlying70 info26 rfl (by decide) (by omega) u3 x3_1 t371 _ _ _ (fun k_=>(w.heap.size≤k_)) (fun k_=>((fun k_=>(w.heap.size≤k_))) k_∧some k_ ≠ (u3 : Value).ownBlock) rfl rfl ?aO ?aR (fun _ hk=>hk) ?aF ?aB ?aS ?aL ?_;(case aR=>exact (by skip;exact Kd.N_F (Kd.N_mono (ok':=(fun k_=>((fun k_=>(w.heap.size≤k_))) k_∧some k_ ≠ (u3 : Value).ownBlock)) (HO373.out) (fun k_ hk=>⟨hk.1,hk.2⟩))));(case aB=>exact (HB.out));(case aF=>exact (fun k_ hk=>(Nat.le_trans (below_size (HB.out)) hk)));(case aO=>exact (Kd.N_mono HO_3.out (fun _ hk=>hk.1)));(case aS=>exact (below_size (HB.out)));(case aL=>have:=LMc4.out;omega);intro v375 w6 ho hb hg hat;rw [← Ny374.out] at ho;have n0_:=am (Kd.N_afterv (ok:=(fun k_=>(w.heap.size≤k_))) HO373.out hg hat);have n1_:=am (hb);have n2_:=am (ho);clear HO373;clear HB;clear HO_3;have HO373:=n0_;have HB:=n1_;have HO376:=n2_;clear n0_ n1_ n2_;clear ho hb hg hat))
   go_roundg k1
   case measure=>have:=HK1.out;omega
   case rel=>exact ⟨(y374),(wrap64 (x4_1 + 1)),(by first | rfl | (simp;done) | (simp [*];done)),H',⟨by have:=HK1.out;omega⟩,⟨by (with_reducible repeat (first | apply Kd.N_alloc | apply Kd.N_drewN | apply Kd.N_drew));exact HO376.out⟩,⟨HB.out⟩⟩
def q8_numbers.l0 : Nat→Int→List Int→Int→Option (List Int)
 | 0,_,_,_=>none
 | k + 1,x0,x3,x4=>if x4 < x0 then (if x3.length < 17592186044416 then (q8_numbers.l0 k x0 (x3 ++ [x4]) (wrap64 (x4 + 1))) else (none)) else (some x3)
def q8_numbers.f (k : Nat) (a0 : Int) : Option (List Int):=q8_numbers.l0 k a0 ([] : List Int) 0
theorem q8_numbers.calls (k : Nat) (a0 : Int) (r : List Int) (w : World) (h : q8_numbers.f k a0 = some r) :
 Calls Tryz.prog 68 #[.int .i64 a0] w fun e w'=>∃ v0_ : Value,e = .returned (v0_)∧Kd.R (Kd.int .i64) 3 w' w.heap.size (fun _=>True) v0_ r∧Below w.heap.size w w':=by
 have HB:=am (Below.refl w.heap.size w)
 have H : (q8_numbers.l0 k a0 ([] : List Int) 0) = some r:=h
 clear h
 replace H':=am H
 go_enter Tryz.func68,Tryz.ntmps68
 go_wp2
 go_loopg [3,4] k (fun kq v3 v4 w'=>∃ (x3_1 : List Int) (x4_1 : Int),v4 = .int .i64 x4_1∧Aside0 (q8_numbers.l0 kq a0 x3_1 x4_1 = some r)∧Aside0 (kq≤k)∧Aside0 (Kd.R (Kd.int .i64) 3 w' w.heap.size (fun _=>True) v3 x3_1)∧Aside0 (Below w.heap.size w w'))
 case atStart=>exact ⟨(([] : List Int)),(0),(by first | rfl | (simp;done) | (simp [*];done)),H',⟨Nat.le_refl _⟩,⟨by first | exact Kd.R_nil _ _ _ _ _ | exact Kd.N_nil _ _ _ _ _ | exact Kd.V_nil _ _ _ _ _ | exact Kd.Q_nil _ _ _ _ _ | exact Kd.S_nil _ _ _ _ _⟩,⟨HB.out⟩⟩
 case round =>
  clear H'
  obtain ⟨x3_1,x4_1,rfl,HA,HK1,HO_3,HB⟩:=hrel
  cases gk with
  | zero=>exact absurd HA.out (by simp [q8_numbers.l0])
  | succ k1 =>
   have H:=HA.out
   clear HA
   simp only [q8_numbers.l0] at H
   by_cases c2 : x4_1 < a0
   case neg =>
    rw [if_neg c2] at H
    have c2b0 : decide (x4_1 < a0) = false:=decide_eq_false c2
    clear c2
    obtain rfl:=Option.some.inj H
    go_wp2
    go_ret
    exact ⟨_,by first | rfl | (simp [*]<;>rfl),by (with_reducible repeat (first | apply Kd.R_alloc | apply Kd.R_drewN | apply Kd.R_drew));exact HO_3.out,HB.out⟩
   rw [if_pos c2] at H
   have c2b0 : decide (x4_1 < a0) = true:=decide_eq_true c2
   clear c2
   by_cases c3 : x3_1.length < 17592186044416
   case neg =>
    rw [if_neg c3] at H
    exact absurd H (by simp)
   rw [if_pos c3] at H
   have LMc3:=am c3
   clear c3
   obtain ⟨y377,hy377⟩ : ∃ y_ : List Int,y_ = (x3_1 ++ [x4_1]):=⟨_,rfl⟩
   replace H : (q8_numbers.l0 k1 a0 y377 (wrap64 (x4_1 + 1))) = some r:=by first | (rw [hy377];with_reducible exact H) | (have H2_:=(Option.bind_some _ _).symm.trans H;rw [hy377];with_reducible exact H2_) | (have H2_:=(Option.bind_some _ _).symm.trans H;with_reducible exact H2_) | with_reducible exact H | (rw [hy377];exact H) | exact H
   have Ny377:=am hy377
   clear hy377
   replace H':=am H
   go_wp2_with (first | ((with_reducible refine ga_builtin (b:=.append) (xs:=#[.tmp 10,.tmp 12]) rfl ?_);at_builtin;refine Kd.R_append (Kd.int .i64) (w0:=w) w.heap.size rfl (.tmp 10) (.tmp 12) 26 3 (.int .i64 0) 8 rfl Tryz.underlying26 info3 rfl (by decide) (by omega) u3 x3_1 x4_1 [.int .i64 x4_1] (fun _=>True) (fun _=>False) rfl rfl ?aP (fun _ hk=>hk.elim) ?aF ?aO ?aB ?aS ?aL ?_;(case aP=>exact rfl);(case aB=>exact (HB.out));(case aF=>exact (fun _ _=>trivial));(case aO=>exact HO_3.out);(case aS=>exact (below_size (HB.out)));(case aL=>have:=LMc3.out;omega);intro v378 w4 ho hb hg hat;rw [← Ny377.out] at ho;have n0_:=am (hb);have n1_:=am (ho);clear HB;clear HO_3;have HB:=n0_;have HO379:=n1_;clear n0_ n1_;clear ho hb hg hat))
   go_roundg k1
   case measure=>have:=HK1.out;omega
   case rel=>exact ⟨(y377),(wrap64 (x4_1 + 1)),(by first | rfl | (simp;done) | (simp [*];done)),H',⟨by have:=HK1.out;omega⟩,⟨by (with_reducible repeat (first | apply Kd.R_alloc | apply Kd.R_drewN | apply Kd.R_drew));exact HO379.out⟩,⟨HB.out⟩⟩
end Go.Proofs.YtclkbedbocnpkaaGreatDoor.C

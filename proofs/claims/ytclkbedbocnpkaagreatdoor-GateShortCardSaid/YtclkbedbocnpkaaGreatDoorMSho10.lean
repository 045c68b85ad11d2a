/- A part of the proof: the walks of the functions that it reaches. TIGHT. -/
import Derived.Test.YtclkbedbocnpkaaGreatDoorMSho9
import Derived.Test.YtclkbedbocnpkaaGreatDoorMSho5
set_option linter.unusedVariables false
set_option linter.unusedSimpArgs false
namespace Go.Proofs.YtclkbedbocnpkaaGreatDoor.C
open Go.RowKit Go.Proofs.YtclkbedbocnpkaaGreatDoorW.PrintWords Go.Proofs.YtclkbedbocnpkaaGreatDoorW.PrintLast Go.Proofs.YtclkbedbocnpkaaGreatDoorW.PrintMore
set_option linter.unusedVariables false
set_option linter.unusedSimpArgs false
set_option maxHeartbeats 16000000
set_option maxRecDepth 100000
mutual
def q8_Short.l0 : Nat→List Int→List Int→Bool→Int→Int→List (S37)→List (S65)→Option (Int)
 | 0,_,_,_,_,_,_,_=>none
 | k + 1,x1,x2,x3,x9,x10,x345000,x345001=>if x10 < (x2.length : Int) then (if 0≤x10 then (if 0≤(rd x2 x10) then (if (rd x2 x10) < (x345000.length : Int) then (if x3 = true then (q8_Short.l0 k x1 x2 x3 (wrap64 ((wrap64 ((wrap64 (x9 + ((rd_T37 x345000 (rd x2 x10)).f1))) - ((rd_T37 x345000 (rd x2 x10)).f0.f0))) - (wrap64 (((rd_T37 x345000 (rd x2 x10)).f0.f1) - ((rd_T37 x345000 (rd x2 x10)).f0.f0))))) (wrap64 (x10 + 1)) x345000 x345001) else (q8_Short.l0 k x1 x2 x3 (wrap64 ((wrap64 (x9 + ((rd_T37 x345000 (rd x2 x10)).f1))) - ((rd_T37 x345000 (rd x2 x10)).f0.f0))) (wrap64 (x10 + 1)) x345000 x345001)) else (none)) else (none)) else (none)) else (q8_Short.l1 k x1 x2 x9 0 x345000 x345001)
def q8_Short.l1 : Nat→List Int→List Int→Int→Int→List (S37)→List (S65)→Option (Int)
 | 0,_,_,_,_,_,_=>none
 | k + 1,x1,x2,x9,x12,x345000,x345001=>if x12 < (x345001.length : Int) then (if 0≤x12 then ((q8_Open.f k x345000 x345001 x1 x12).bind fun t350=>(if t350 = true then ((q8_Listed.f k x2 ((rd_T65 x345001 x12).f1)).bind fun t351=>(if t351 = true then ((q8_Listed.f k x2 ((rd_T65 x345001 x12).f0)).bind fun t352=>(if t352 = true then (q8_Short.l1 k x1 x2 x9 (wrap64 (x12 + 1)) x345000 x345001) else (q8_Short.l1 k x1 x2 (wrap64 (x9 - ((rd_T65 x345001 x12).f2))) (wrap64 (x12 + 1)) x345000 x345001))) else (q8_Short.l1 k x1 x2 x9 (wrap64 (x12 + 1)) x345000 x345001))) else (q8_Short.l1 k x1 x2 x9 (wrap64 (x12 + 1)) x345000 x345001))) else (none)) else (some x9)
end
def q8_Short.f (k : Nat) (l0_0 : List (S37)) (l0_1 : List (S65)) (l1 : List Int) (l2 : List Int) (a3 : Bool) : Option (Int):=q8_Short.l0 k l1 l2 a3 0 0 l0_0 l0_1
def q8_Short.T5 : Bool × List (List Nat × List Nat):=(true,[([],[]),([0],[0]),([],[]),([],[]),([2,3],[2,3]),([4],[4]),([1,5],[1,5]),([6],[6]),([],[]),([8,7,0,1,2,3,4,5,6,7,8],[7,8])])
def q8_Short.B5 : List Nat:=[0,1,0,0,12,28,63,127,0,511]
theorem q8_Short.tab5 : rtab .any (opsOf Tryz.f27 5) = q8_Short.T5:=by kernel_rfl
theorem q8_Short.bits5 : waitsOk q8_Short.T5.2 q8_Short.B5 = true:=by kernel_rfl
theorem q8_Short.calls (k : Nat) (A0_0 : Option Addr) (c0_0 : Nat) (l0_0 : List (S37)) (A0_1 : Option Addr) (c0_1 : Nat) (l0_1 : List (S65)) (A1 : Option Addr) (c1 : Nat) (l1 : List Int) (A2 : Option Addr) (c2 : Nat) (l2 : List Int) (a3 : Bool) (r : Int) (w : World) (hr0_0 : Kd.C k37 w A0_0 l0_0.length l0_0) (hc0_0 : l0_0.length≤c0_0) (hr0_1 : Kd.C k65 w A0_1 l0_1.length l0_1) (hc0_1 : l0_1.length≤c0_1) (hr1 : Kd.C (Kd.int .i64) w A1 l1.length l1) (hc1 : l1.length≤c1) (hr2 : Kd.C (Kd.int .i64) w A2 l2.length l2) (hc2 : l2.length≤c2) (h : q8_Short.f k l0_0 l0_1 l1 l2 a3 = some r) :
 Calls Tryz.prog 27 #[.agg #[.slice A0_0 l0_0.length c0_0,.slice A0_1 l0_1.length c0_1],.slice A1 l1.length c1,.slice A2 l2.length c2,.bool a3] w fun e w'=>e = .returned (.int .i64 r)∧Below w.heap.size w w':=by
 have hu25:=Tryz.underlying25
 have hu37:=Tryz.underlying37
 have hu65:=Tryz.underlying65
 have HR0_0:=am hr0_0
 have HC0_0:=am hc0_0
 clear hr0_0 hc0_0
 have HR0_1:=am hr0_1
 have HC0_1:=am hc0_1
 clear hr0_1 hc0_1
 have HR1:=am hr1
 have HC1:=am hc1
 clear hr1 hc1
 have HR2:=am hr2
 have HC2:=am hc2
 clear hr2 hc2
 have HB:=am (Below.refl w.heap.size w)
 have H : (q8_Short.l0 k l1 l2 a3 0 0 l0_0 l0_1) = some r:=h
 clear h
 replace H':=am H
 go_enter Tryz.func27,Tryz.ntmps27
 go_wp2_with (first | ((with_reducible refine ga_dst (N:=4) rfl ?_);refine box_event ?hg (N:=4) ?hd (cs:=#[.slice A0_0 l0_0.length c0_0,.slice A0_1 l0_1.length c0_1]) (t:=25) ?hr ?_;(case hd=>rfl);(case hg=>rfl);(case hr=>go_simp;try rfl);intro gb344 hg w5 hbox hb;have BK344:=am (hbox);have GW344:=am (ge_new (HB.out) hg);have GE344:=am (ge_new (HB.out) hg);replace HB:=am (below_step (HB.out) hb);clear hb hbox hg))
 go_loopg [9,10] k (fun kq v9 v10 w'=>∃ (x9_1 : Int) (x10_1 : Int),v9 = .int .i64 x9_1∧v10 = .int .i64 x10_1∧Aside0 (q8_Short.l0 kq l1 l2 a3 x9_1 x10_1 l0_0 l0_1 = some r)∧Aside0 (kq≤k)∧Aside0 (w'.heap[gb344]? = some (.cells #[(.slice A0_0 l0_0.length c0_0),(.slice A0_1 l0_1.length c0_1)] 25 (0,0)))∧Aside0 (Below w.heap.size w w'))
 case atStart=>exact ⟨(0),(0),(by first | rfl | (simp;done) | (simp [*];done)),(by first | rfl | (simp;done) | (simp [*];done)),H',⟨Nat.le_refl _⟩,⟨by (with_reducible repeat (first | refine blk_drewN ?_ _ | refine blk_drew ?_ | refine blk_alloc ?_ _));exact BK344.out⟩,⟨HB.out⟩⟩
 case round =>
  clear H'
  obtain ⟨x9_1,x10_1,rfl,rfl,HA,HK1,BK344,HB⟩:=hrel
  cases gk with
  | zero=>exact absurd HA.out (by simp [q8_Short.l0])
  | succ k1 =>
   have H:=HA.out
   clear HA
   simp only [q8_Short.l0] at H
   by_cases c6 : x10_1 < (l2.length : Int)
   case neg =>
    rw [if_neg c6] at H
    have c6b0 : decide (x10_1 < (l2.length : Int)) = false:=decide_eq_false c6
    clear c6
    replace H':=am H
    go_wp2
    go_loopg [9,12] k1 (fun kq v9 v12 w'=>∃ (x9_2 : Int) (x12_2 : Int),v9 = .int .i64 x9_2∧v12 = .int .i64 x12_2∧Aside0 (q8_Short.l1 kq l1 l2 x9_2 x12_2 l0_0 l0_1 = some r)∧Aside0 (kq≤k1)∧Aside0 (w'.heap[gb344]? = some (.cells #[(.slice A0_0 l0_0.length c0_0),(.slice A0_1 l0_1.length c0_1)] 25 (0,0)))∧Aside0 (Below w.heap.size w w'))
    case atStart=>exact ⟨(x9_1),(0),(by first | rfl | (simp;done) | (simp [*];done)),(by first | rfl | (simp;done) | (simp [*];done)),H',⟨Nat.le_refl _⟩,⟨by (with_reducible repeat (first | refine blk_drewN ?_ _ | refine blk_drew ?_ | refine blk_alloc ?_ _));exact BK344.out⟩,⟨HB.out⟩⟩
    case round =>
     clear H'
     obtain ⟨x9_2,x12_2,rfl,rfl,HA,HK2,BK344,HB⟩:=hrel
     cases gk with
     | zero=>exact absurd HA.out (by simp [q8_Short.l1])
     | succ k2 =>
      have H:=HA.out
      clear HA
      simp only [q8_Short.l1] at H
      by_cases c25 : x12_2 < (l0_1.length : Int)
      case neg =>
       rw [if_neg c25] at H
       have c25b0 : decide (x12_2 < (l0_1.length : Int)) = false:=decide_eq_false c25
       clear c25
       obtain rfl:=Option.some.inj H
       obtain ⟨hcz60_0,hcz60_1⟩:=cO2 BK344.out
       have hfz60_0:=blk_frozen BK344.out 0
       have hfz60_1:=blk_frozen BK344.out 1
       go_wp2
       go_ret
       exact ⟨by first | rfl | (simp [*]<;>rfl),HB.out⟩
      rw [if_pos c25] at H
      have c25b0 : decide (x12_2 < (l0_1.length : Int)) = true:=decide_eq_true c25
      clear c25
      by_cases c26 : 0≤x12_2
      case neg =>
       rw [if_neg c26] at H
       exact absurd H (by simp)
      rw [if_pos c26] at H
      have c26b0 : decide (0≤x12_2) = true:=decide_eq_true c26
      clear c26
      replace H:=obm H
      obtain ⟨t350,A270,H⟩:=H
      replace H : (if t350 = true then ((q8_Listed.f k2 l2 ((rd_T65 l0_1 x12_2).f1)).bind fun t351=>(if t351 = true then ((q8_Listed.f k2 l2 ((rd_T65 l0_1 x12_2).f0)).bind fun t352=>(if t352 = true then (q8_Short.l1 k2 l1 l2 x9_2 (wrap64 (x12_2 + 1)) l0_0 l0_1) else (q8_Short.l1 k2 l1 l2 (wrap64 (x9_2 - ((rd_T65 l0_1 x12_2).f2))) (wrap64 (x12_2 + 1)) l0_0 l0_1))) else (q8_Short.l1 k2 l1 l2 x9_2 (wrap64 (x12_2 + 1)) l0_0 l0_1))) else (q8_Short.l1 k2 l1 l2 x9_2 (wrap64 (x12_2 + 1)) l0_0 l0_1)) = some r:=H
      have A27:=am A270
      clear A270
      by_cases c28 : t350 = true
      case neg =>
       replace c28:=Bool.eq_false_iff.mpr c28
       subst c28
       replace H : (q8_Short.l1 k2 l1 l2 x9_2 (wrap64 (x12_2 + 1)) l0_0 l0_1) = some r:=by rw [if_neg (show ¬ (false = true) by decide)] at H;exact H
       replace H':=am H
       obtain ⟨hcz54_0,hcz54_1⟩:=cO2 BK344.out
       have hfz54_0:=blk_frozen BK344.out 0
       have hfz54_1:=blk_frozen BK344.out 1
       have p348 : 0≤(x12_2 : Int):=of_decide_eq_true (by assumption)
       have q348 : x12_2 < (l0_1.length : Int):=of_decide_eq_true (by assumption)
       obtain ⟨ad348,e348,hx348_0,hx348_1,hx348_2,hx348_3⟩:=at_T65 HR0_1.out x12_2 p348 q348
       cases e348
       replace hx348_0:=(HB.out.cell (wbl hx348_0)).trans hx348_0
       replace hx348_1:=(HB.out.cell (wbl hx348_1)).trans hx348_1
       replace hx348_2:=(HB.out.cell (wbl hx348_2)).trans hx348_2
       replace hx348_3:=(HB.out.cell (wbl hx348_3)).trans hx348_3
       replace p348:=eq_true p348
       replace q348:=eq_true q348
       go_wp2_with (first | ((with_reducible refine ga_dst (N:=13) rfl ?_);refine box_event ?hg (N:=13) ?hd (cs:=#[.int .i64 0,.int .i64 0,.int .i64 0,.bool false]) (t:=65) ?hr ?_;(case hd=>rfl);(case hg=>rfl);(case hr=>go_simp;try rfl);intro gb349 hg w55 hbox hb;have BK349:=am (hbox);have GW349:=am (ge_new (HB.out) hg);have GE349:=am (ge_new (HB.out) hg);have NB344_349:=am ((by rw [hg];exact Nat.ne_of_lt (blk_lt (g:=gb344) (o:=.cells #[.slice A0_0 l0_0.length c0_0,.slice (some ad348) l0_1.length c0_1] 25 (0,0)) (by (with_reducible repeat (first | refine blk_drewN ?_ _ | refine blk_drew ?_ | refine blk_alloc ?_ _));exact BK344.out)) : gb344 ≠ gb349));have NB349_344:=am ((by rw [hg];exact Nat.ne_of_gt (blk_lt (g:=gb344) (o:=.cells #[.slice A0_0 l0_0.length c0_0,.slice (some ad348) l0_1.length c0_1] 25 (0,0)) (by (with_reducible repeat (first | refine blk_drewN ?_ _ | refine blk_drew ?_ | refine blk_alloc ?_ _));exact BK344.out)) : gb349 ≠ gb344));replace BK344:=am (blk_below (g:=gb344) (o:=.cells #[.slice A0_0 l0_0.length c0_0,.slice (some ad348) l0_1.length c0_1] 25 (0,0)) (by (with_reducible repeat (first | refine blk_drewN ?_ _ | refine blk_drew ?_ | refine blk_alloc ?_ _));exact BK344.out) hb);replace HB:=am (below_step (HB.out) hb);clear hb hbox hg;have hnb56:=NB349_344.out;have hnc56:=NB344_349.out;obtain ⟨hcz57_0,hcz57_1,hcz57_2,hcz57_3⟩:=cO4 BK349.out;have hfz57_0:=blk_frozen BK349.out 0;have hfz57_1:=blk_frozen BK349.out 1;have hfz57_2:=blk_frozen BK349.out 2;have hfz57_3:=blk_frozen BK349.out 3;obtain ⟨hcz58_0,hcz58_1⟩:=cO2 BK344.out;have hfz58_0:=blk_frozen BK344.out 0;have hfz58_1:=blk_frozen BK344.out 1) | ((with_reducible refine ga_callee (f:=64) rfl ?_);refine goesL_ (some 61) rfl rfl Tryz.func64 (by kernel_rfl) rfl #[.agg #[.slice A0_0 l0_0.length c0_0,.slice (some ad348) l0_1.length c0_1],.slice A1 l1.length c1,.int .i64 x12_2] rfl (by (try simp only [List.map_toArray,List.map_cons,List.map_nil]);first | done | rfl | (simp only [List.length_drop,List.length_take];rfl)) ?_;(with_reducible refine (q8_Open.calls k2 _ _ l0_0 _ _ l0_1 _ _ l1 x12_2 false _ ?side1 ?side2 ?side3 ?side4 ?side5 ?side6 A27.out).mono ?_);(case side1=>exact kC HR0_0.out (by repeat (first | (with_reducible first | exact HB.out | refine below_set ?_ (Aside0.out (by assumption)) | apply below_alloc | apply pw_below_drewN) | exact HB.out)));(case side2=>exact HC0_0.out);(case side3=>exact kC HR0_1.out (by repeat (first | (with_reducible first | exact HB.out | refine below_set ?_ (Aside0.out (by assumption)) | apply below_alloc | apply pw_below_drewN) | exact HB.out)));(case side4=>exact HC0_1.out);(case side5=>exact kC HR1.out (by repeat (first | (with_reducible first | exact HB.out | refine below_set ?_ (Aside0.out (by assumption)) | apply below_alloc | apply pw_below_drewN) | exact HB.out)));(case side6=>exact HC1.out);rintro e w59 ⟨rfl,hb⟩;refine ⟨_,rfl,?_⟩;replace BK344:=am (blk_below (g:=gb344) (o:=.cells #[.slice A0_0 l0_0.length c0_0,.slice (some ad348) l0_1.length c0_1] 25 (0,0)) (by (with_reducible repeat (first | refine blk_drewN ?_ _ | refine blk_drew ?_ | refine blk_alloc ?_ _));refine blk_far ?_ NB344_349.out _;(with_reducible repeat (first | refine blk_drewN ?_ _ | refine blk_drew ?_ | refine blk_alloc ?_ _));refine blk_far ?_ NB344_349.out _;(with_reducible repeat (first | refine blk_drewN ?_ _ | refine blk_drew ?_ | refine blk_alloc ?_ _));refine blk_far ?_ NB344_349.out _;(with_reducible repeat (first | refine blk_drewN ?_ _ | refine blk_drew ?_ | refine blk_alloc ?_ _));refine blk_far ?_ NB344_349.out _;(with_reducible repeat (first | refine blk_drewN ?_ _ | refine blk_drew ?_ | refine blk_alloc ?_ _));exact BK344.out) hb);replace BK349:=am (blk_below (g:=gb349) (o:=.cells #[.int .i64 ((rd_T65 l0_1 x12_2).f0),.int .i64 ((rd_T65 l0_1 x12_2).f1),.int .i64 ((rd_T65 l0_1 x12_2).f2),.bool ((rd_T65 l0_1 x12_2).f3)] 65 (0,0)) (by (with_reducible repeat (first | refine blk_drewN ?_ _ | refine blk_drew ?_ | refine blk_alloc ?_ _));refine blk_put (cs:=#[.int .i64 ((rd_T65 l0_1 x12_2).f0),.int .i64 ((rd_T65 l0_1 x12_2).f1),.int .i64 ((rd_T65 l0_1 x12_2).f2),.bool false]) ?_ 3 _ rfl;(with_reducible repeat (first | refine blk_drewN ?_ _ | refine blk_drew ?_ | refine blk_alloc ?_ _));refine blk_put (cs:=#[.int .i64 ((rd_T65 l0_1 x12_2).f0),.int .i64 ((rd_T65 l0_1 x12_2).f1),.int .i64 0,.bool false]) ?_ 2 _ rfl;(with_reducible repeat (first | refine blk_drewN ?_ _ | refine blk_drew ?_ | refine blk_alloc ?_ _));refine blk_put (cs:=#[.int .i64 ((rd_T65 l0_1 x12_2).f0),.int .i64 0,.int .i64 0,.bool false]) ?_ 1 _ rfl;(with_reducible repeat (first | refine blk_drewN ?_ _ | refine blk_drew ?_ | refine blk_alloc ?_ _));refine blk_put (cs:=#[.int .i64 0,.int .i64 0,.int .i64 0,.bool false]) ?_ 0 _ rfl;(with_reducible repeat (first | refine blk_drewN ?_ _ | refine blk_drew ?_ | refine blk_alloc ?_ _));exact BK349.out) hb);replace HB:=am (below_step (by repeat (first | (with_reducible first | exact HB.out | refine below_set ?_ (Aside0.out (by assumption)) | apply below_alloc | apply pw_below_drewN) | exact HB.out)) hb);(try clear hb);(try clear hb2);(try clear hk);(try clear hi)))
       go_roundg k2
       case measure=>have:=HK1.out;have:=HK2.out;omega
       case rel=>exact ⟨(x9_2),(wrap64 (x12_2 + 1)),(by first | rfl | (simp;done) | (simp [*];done)),(by first | rfl | (simp;done) | (simp [*];done)),H',⟨by have:=HK1.out;have:=HK2.out;omega⟩,⟨by (with_reducible repeat (first | refine blk_drewN ?_ _ | refine blk_drew ?_ | refine blk_alloc ?_ _));exact BK344.out⟩,⟨HB.out⟩⟩
      subst c28
      replace H : ((q8_Listed.f k2 l2 ((rd_T65 l0_1 x12_2).f1)).bind fun t351=>(if t351 = true then ((q8_Listed.f k2 l2 ((rd_T65 l0_1 x12_2).f0)).bind fun t352=>(if t352 = true then (q8_Short.l1 k2 l1 l2 x9_2 (wrap64 (x12_2 + 1)) l0_0 l0_1) else (q8_Short.l1 k2 l1 l2 (wrap64 (x9_2 - ((rd_T65 l0_1 x12_2).f2))) (wrap64 (x12_2 + 1)) l0_0 l0_1))) else (q8_Short.l1 k2 l1 l2 x9_2 (wrap64 (x12_2 + 1)) l0_0 l0_1))) = some r:=by rw [if_pos rfl] at H;exact H
      replace H:=obm H
      obtain ⟨t351,A290,H⟩:=H
      replace H : (if t351 = true then ((q8_Listed.f k2 l2 ((rd_T65 l0_1 x12_2).f0)).bind fun t352=>(if t352 = true then (q8_Short.l1 k2 l1 l2 x9_2 (wrap64 (x12_2 + 1)) l0_0 l0_1) else (q8_Short.l1 k2 l1 l2 (wrap64 (x9_2 - ((rd_T65 l0_1 x12_2).f2))) (wrap64 (x12_2 + 1)) l0_0 l0_1))) else (q8_Short.l1 k2 l1 l2 x9_2 (wrap64 (x12_2 + 1)) l0_0 l0_1)) = some r:=H
      have A29:=am A290
      clear A290
      by_cases c30 : t351 = true
      case neg =>
       replace c30:=Bool.eq_false_iff.mpr c30
       subst c30
       replace H : (q8_Short.l1 k2 l1 l2 x9_2 (wrap64 (x12_2 + 1)) l0_0 l0_1) = some r:=by rw [if_neg (show ¬ (false = true) by decide)] at H;exact H
       replace H':=am H
       obtain ⟨hcz47_0,hcz47_1⟩:=cO2 BK344.out
       have hfz47_0:=blk_frozen BK344.out 0
       have hfz47_1:=blk_frozen BK344.out 1
       have p348 : 0≤(x12_2 : Int):=of_decide_eq_true (by assumption)
       have q348 : x12_2 < (l0_1.length : Int):=of_decide_eq_true (by assumption)
       obtain ⟨ad348,e348,hx348_0,hx348_1,hx348_2,hx348_3⟩:=at_T65 HR0_1.out x12_2 p348 q348
       cases e348
       replace hx348_0:=(HB.out.cell (wbl hx348_0)).trans hx348_0
       replace hx348_1:=(HB.out.cell (wbl hx348_1)).trans hx348_1
       replace hx348_2:=(HB.out.cell (wbl hx348_2)).trans hx348_2
       replace hx348_3:=(HB.out.cell (wbl hx348_3)).trans hx348_3
       replace p348:=eq_true p348
       replace q348:=eq_true q348
       go_wp2_with (first | ((with_reducible refine ga_dst (N:=13) rfl ?_);refine box_event ?hg (N:=13) ?hd (cs:=#[.int .i64 0,.int .i64 0,.int .i64 0,.bool false]) (t:=65) ?hr ?_;(case hd=>rfl);(case hg=>rfl);(case hr=>go_simp;try rfl);intro gb349 hg w48 hbox hb;have BK349:=am (hbox);have GW349:=am (ge_new (HB.out) hg);have GE349:=am (ge_new (HB.out) hg);have NB344_349:=am ((by rw [hg];exact Nat.ne_of_lt (blk_lt (g:=gb344) (o:=.cells #[.slice A0_0 l0_0.length c0_0,.slice (some ad348) l0_1.length c0_1] 25 (0,0)) (by (with_reducible repeat (first | refine blk_drewN ?_ _ | refine blk_drew ?_ | refine blk_alloc ?_ _));exact BK344.out)) : gb344 ≠ gb349));have NB349_344:=am ((by rw [hg];exact Nat.ne_of_gt (blk_lt (g:=gb344) (o:=.cells #[.slice A0_0 l0_0.length c0_0,.slice (some ad348) l0_1.length c0_1] 25 (0,0)) (by (with_reducible repeat (first | refine blk_drewN ?_ _ | refine blk_drew ?_ | refine blk_alloc ?_ _));exact BK344.out)) : gb349 ≠ gb344));replace BK344:=am (blk_below (g:=gb344) (o:=.cells #[.slice A0_0 l0_0.length c0_0,.slice (some ad348) l0_1.length c0_1] 25 (0,0)) (by (with_reducible repeat (first | refine blk_drewN ?_ _ | refine blk_drew ?_ | refine blk_alloc ?_ _));exact BK344.out) hb);replace HB:=am (below_step (HB.out) hb);clear hb hbox hg;have hnb49:=NB349_344.out;have hnc49:=NB344_349.out;obtain ⟨hcz50_0,hcz50_1,hcz50_2,hcz50_3⟩:=cO4 BK349.out;have hfz50_0:=blk_frozen BK349.out 0;have hfz50_1:=blk_frozen BK349.out 1;have hfz50_2:=blk_frozen BK349.out 2;have hfz50_3:=blk_frozen BK349.out 3;obtain ⟨hcz51_0,hcz51_1⟩:=cO2 BK344.out;have hfz51_0:=blk_frozen BK344.out 0;have hfz51_1:=blk_frozen BK344.out 1) | ((with_reducible refine ga_callee (f:=64) rfl ?_);refine goesL_ (some 61) rfl rfl Tryz.func64 (by kernel_rfl) rfl #[.agg #[.slice A0_0 l0_0.length c0_0,.slice (some ad348) l0_1.length c0_1],.slice A1 l1.length c1,.int .i64 x12_2] rfl (by (try simp only [List.map_toArray,List.map_cons,List.map_nil]);first | done | rfl | (simp only [List.length_drop,List.length_take];rfl)) ?_;(with_reducible refine (q8_Open.calls k2 _ _ l0_0 _ _ l0_1 _ _ l1 x12_2 true _ ?side1 ?side2 ?side3 ?side4 ?side5 ?side6 A27.out).mono ?_);(case side1=>exact kC HR0_0.out (by repeat (first | (with_reducible first | exact HB.out | refine below_set ?_ (Aside0.out (by assumption)) | apply below_alloc | apply pw_below_drewN) | exact HB.out)));(case side2=>exact HC0_0.out);(case side3=>exact kC HR0_1.out (by repeat (first | (with_reducible first | exact HB.out | refine below_set ?_ (Aside0.out (by assumption)) | apply below_alloc | apply pw_below_drewN) | exact HB.out)));(case side4=>exact HC0_1.out);(case side5=>exact kC HR1.out (by repeat (first | (with_reducible first | exact HB.out | refine below_set ?_ (Aside0.out (by assumption)) | apply below_alloc | apply pw_below_drewN) | exact HB.out)));(case side6=>exact HC1.out);rintro e w52 ⟨rfl,hb⟩;refine ⟨_,rfl,?_⟩;replace BK344:=am (blk_below (g:=gb344) (o:=.cells #[.slice A0_0 l0_0.length c0_0,.slice (some ad348) l0_1.length c0_1] 25 (0,0)) (by (with_reducible repeat (first | refine blk_drewN ?_ _ | refine blk_drew ?_ | refine blk_alloc ?_ _));refine blk_far ?_ NB344_349.out _;(with_reducible repeat (first | refine blk_drewN ?_ _ | refine blk_drew ?_ | refine blk_alloc ?_ _));refine blk_far ?_ NB344_349.out _;(with_reducible repeat (first | refine blk_drewN ?_ _ | refine blk_drew ?_ | refine blk_alloc ?_ _));refine blk_far ?_ NB344_349.out _;(with_reducible repeat (first | refine blk_drewN ?_ _ | refine blk_drew ?_ | refine blk_alloc ?_ _));refine blk_far ?_ NB344_349.out _;(with_reducible repeat (first | refine blk_drewN ?_ _ | refine blk_drew ?_ | refine blk_alloc ?_ _));exact BK344.out) hb);replace BK349:=am (blk_below (g:=gb349) (o:=.cells #[.int .i64 ((rd_T65 l0_1 x12_2).f0),.int .i64 ((rd_T65 l0_1 x12_2).f1),.int .i64 ((rd_T65 l0_1 x12_2).f2),.bool ((rd_T65 l0_1 x12_2).f3)] 65 (0,0)) (by (with_reducible repeat (first | refine blk_drewN ?_ _ | refine blk_drew ?_ | refine blk_alloc ?_ _));refine blk_put (cs:=#[.int .i64 ((rd_T65 l0_1 x12_2).f0),.int .i64 ((rd_T65 l0_1 x12_2).f1),.int .i64 ((rd_T65 l0_1 x12_2).f2),.bool false]) ?_ 3 _ rfl;(with_reducible repeat (first | refine blk_drewN ?_ _ | refine blk_drew ?_ | refine blk_alloc ?_ _));refine blk_put (cs:=#[.int .i64 ((rd_T65 l0_1 x12_2).f0),.int .i64 ((rd_T65 l0_1 x12_2).f1),.int .i64 0,.bool false]) ?_ 2 _ rfl;(with_reducible repeat (first | refine blk_drewN ?_ _ | refine blk_drew ?_ | refine blk_alloc ?_ _));refine blk_put (cs:=#[.int .i64 ((rd_T65 l0_1 x12_2).f0),.int .i64 0,.int .i64 0,.bool false]) ?_ 1 _ rfl;(with_reducible repeat (first | refine blk_drewN ?_ _ | refine blk_drew ?_ | refine blk_alloc ?_ _));refine blk_put (cs:=#[.int .i64 0,.int .i64 0,.int .i64 0,.bool false]) ?_ 0 _ rfl;(with_reducible repeat (first | refine blk_drewN ?_ _ | refine blk_drew ?_ | refine blk_alloc ?_ _));exact BK349.out) hb);replace HB:=am (below_step (by repeat (first | (with_reducible first | exact HB.out | refine below_set ?_ (Aside0.out (by assumption)) | apply below_alloc | apply pw_below_drewN) | exact HB.out)) hb);(try clear hb);(try clear hb2);(try clear hk);(try clear hi);obtain ⟨hcz53_0,hcz53_1,hcz53_2,hcz53_3⟩:=cO4 BK349.out;have hfz53_0:=blk_frozen BK349.out 0;have hfz53_1:=blk_frozen BK349.out 1;have hfz53_2:=blk_frozen BK349.out 2;have hfz53_3:=blk_frozen BK349.out 3) | (go_at_call 43;(with_reducible refine (q8_Listed.calls k2 _ _ l2 ((rd_T65 l0_1 x12_2).f1) false _ ?side1 ?side2 A29.out).mono ?_);(case side1=>exact kC HR2.out HB.out);(case side2=>exact HC2.out);rintro e w' ⟨rfl,⟨nd,rfl⟩⟩))
       go_roundg k2
       case measure=>have:=HK1.out;have:=HK2.out;omega
       case rel=>exact ⟨(x9_2),(wrap64 (x12_2 + 1)),(by first | rfl | (simp;done) | (simp [*];done)),(by first | rfl | (simp;done) | (simp [*];done)),H',⟨by have:=HK1.out;have:=HK2.out;omega⟩,⟨by (with_reducible repeat (first | refine blk_drewN ?_ _ | refine blk_drew ?_ | refine blk_alloc ?_ _));exact BK344.out⟩,⟨pw_below_drewN HB.out _⟩⟩
      subst c30
      replace H : ((q8_Listed.f k2 l2 ((rd_T65 l0_1 x12_2).f0)).bind fun t352=>(if t352 = true then (q8_Short.l1 k2 l1 l2 x9_2 (wrap64 (x12_2 + 1)) l0_0 l0_1) else (q8_Short.l1 k2 l1 l2 (wrap64 (x9_2 - ((rd_T65 l0_1 x12_2).f2))) (wrap64 (x12_2 + 1)) l0_0 l0_1))) = some r:=by rw [if_pos rfl] at H;exact H
      replace H:=obm H
      obtain ⟨t352,A310,H⟩:=H
      replace H : (if t352 = true then (q8_Short.l1 k2 l1 l2 x9_2 (wrap64 (x12_2 + 1)) l0_0 l0_1) else (q8_Short.l1 k2 l1 l2 (wrap64 (x9_2 - ((rd_T65 l0_1 x12_2).f2))) (wrap64 (x12_2 + 1)) l0_0 l0_1)) = some r:=H
      have A31:=am A310
      clear A310
      by_cases c32 : t352 = true
      ·subst c32
       replace H : (q8_Short.l1 k2 l1 l2 x9_2 (wrap64 (x12_2 + 1)) l0_0 l0_1) = some r:=by rw [if_pos rfl] at H;exact H
       replace H':=am H
       obtain ⟨hcz33_0,hcz33_1⟩:=cO2 BK344.out
       have hfz33_0:=blk_frozen BK344.out 0
       have hfz33_1:=blk_frozen BK344.out 1
       have p348 : 0≤(x12_2 : Int):=of_decide_eq_true (by assumption)
       have q348 : x12_2 < (l0_1.length : Int):=of_decide_eq_true (by assumption)
       obtain ⟨ad348,e348,hx348_0,hx348_1,hx348_2,hx348_3⟩:=at_T65 HR0_1.out x12_2 p348 q348
       cases e348
       replace hx348_0:=(HB.out.cell (wbl hx348_0)).trans hx348_0
       replace hx348_1:=(HB.out.cell (wbl hx348_1)).trans hx348_1
       replace hx348_2:=(HB.out.cell (wbl hx348_2)).trans hx348_2
       replace hx348_3:=(HB.out.cell (wbl hx348_3)).trans hx348_3
       replace p348:=eq_true p348
       replace q348:=eq_true q348
       go_wp2_with (first | ((with_reducible refine ga_dst (N:=13) rfl ?_);refine box_event ?hg (N:=13) ?hd (cs:=#[.int .i64 0,.int .i64 0,.int .i64 0,.bool false]) (t:=65) ?hr ?_;(case hd=>rfl);(case hg=>rfl);(case hr=>go_simp;try rfl);intro gb349 hg w34 hbox hb;have BK349:=am (hbox);have GW349:=am (ge_new (HB.out) hg);have GE349:=am (ge_new (HB.out) hg);have NB344_349:=am ((by rw [hg];exact Nat.ne_of_lt (blk_lt (g:=gb344) (o:=.cells #[.slice A0_0 l0_0.length c0_0,.slice (some ad348) l0_1.length c0_1] 25 (0,0)) (by (with_reducible repeat (first | refine blk_drewN ?_ _ | refine blk_drew ?_ | refine blk_alloc ?_ _));exact BK344.out)) : gb344 ≠ gb349));have NB349_344:=am ((by rw [hg];exact Nat.ne_of_gt (blk_lt (g:=gb344) (o:=.cells #[.slice A0_0 l0_0.length c0_0,.slice (some ad348) l0_1.length c0_1] 25 (0,0)) (by (with_reducible repeat (first | refine blk_drewN ?_ _ | refine blk_drew ?_ | refine blk_alloc ?_ _));exact BK344.out)) : gb349 ≠ gb344));replace BK344:=am (blk_below (g:=gb344) (o:=.cells #[.slice A0_0 l0_0.length c0_0,.slice (some ad348) l0_1.length c0_1] 25 (0,0)) (by (with_reducible repeat (first | refine blk_drewN ?_ _ | refine blk_drew ?_ | refine blk_alloc ?_ _));exact BK344.out) hb);replace HB:=am (below_step (HB.out) hb);clear hb hbox hg;have hnb35:=NB349_344.out;have hnc35:=NB344_349.out;obtain ⟨hcz36_0,hcz36_1,hcz36_2,hcz36_3⟩:=cO4 BK349.out;have hfz36_0:=blk_frozen BK349.out 0;have hfz36_1:=blk_frozen BK349.out 1;have hfz36_2:=blk_frozen BK349.out 2;have hfz36_3:=blk_frozen BK349.out 3;obtain ⟨hcz37_0,hcz37_1⟩:=cO2 BK344.out;have hfz37_0:=blk_frozen BK344.out 0;have hfz37_1:=blk_frozen BK344.out 1) | ((with_reducible refine ga_callee (f:=64) rfl ?_);refine goesL_ (some 61) rfl rfl Tryz.func64 (by kernel_rfl) rfl #[.agg #[.slice A0_0 l0_0.length c0_0,.slice (some ad348) l0_1.length c0_1],.slice A1 l1.length c1,.int .i64 x12_2] rfl (by (try simp only [List.map_toArray,List.map_cons,List.map_nil]);first | done | rfl | (simp only [List.length_drop,List.length_take];rfl)) ?_;(with_reducible refine (q8_Open.calls k2 _ _ l0_0 _ _ l0_1 _ _ l1 x12_2 true _ ?side1 ?side2 ?side3 ?side4 ?side5 ?side6 A27.out).mono ?_);(case side1=>exact kC HR0_0.out (by repeat (first | (with_reducible first | exact HB.out | refine below_set ?_ (Aside0.out (by assumption)) | apply below_alloc | apply pw_below_drewN) | exact HB.out)));(case side2=>exact HC0_0.out);(case side3=>exact kC HR0_1.out (by repeat (first | (with_reducible first | exact HB.out | refine below_set ?_ (Aside0.out (by assumption)) | apply below_alloc | apply pw_below_drewN) | exact HB.out)));(case side4=>exact HC0_1.out);(case side5=>exact kC HR1.out (by repeat (first | (with_reducible first | exact HB.out | refine below_set ?_ (Aside0.out (by assumption)) | apply below_alloc | apply pw_below_drewN) | exact HB.out)));(case side6=>exact HC1.out);rintro e w38 ⟨rfl,hb⟩;refine ⟨_,rfl,?_⟩;replace BK344:=am (blk_below (g:=gb344) (o:=.cells #[.slice A0_0 l0_0.length c0_0,.slice (some ad348) l0_1.length c0_1] 25 (0,0)) (by (with_reducible repeat (first | refine blk_drewN ?_ _ | refine blk_drew ?_ | refine blk_alloc ?_ _));refine blk_far ?_ NB344_349.out _;(with_reducible repeat (first | refine blk_drewN ?_ _ | refine blk_drew ?_ | refine blk_alloc ?_ _));refine blk_far ?_ NB344_349.out _;(with_reducible repeat (first | refine blk_drewN ?_ _ | refine blk_drew ?_ | refine blk_alloc ?_ _));refine blk_far ?_ NB344_349.out _;(with_reducible repeat (first | refine blk_drewN ?_ _ | refine blk_drew ?_ | refine blk_alloc ?_ _));refine blk_far ?_ NB344_349.out _;(with_reducible repeat (first | refine blk_drewN ?_ _ | refine blk_drew ?_ | refine blk_alloc ?_ _));exact BK344.out) hb);replace BK349:=am (blk_below (g:=gb349) (o:=.cells #[.int .i64 ((rd_T65 l0_1 x12_2).f0),.int .i64 ((rd_T65 l0_1 x12_2).f1),.int .i64 ((rd_T65 l0_1 x12_2).f2),.bool ((rd_T65 l0_1 x12_2).f3)] 65 (0,0)) (by (with_reducible repeat (first | refine blk_drewN ?_ _ | refine blk_drew ?_ | refine blk_alloc ?_ _));refine blk_put (cs:=#[.int .i64 ((rd_T65 l0_1 x12_2).f0),.int .i64 ((rd_T65 l0_1 x12_2).f1),.int .i64 ((rd_T65 l0_1 x12_2).f2),.bool false]) ?_ 3 _ rfl;(with_reducible repeat (first | refine blk_drewN ?_ _ | refine blk_drew ?_ | refine blk_alloc ?_ _));refine blk_put (cs:=#[.int .i64 ((rd_T65 l0_1 x12_2).f0),.int .i64 ((rd_T65 l0_1 x12_2).f1),.int .i64 0,.bool false]) ?_ 2 _ rfl;(with_reducible repeat (first | refine blk_drewN ?_ _ | refine blk_drew ?_ | refine blk_alloc ?_ _));refine blk_put (cs:=#[.int .i64 ((rd_T65 l0_1 x12_2).f0),.int .i64 0,.int .i64 0,.bool false]) ?_ 1 _ rfl;(with_reducible repeat (first | refine blk_drewN ?_ _ | refine blk_drew ?_ | refine blk_alloc ?_ _));refine blk_put (cs:=#[.int .i64 0,.int .i64 0,.int .i64 0,.bool false]) ?_ 0 _ rfl;(with_reducible repeat (first | refine blk_drewN ?_ _ | refine blk_drew ?_ | refine blk_alloc ?_ _));exact BK349.out) hb);replace HB:=am (below_step (by repeat (first | (with_reducible first | exact HB.out | refine below_set ?_ (Aside0.out (by assumption)) | apply below_alloc | apply pw_below_drewN) | exact HB.out)) hb);(try clear hb);(try clear hb2);(try clear hk);(try clear hi);obtain ⟨hcz39_0,hcz39_1,hcz39_2,hcz39_3⟩:=cO4 BK349.out;have hfz39_0:=blk_frozen BK349.out 0;have hfz39_1:=blk_frozen BK349.out 1;have hfz39_2:=blk_frozen BK349.out 2;have hfz39_3:=blk_frozen BK349.out 3) | (go_at_call 43;(with_reducible refine (q8_Listed.calls k2 _ _ l2 ((rd_T65 l0_1 x12_2).f1) true _ ?side1 ?side2 A29.out).mono ?_);(case side1=>exact kC HR2.out HB.out);(case side2=>exact HC2.out);rintro e w' ⟨rfl,⟨nd,rfl⟩⟩) | (go_at_call 43;(with_reducible refine (q8_Listed.calls k2 _ _ l2 ((rd_T65 l0_1 x12_2).f0) true _ ?side1 ?side2 A31.out).mono ?_);(case side1=>repeat (first | exact (kC HR2.out (pw_below_drewN HB.out _)) | (with_reducible refine Kd.C_alloc ?_ _) | (with_reducible refine Kd.C_drewN ?_ _) | (with_reducible refine Kd.C_drew ?_)));(case side2=>exact HC2.out);rintro e w' ⟨rfl,⟨nd,rfl⟩⟩))
       go_roundg k2
       case measure=>have:=HK1.out;have:=HK2.out;omega
       case rel=>exact ⟨(x9_2),(wrap64 (x12_2 + 1)),(by first | rfl | (simp;done) | (simp [*];done)),(by first | rfl | (simp;done) | (simp [*];done)),H',⟨by have:=HK1.out;have:=HK2.out;omega⟩,⟨by (with_reducible repeat (first | refine blk_drewN ?_ _ | refine blk_drew ?_ | refine blk_alloc ?_ _));exact BK344.out⟩,⟨pw_below_drewN HB.out _⟩⟩
      ·replace c32:=Bool.eq_false_iff.mpr c32
       subst c32
       replace H : (q8_Short.l1 k2 l1 l2 (wrap64 (x9_2 - ((rd_T65 l0_1 x12_2).f2))) (wrap64 (x12_2 + 1)) l0_0 l0_1) = some r:=by rw [if_neg (show ¬ (false = true) by decide)] at H;exact H
       replace H':=am H
       obtain ⟨hcz40_0,hcz40_1⟩:=cO2 BK344.out
       have hfz40_0:=blk_frozen BK344.out 0
       have hfz40_1:=blk_frozen BK344.out 1
       have p348 : 0≤(x12_2 : Int):=of_decide_eq_true (by assumption)
       have q348 : x12_2 < (l0_1.length : Int):=of_decide_eq_true (by assumption)
       obtain ⟨ad348,e348,hx348_0,hx348_1,hx348_2,hx348_3⟩:=at_T65 HR0_1.out x12_2 p348 q348
       cases e348
       replace hx348_0:=(HB.out.cell (wbl hx348_0)).trans hx348_0
       replace hx348_1:=(HB.out.cell (wbl hx348_1)).trans hx348_1
       replace hx348_2:=(HB.out.cell (wbl hx348_2)).trans hx348_2
       replace hx348_3:=(HB.out.cell (wbl hx348_3)).trans hx348_3
       replace p348:=eq_true p348
       replace q348:=eq_true q348
       go_wp2_with (first | ((with_reducible refine ga_dst (N:=13) rfl ?_);refine box_event ?hg (N:=13) ?hd (cs:=#[.int .i64 0,.int .i64 0,.int .i64 0,.bool false]) (t:=65) ?hr ?_;(case hd=>rfl);(case hg=>rfl);(case hr=>go_simp;try rfl);intro gb349 hg w41 hbox hb;have BK349:=am (hbox);have GW349:=am (ge_new (HB.out) hg);have GE349:=am (ge_new (HB.out) hg);have NB344_349:=am ((by rw [hg];exact Nat.ne_of_lt (blk_lt (g:=gb344) (o:=.cells #[.slice A0_0 l0_0.length c0_0,.slice (some ad348) l0_1.length c0_1] 25 (0,0)) (by (with_reducible repeat (first | refine blk_drewN ?_ _ | refine blk_drew ?_ | refine blk_alloc ?_ _));exact BK344.out)) : gb344 ≠ gb349));have NB349_344:=am ((by rw [hg];exact Nat.ne_of_gt (blk_lt (g:=gb344) (o:=.cells #[.slice A0_0 l0_0.length c0_0,.slice (some ad348) l0_1.length c0_1] 25 (0,0)) (by (with_reducible repeat (first | refine blk_drewN ?_ _ | refine blk_drew ?_ | refine blk_alloc ?_ _));exact BK344.out)) : gb349 ≠ gb344));replace BK344:=am (blk_below (g:=gb344) (o:=.cells #[.slice A0_0 l0_0.length c0_0,.slice (some ad348) l0_1.length c0_1] 25 (0,0)) (by (with_reducible repeat (first | refine blk_drewN ?_ _ | refine blk_drew ?_ | refine blk_alloc ?_ _));exact BK344.out) hb);replace HB:=am (below_step (HB.out) hb);clear hb hbox hg;have hnb42:=NB349_344.out;have hnc42:=NB344_349.out;obtain ⟨hcz43_0,hcz43_1,hcz43_2,hcz43_3⟩:=cO4 BK349.out;have hfz43_0:=blk_frozen BK349.out 0;have hfz43_1:=blk_frozen BK349.out 1;have hfz43_2:=blk_frozen BK349.out 2;have hfz43_3:=blk_frozen BK349.out 3;obtain ⟨hcz44_0,hcz44_1⟩:=cO2 BK344.out;have hfz44_0:=blk_frozen BK344.out 0;have hfz44_1:=blk_frozen BK344.out 1) | ((with_reducible refine ga_callee (f:=64) rfl ?_);refine goesL_ (some 61) rfl rfl Tryz.func64 (by kernel_rfl) rfl #[.agg #[.slice A0_0 l0_0.length c0_0,.slice (some ad348) l0_1.length c0_1],.slice A1 l1.length c1,.int .i64 x12_2] rfl (by (try simp only [List.map_toArray,List.map_cons,List.map_nil]);first | done | rfl | (simp only [List.length_drop,List.length_take];rfl)) ?_;(with_reducible refine (q8_Open.calls k2 _ _ l0_0 _ _ l0_1 _ _ l1 x12_2 true _ ?side1 ?side2 ?side3 ?side4 ?side5 ?side6 A27.out).mono ?_);(case side1=>exact kC HR0_0.out (by repeat (first | (with_reducible first | exact HB.out | refine below_set ?_ (Aside0.out (by assumption)) | apply below_alloc | apply pw_below_drewN) | exact HB.out)));(case side2=>exact HC0_0.out);(case side3=>exact kC HR0_1.out (by repeat (first | (with_reducible first | exact HB.out | refine below_set ?_ (Aside0.out (by assumption)) | apply below_alloc | apply pw_below_drewN) | exact HB.out)));(case side4=>exact HC0_1.out);(case side5=>exact kC HR1.out (by repeat (first | (with_reducible first | exact HB.out | refine below_set ?_ (Aside0.out (by assumption)) | apply below_alloc | apply pw_below_drewN) | exact HB.out)));(case side6=>exact HC1.out);rintro e w45 ⟨rfl,hb⟩;refine ⟨_,rfl,?_⟩;replace BK344:=am (blk_below (g:=gb344) (o:=.cells #[.slice A0_0 l0_0.length c0_0,.slice (some ad348) l0_1.length c0_1] 25 (0,0)) (by (with_reducible repeat (first | refine blk_drewN ?_ _ | refine blk_drew ?_ | refine blk_alloc ?_ _));refine blk_far ?_ NB344_349.out _;(with_reducible repeat (first | refine blk_drewN ?_ _ | refine blk_drew ?_ | refine blk_alloc ?_ _));refine blk_far ?_ NB344_349.out _;(with_reducible repeat (first | refine blk_drewN ?_ _ | refine blk_drew ?_ | refine blk_alloc ?_ _));refine blk_far ?_ NB344_349.out _;(with_reducible repeat (first | refine blk_drewN ?_ _ | refine blk_drew ?_ | refine blk_alloc ?_ _));refine blk_far ?_ NB344_349.out _;(with_reducible repeat (first | refine blk_drewN ?_ _ | refine blk_drew ?_ | refine blk_alloc ?_ _));exact BK344.out) hb);replace BK349:=am (blk_below (g:=gb349) (o:=.cells #[.int .i64 ((rd_T65 l0_1 x12_2).f0),.int .i64 ((rd_T65 l0_1 x12_2).f1),.int .i64 ((rd_T65 l0_1 x12_2).f2),.bool ((rd_T65 l0_1 x12_2).f3)] 65 (0,0)) (by (with_reducible repeat (first | refine blk_drewN ?_ _ | refine blk_drew ?_ | refine blk_alloc ?_ _));refine blk_put (cs:=#[.int .i64 ((rd_T65 l0_1 x12_2).f0),.int .i64 ((rd_T65 l0_1 x12_2).f1),.int .i64 ((rd_T65 l0_1 x12_2).f2),.bool false]) ?_ 3 _ rfl;(with_reducible repeat (first | refine blk_drewN ?_ _ | refine blk_drew ?_ | refine blk_alloc ?_ _));refine blk_put (cs:=#[.int .i64 ((rd_T65 l0_1 x12_2).f0),.int .i64 ((rd_T65 l0_1 x12_2).f1),.int .i64 0,.bool false]) ?_ 2 _ rfl;(with_reducible repeat (first | refine blk_drewN ?_ _ | refine blk_drew ?_ | refine blk_alloc ?_ _));refine blk_put (cs:=#[.int .i64 ((rd_T65 l0_1 x12_2).f0),.int .i64 0,.int .i64 0,.bool false]) ?_ 1 _ rfl;(with_reducible repeat (first | refine blk_drewN ?_ _ | refine blk_drew ?_ | refine blk_alloc ?_ _));refine blk_put (cs:=#[.int .i64 0,.int .i64 0,.int .i64 0,.bool false]) ?_ 0 _ rfl;(with_reducible repeat (first | refine blk_drewN ?_ _ | refine blk_drew ?_ | refine blk_alloc ?_ _));exact BK349.out) hb);replace HB:=am (below_step (by repeat (first | (with_reducible first | exact HB.out | refine below_set ?_ (Aside0.out (by assumption)) | apply below_alloc | apply pw_below_drewN) | exact HB.out)) hb);(try clear hb);(try clear hb2);(try clear hk);(try clear hi);obtain ⟨hcz46_0,hcz46_1,hcz46_2,hcz46_3⟩:=cO4 BK349.out;have hfz46_0:=blk_frozen BK349.out 0;have hfz46_1:=blk_frozen BK349.out 1;have hfz46_2:=blk_frozen BK349.out 2;have hfz46_3:=blk_frozen BK349.out 3) | (go_at_call 43;(with_reducible refine (q8_Listed.calls k2 _ _ l2 ((rd_T65 l0_1 x12_2).f1) true _ ?side1 ?side2 A29.out).mono ?_);(case side1=>exact kC HR2.out HB.out);(case side2=>exact HC2.out);rintro e w' ⟨rfl,⟨nd,rfl⟩⟩) | (go_at_call 43;(with_reducible refine (q8_Listed.calls k2 _ _ l2 ((rd_T65 l0_1 x12_2).f0) false _ ?side1 ?side2 A31.out).mono ?_);(case side1=>repeat (first | exact (kC HR2.out (pw_below_drewN HB.out _)) | (with_reducible refine Kd.C_alloc ?_ _) | (with_reducible refine Kd.C_drewN ?_ _) | (with_reducible refine Kd.C_drew ?_)));(case side2=>exact HC2.out);rintro e w' ⟨rfl,⟨nd,rfl⟩⟩))
       go_roundg k2
       case measure=>have:=HK1.out;have:=HK2.out;omega
       case rel=>exact ⟨(wrap64 (x9_2 - ((rd_T65 l0_1 x12_2).f2))),(wrap64 (x12_2 + 1)),(by first | rfl | (simp;done) | (simp [*];done)),(by first | rfl | (simp;done) | (simp [*];done)),H',⟨by have:=HK1.out;have:=HK2.out;omega⟩,⟨by (with_reducible repeat (first | refine blk_drewN ?_ _ | refine blk_drew ?_ | refine blk_alloc ?_ _));exact BK344.out⟩,⟨pw_below_drewN HB.out _⟩⟩
   rw [if_pos c6] at H
   have c6b0 : decide (x10_1 < (l2.length : Int)) = true:=decide_eq_true c6
   clear c6
   by_cases c7 : 0≤x10_1
   case neg =>
    rw [if_neg c7] at H
    exact absurd H (by simp)
   rw [if_pos c7] at H
   have c7b0 : decide (0≤x10_1) = true:=decide_eq_true c7
   clear c7
   by_cases c8 : 0≤(rd l2 x10_1)
   case neg =>
    rw [if_neg c8] at H
    exact absurd H (by simp)
   rw [if_pos c8] at H
   have c8b0 : decide (0≤(rd l2 x10_1)) = true:=decide_eq_true c8
   clear c8
   by_cases c9 : (rd l2 x10_1) < (l0_0.length : Int)
   case neg =>
    rw [if_neg c9] at H
    exact absurd H (by simp)
   rw [if_pos c9] at H
   have c9b0 : decide ((rd l2 x10_1) < (l0_0.length : Int)) = true:=decide_eq_true c9
   clear c9
   by_cases c10 : a3 = true
   ·subst c10
    replace H : (q8_Short.l0 k1 l1 l2 true (wrap64 ((wrap64 ((wrap64 (x9_1 + ((rd_T37 l0_0 (rd l2 x10_1)).f1))) - ((rd_T37 l0_0 (rd l2 x10_1)).f0.f0))) - (wrap64 (((rd_T37 l0_0 (rd l2 x10_1)).f0.f1) - ((rd_T37 l0_0 (rd l2 x10_1)).f0.f0))))) (wrap64 (x10_1 + 1)) l0_0 l0_1) = some r:=by rw [if_pos rfl] at H;exact H
    replace H':=am H
    try go_wp2
    replace BK344:=am (blk_drew BK344.out)
    replace HB:=am (below_drew1 HB.out)
    have p345 : 0≤(x10_1 : Int):=of_decide_eq_true (by assumption)
    have q345 : x10_1 < (l2.length : Int):=of_decide_eq_true (by assumption)
    obtain ⟨ad345,e345,hx345_0⟩:=Kd.at_int HR2.out x10_1 p345 q345
    have hw345_0:=hx345_0
    cases e345
    replace hx345_0:=(HB.out.cell (wbl hx345_0)).trans hx345_0
    replace p345:=eq_true p345
    replace q345:=eq_true q345
    have p346 : 0≤((rd l2 x10_1) : Int):=of_decide_eq_true (by assumption)
    have q346 : (rd l2 x10_1) < (l0_0.length : Int):=of_decide_eq_true (by assumption)
    obtain ⟨ad346,e346,hx346_0,hx346_1,hx346_2⟩:=at_T37 HR0_0.out (rd l2 x10_1) p346 q346
    have hw346_2:=hx346_2
    have hw346_1:=hx346_1
    have hw346_0:=hx346_0
    cases e346
    replace hx346_0:=(HB.out.cell (wbl hx346_0)).trans hx346_0
    replace hx346_1:=(HB.out.cell (wbl hx346_1)).trans hx346_1
    replace hx346_2:=(HB.out.cell (wbl hx346_2)).trans hx346_2
    replace p346:=eq_true p346
    replace q346:=eq_true q346
    refine start_ (n:=10) (S:=fun w'=>w'.cell? ⟨gb344,0,none⟩ = some (.slice (some ad346) l0_0.length c0_0)∧w'.cell? ⟨gb344,1,none⟩ = some (.slice A0_1 l0_1.length c0_1)∧w'.cell? (ad345.add (x10_1).toNat) = some (.int .i64 (rd l2 x10_1))∧w'.cell? (ad346.add (((rd l2 x10_1)).toNat * 3)) = some (.int .i64 ((rd_T37 l0_0 (rd l2 x10_1)).f0.f0))∧w'.cell? ⟨(ad346.add (((rd l2 x10_1)).toNat * 3)).block,(ad346.add (((rd l2 x10_1)).toNat * 3)).off + 1,none⟩ = some (.int .i64 ((rd_T37 l0_0 (rd l2 x10_1)).f0.f1))∧w'.cell? ⟨(ad346.add (((rd l2 x10_1)).toNat * 3)).block,(ad346.add (((rd l2 x10_1)).toNat * 3)).off + 2,none⟩ = some (.int .i64 ((rd_T37 l0_0 (rd l2 x10_1)).f1))) (ds:=[]) (ba 10 0) (by kernel_rfl) rfl rfl ⟨(blk_cell BK344.out 0).trans rfl,(blk_cell BK344.out 1).trans rfl,((HB.out.cell (wbl hw345_0)).trans hw345_0),((HB.out.cell (wbl hw346_0)).trans hw346_0),((HB.out.cell (wbl hw346_1)).trans hw346_1),((HB.out.cell (wbl hw346_2)).trans hw346_2)⟩ (fun hHeld=>?_);refine with_tabW q8_Short.tab5 q8_Short.bits5 (fun HT_ HW_=>?_)
    generalize wr.drew = w11 at BK344 HB hx345_0 hx346_0 hx346_1 hx346_2 hHeld ⊢
    refine pure_ (i:=0) (N:=some 20) (v:=?_) (a':=?_) (ba 10 1) rfl rfl (any_of HT_.out (by kernel_rfl)) (fun _ _ _ h=>h) (Or.inl ⟨by rfl,?_⟩) ?_ ?_
    rotate_left
    ·intro w'
     go_simp
     with_reducible rfl
    rotate_left
    ·simp only [Act.put,NRM]
     rfl
    refine pure_ (i:=2) (N:=some 22) (v:=?_) (a':=?_) (ba 10 5) rfl rfl (any_of HT_.out (by kernel_rfl)) (fun _ _ _ h=>h) (Or.inl ⟨by rfl,?_⟩) ?_ ?_
    rotate_left
    ·intro w'
     go_simp
     with_reducible rfl
    rotate_left
    ·simp only [Act.put,NRM]
     rfl
    refine pure_ (i:=3) (N:=some 23) (v:=?_) (a':=?_) (ba 10 13) rfl rfl (any_of HT_.out (by kernel_rfl)) (fun _ _ _ h=>h) (Or.inl ⟨by rfl,?_⟩) ?_ ?_
    rotate_left
    ·intro w'
     go_simp
     with_reducible rfl
    rotate_left
    ·simp only [Act.put,NRM]
     rfl
    refine pure_ (i:=4) (N:=some 24) (v:=?_) (a':=?_) (ba 10 29) rfl rfl (any_of HT_.out (by kernel_rfl)) (fun _ _ _ h=>h) (Or.inl ⟨by rfl,?_⟩) ?_ ?_
    rotate_left
    ·intro w'
     go_simp
     with_reducible rfl
    rotate_left
    ·simp only [Act.put,NRM]
     rfl
    refine take_ (i:=1) (N:=some 21) (v:=?_) (a':=?_) (ba 10 31) rfl rfl (take_ofW HT_.out HW_.out (by kernel_rfl)) (fun _ _ _ h=>h) (Or.inl ⟨by rfl,?_⟩) hHeld ?_ ?_
    rotate_left
    ·rintro w' ⟨s0,s1,s2,s3,s4,s5⟩
     go_simp
     with_reducible rfl
    rotate_left
    ·simp only [Act.put,NRM]
     rfl
    refine take_ (i:=5) (N:=some 25) (v:=?_) (a':=?_) (ba 10 63) rfl rfl (take_ofW HT_.out HW_.out (by kernel_rfl)) (fun _ _ _ h=>h) (Or.inl ⟨by rfl,?_⟩) hHeld ?_ ?_
    rotate_left
    ·rintro w' ⟨s0,s1,s2,s3,s4,s5⟩
     go_simp
     with_reducible rfl
    rotate_left
    ·simp only [Act.put,NRM]
     rfl
    refine pure_ (i:=6) (N:=some 26) (v:=?_) (a':=?_) (ba 10 127) rfl rfl (any_of HT_.out (by kernel_rfl)) (fun _ _ _ h=>h) (Or.inl ⟨by rfl,?_⟩) ?_ ?_
    rotate_left
    ·intro w'
     go_simp
     with_reducible rfl
    rotate_left
    ·simp only [Act.put,NRM]
     rfl
    refine take_ (i:=7) (N:=some 27) (v:=?_) (a':=?_) (ba 10 255) rfl rfl (take_ofW HT_.out HW_.out (by kernel_rfl)) (fun _ _ _ h=>h) (Or.inl ⟨by rfl,?_⟩) hHeld ?_ ?_
    rotate_left
    ·rintro w' ⟨s0,s1,s2,s3,s4,s5⟩
     go_simp
     with_reducible rfl
    rotate_left
    ·simp only [Act.put,NRM]
     rfl
    refine one_ (i:=8) (N:=some 11) (ba 10 511) rfl rfl (one_of HT_.out (by kernel_rfl)) (by decide) (fun K hK=>?_)
    refine box_step ?hg (N:=11) ?hd (cs:=#[.int .i64 0,.int .i64 0,.int .i64 0]) (t:=37) ?hr ?_;(case hd=>rfl);(case hg=>rfl);(case hr=>go_simp;try rfl)
    intro gb347 hg w12 hbox hb
    have BK347:=am (hbox)
    have GW347:=am (ge_new (HB.out) hg)
    have GE347:=am (ge_new (HB.out) hg)
    have NB344_347:=am ((by rw [hg];exact Nat.ne_of_lt (blk_lt (g:=gb344) (o:=.cells #[.slice (some ad346) l0_0.length c0_0,.slice A0_1 l0_1.length c0_1] 25 (0,0)) (by (with_reducible repeat (first | refine blk_drewN ?_ _ | refine blk_drew ?_ | refine blk_alloc ?_ _));exact BK344.out)) : gb344 ≠ gb347))
    have NB347_344:=am ((by rw [hg];exact Nat.ne_of_gt (blk_lt (g:=gb344) (o:=.cells #[.slice (some ad346) l0_0.length c0_0,.slice A0_1 l0_1.length c0_1] 25 (0,0)) (by (with_reducible repeat (first | refine blk_drewN ?_ _ | refine blk_drew ?_ | refine blk_alloc ?_ _));exact BK344.out)) : gb347 ≠ gb344))
    replace BK344:=am (blk_below (g:=gb344) (o:=.cells #[.slice (some ad346) l0_0.length c0_0,.slice A0_1 l0_1.length c0_1] 25 (0,0)) (by (with_reducible repeat (first | refine blk_drewN ?_ _ | refine blk_drew ?_ | refine blk_alloc ?_ _));exact BK344.out) hb)
    replace HB:=am (below_step (HB.out) hb)
    clear hb hbox hg
    refine hK.out _ _ ⟨(blk_cell BK344.out 0).trans rfl,(blk_cell BK344.out 1).trans rfl,((HB.out.cell (wbl hw345_0)).trans hw345_0),((HB.out.cell (wbl hw346_0)).trans hw346_0),((HB.out.cell (wbl hw346_1)).trans hw346_1),((HB.out.cell (wbl hw346_2)).trans hw346_2)⟩ (fun hHeld=>?_)
    clear hK K
    refine norm_ (a':=?_) ?_ ?_
    rotate_left
    ·show Act.put _ (some 11) _ = _
     simp only [Act.put,NRM]
     rfl
    refine one_ (i:=9) (N:=none) (ba 10 1023) rfl rfl (one_of HT_.out (by kernel_rfl)) (by decide) (fun K hK=>?_)
    have hs13:=cO1 BK347.out
    have hfs13:=blk_frozen BK347.out 0
    have hns13_0:=NB344_347.out
    have hms13_0:=NB347_344.out
    have hs14 : w12.cell? ⟨gb347,1,none⟩ = some (.int .i64 0):=(blk_cell BK347.out 1).trans rfl
    have hfs14:=blk_frozen BK347.out 1
    have hns14_0:=NB344_347.out
    have hms14_0:=NB347_344.out
    have hs15 : w12.cell? ⟨gb347,2,none⟩ = some (.int .i64 0):=(blk_cell BK347.out 2).trans rfl
    have hfs15:=blk_frozen BK347.out 2
    have hns15_0:=NB344_347.out
    have hms15_0:=NB347_344.out
    refine skip_ (w1:=?_) (by rfl) rfl ?_ ?_
    rotate_left
    ·go_simp
     rfl
    refine hK.out _ _ ⟨((cell_far (p:=⟨gb347,_,none⟩) NB344_347.out _).trans (((cell_far (p:=⟨gb347,_,none⟩) NB344_347.out _).trans (((cell_far (p:=⟨gb347,_,none⟩) NB344_347.out _).trans (hHeld.1)))))),((cell_far (p:=⟨gb347,_,none⟩) NB344_347.out _).trans (((cell_far (p:=⟨gb347,_,none⟩) NB344_347.out _).trans (((cell_far (p:=⟨gb347,_,none⟩) NB344_347.out _).trans (hHeld.2.1)))))),((cell_far (p:=⟨gb347,_,none⟩) (by first | exact Nat.ne_of_lt (Nat.lt_of_lt_of_le (by have:=World.block_lt_of_cell? _ _ hw345_0;first | rwa [add_block] at this | exact this) GW347.out) | (rw [add_block];exact Nat.ne_of_lt (Nat.lt_of_lt_of_le (by have:=World.block_lt_of_cell? _ _ hw345_0;first | rwa [add_block] at this | exact this) GW347.out)) | (show (Addr.add _ _).block ≠ _;rw [add_block];exact Nat.ne_of_lt (Nat.lt_of_lt_of_le (by have:=World.block_lt_of_cell? _ _ hw345_0;first | rwa [add_block] at this | exact this) GW347.out)) | (dsimp only;exact Nat.ne_of_lt (Nat.lt_of_lt_of_le (by have:=World.block_lt_of_cell? _ _ hw345_0;first | rwa [add_block] at this | exact this) GW347.out))) _).trans (((cell_far (p:=⟨gb347,_,none⟩) (by first | exact Nat.ne_of_lt (Nat.lt_of_lt_of_le (by have:=World.block_lt_of_cell? _ _ hw345_0;first | rwa [add_block] at this | exact this) GW347.out) | (rw [add_block];exact Nat.ne_of_lt (Nat.lt_of_lt_of_le (by have:=World.block_lt_of_cell? _ _ hw345_0;first | rwa [add_block] at this | exact this) GW347.out)) | (show (Addr.add _ _).block ≠ _;rw [add_block];exact Nat.ne_of_lt (Nat.lt_of_lt_of_le (by have:=World.block_lt_of_cell? _ _ hw345_0;first | rwa [add_block] at this | exact this) GW347.out)) | (dsimp only;exact Nat.ne_of_lt (Nat.lt_of_lt_of_le (by have:=World.block_lt_of_cell? _ _ hw345_0;first | rwa [add_block] at this | exact this) GW347.out))) _).trans (((cell_far (p:=⟨gb347,_,none⟩) (by first | exact Nat.ne_of_lt (Nat.lt_of_lt_of_le (by have:=World.block_lt_of_cell? _ _ hw345_0;first | rwa [add_block] at this | exact this) GW347.out) | (rw [add_block];exact Nat.ne_of_lt (Nat.lt_of_lt_of_le (by have:=World.block_lt_of_cell? _ _ hw345_0;first | rwa [add_block] at this | exact this) GW347.out)) | (show (Addr.add _ _).block ≠ _;rw [add_block];exact Nat.ne_of_lt (Nat.lt_of_lt_of_le (by have:=World.block_lt_of_cell? _ _ hw345_0;first | rwa [add_block] at this | exact this) GW347.out)) | (dsimp only;exact Nat.ne_of_lt (Nat.lt_of_lt_of_le (by have:=World.block_lt_of_cell? _ _ hw345_0;first | rwa [add_block] at this | exact this) GW347.out))) _).trans (hHeld.2.2.1)))))),((cell_far (p:=⟨gb347,_,none⟩) (by first | exact Nat.ne_of_lt (Nat.lt_of_lt_of_le (by have:=World.block_lt_of_cell? _ _ hw346_0;first | rwa [add_block] at this | exact this) GW347.out) | (rw [add_block];exact Nat.ne_of_lt (Nat.lt_of_lt_of_le (by have:=World.block_lt_of_cell? _ _ hw346_0;first | rwa [add_block] at this | exact this) GW347.out)) | (show (Addr.add _ _).block ≠ _;rw [add_block];exact Nat.ne_of_lt (Nat.lt_of_lt_of_le (by have:=World.block_lt_of_cell? _ _ hw346_0;first | rwa [add_block] at this | exact this) GW347.out)) | (dsimp only;exact Nat.ne_of_lt (Nat.lt_of_lt_of_le (by have:=World.block_lt_of_cell? _ _ hw346_0;first | rwa [add_block] at this | exact this) GW347.out))) _).trans (((cell_far (p:=⟨gb347,_,none⟩) (by first | exact Nat.ne_of_lt (Nat.lt_of_lt_of_le (by have:=World.block_lt_of_cell? _ _ hw346_0;first | rwa [add_block] at this | exact this) GW347.out) | (rw [add_block];exact Nat.ne_of_lt (Nat.lt_of_lt_of_le (by have:=World.block_lt_of_cell? _ _ hw346_0;first | rwa [add_block] at this | exact this) GW347.out)) | (show (Addr.add _ _).block ≠ _;rw [add_block];exact Nat.ne_of_lt (Nat.lt_of_lt_of_le (by have:=World.block_lt_of_cell? _ _ hw346_0;first | rwa [add_block] at this | exact this) GW347.out)) | (dsimp only;exact Nat.ne_of_lt (Nat.lt_of_lt_of_le (by have:=World.block_lt_of_cell? _ _ hw346_0;first | rwa [add_block] at this | exact this) GW347.out))) _).trans (((cell_far (p:=⟨gb347,_,none⟩) (by first | exact Nat.ne_of_lt (Nat.lt_of_lt_of_le (by have:=World.block_lt_of_cell? _ _ hw346_0;first | rwa [add_block] at this | exact this) GW347.out) | (rw [add_block];exact Nat.ne_of_lt (Nat.lt_of_lt_of_le (by have:=World.block_lt_of_cell? _ _ hw346_0;first | rwa [add_block] at this | exact this) GW347.out)) | (show (Addr.add _ _).block ≠ _;rw [add_block];exact Nat.ne_of_lt (Nat.lt_of_lt_of_le (by have:=World.block_lt_of_cell? _ _ hw346_0;first | rwa [add_block] at this | exact this) GW347.out)) | (dsimp only;exact Nat.ne_of_lt (Nat.lt_of_lt_of_le (by have:=World.block_lt_of_cell? _ _ hw346_0;first | rwa [add_block] at this | exact this) GW347.out))) _).trans (hHeld.2.2.2.1)))))),((cell_far (p:=⟨gb347,_,none⟩) (by first | exact Nat.ne_of_lt (Nat.lt_of_lt_of_le (by have:=World.block_lt_of_cell? _ _ hw346_1;first | rwa [add_block] at this | exact this) GW347.out) | (rw [add_block];exact Nat.ne_of_lt (Nat.lt_of_lt_of_le (by have:=World.block_lt_of_cell? _ _ hw346_1;first | rwa [add_block] at this | exact this) GW347.out)) | (show (Addr.add _ _).block ≠ _;rw [add_block];exact Nat.ne_of_lt (Nat.lt_of_lt_of_le (by have:=World.block_lt_of_cell? _ _ hw346_1;first | rwa [add_block] at this | exact this) GW347.out)) | (dsimp only;exact Nat.ne_of_lt (Nat.lt_of_lt_of_le (by have:=World.block_lt_of_cell? _ _ hw346_1;first | rwa [add_block] at this | exact this) GW347.out))) _).trans (((cell_far (p:=⟨gb347,_,none⟩) (by first | exact Nat.ne_of_lt (Nat.lt_of_lt_of_le (by have:=World.block_lt_of_cell? _ _ hw346_1;first | rwa [add_block] at this | exact this) GW347.out) | (rw [add_block];exact Nat.ne_of_lt (Nat.lt_of_lt_of_le (by have:=World.block_lt_of_cell? _ _ hw346_1;first | rwa [add_block] at this | exact this) GW347.out)) | (show (Addr.add _ _).block ≠ _;rw [add_block];exact Nat.ne_of_lt (Nat.lt_of_lt_of_le (by have:=World.block_lt_of_cell? _ _ hw346_1;first | rwa [add_block] at this | exact this) GW347.out)) | (dsimp only;exact Nat.ne_of_lt (Nat.lt_of_lt_of_le (by have:=World.block_lt_of_cell? _ _ hw346_1;first | rwa [add_block] at this | exact this) GW347.out))) _).trans (((cell_far (p:=⟨gb347,_,none⟩) (by first | exact Nat.ne_of_lt (Nat.lt_of_lt_of_le (by have:=World.block_lt_of_cell? _ _ hw346_1;first | rwa [add_block] at this | exact this) GW347.out) | (rw [add_block];exact Nat.ne_of_lt (Nat.lt_of_lt_of_le (by have:=World.block_lt_of_cell? _ _ hw346_1;first | rwa [add_block] at this | exact this) GW347.out)) | (show (Addr.add _ _).block ≠ _;rw [add_block];exact Nat.ne_of_lt (Nat.lt_of_lt_of_le (by have:=World.block_lt_of_cell? _ _ hw346_1;first | rwa [add_block] at this | exact this) GW347.out)) | (dsimp only;exact Nat.ne_of_lt (Nat.lt_of_lt_of_le (by have:=World.block_lt_of_cell? _ _ hw346_1;first | rwa [add_block] at this | exact this) GW347.out))) _).trans (hHeld.2.2.2.2.1)))))),((cell_far (p:=⟨gb347,_,none⟩) (by first | exact Nat.ne_of_lt (Nat.lt_of_lt_of_le (by have:=World.block_lt_of_cell? _ _ hw346_2;first | rwa [add_block] at this | exact this) GW347.out) | (rw [add_block];exact Nat.ne_of_lt (Nat.lt_of_lt_of_le (by have:=World.block_lt_of_cell? _ _ hw346_2;first | rwa [add_block] at this | exact this) GW347.out)) | (show (Addr.add _ _).block ≠ _;rw [add_block];exact Nat.ne_of_lt (Nat.lt_of_lt_of_le (by have:=World.block_lt_of_cell? _ _ hw346_2;first | rwa [add_block] at this | exact this) GW347.out)) | (dsimp only;exact Nat.ne_of_lt (Nat.lt_of_lt_of_le (by have:=World.block_lt_of_cell? _ _ hw346_2;first | rwa [add_block] at this | exact this) GW347.out))) _).trans (((cell_far (p:=⟨gb347,_,none⟩) (by first | exact Nat.ne_of_lt (Nat.lt_of_lt_of_le (by have:=World.block_lt_of_cell? _ _ hw346_2;first | rwa [add_block] at this | exact this) GW347.out) | (rw [add_block];exact Nat.ne_of_lt (Nat.lt_of_lt_of_le (by have:=World.block_lt_of_cell? _ _ hw346_2;first | rwa [add_block] at this | exact this) GW347.out)) | (show (Addr.add _ _).block ≠ _;rw [add_block];exact Nat.ne_of_lt (Nat.lt_of_lt_of_le (by have:=World.block_lt_of_cell? _ _ hw346_2;first | rwa [add_block] at this | exact this) GW347.out)) | (dsimp only;exact Nat.ne_of_lt (Nat.lt_of_lt_of_le (by have:=World.block_lt_of_cell? _ _ hw346_2;first | rwa [add_block] at this | exact this) GW347.out))) _).trans (((cell_far (p:=⟨gb347,_,none⟩) (by first | exact Nat.ne_of_lt (Nat.lt_of_lt_of_le (by have:=World.block_lt_of_cell? _ _ hw346_2;first | rwa [add_block] at this | exact this) GW347.out) | (rw [add_block];exact Nat.ne_of_lt (Nat.lt_of_lt_of_le (by have:=World.block_lt_of_cell? _ _ hw346_2;first | rwa [add_block] at this | exact this) GW347.out)) | (show (Addr.add _ _).block ≠ _;rw [add_block];exact Nat.ne_of_lt (Nat.lt_of_lt_of_le (by have:=World.block_lt_of_cell? _ _ hw346_2;first | rwa [add_block] at this | exact this) GW347.out)) | (dsimp only;exact Nat.ne_of_lt (Nat.lt_of_lt_of_le (by have:=World.block_lt_of_cell? _ _ hw346_2;first | rwa [add_block] at this | exact this) GW347.out))) _).trans (hHeld.2.2.2.2.2))))))⟩ (fun hHeld=>?_)
    clear hK K
    refine done_ (done_of HT_.out (by kernel_rfl)) ?_
    have hnb16:=NB347_344.out
    have hnc16:=NB344_347.out
    obtain ⟨hcz17_0,hcz17_1,hcz17_2⟩:=cO3 BK347.out
    have hfz17_0:=blk_frozen BK347.out 0
    have hfz17_1:=blk_frozen BK347.out 1
    have hfz17_2:=blk_frozen BK347.out 2
    try go_wp2
    go_roundg k1
    case measure=>have:=HK1.out;omega
    case rel=>exact ⟨(wrap64 ((wrap64 ((wrap64 (x9_1 + ((rd_T37 l0_0 (rd l2 x10_1)).f1))) - ((rd_T37 l0_0 (rd l2 x10_1)).f0.f0))) - (wrap64 (((rd_T37 l0_0 (rd l2 x10_1)).f0.f1) - ((rd_T37 l0_0 (rd l2 x10_1)).f0.f0))))),(wrap64 (x10_1 + 1)),(by first | rfl | (simp;done) | (simp [*];done)),(by first | rfl | (simp;done) | (simp [*];done)),H',⟨by have:=HK1.out;omega⟩,⟨by (with_reducible repeat (first | refine blk_drewN ?_ _ | refine blk_drew ?_ | refine blk_alloc ?_ _));refine blk_far ?_ NB344_347.out _;(with_reducible repeat (first | refine blk_drewN ?_ _ | refine blk_drew ?_ | refine blk_alloc ?_ _));refine blk_far ?_ NB344_347.out _;(with_reducible repeat (first | refine blk_drewN ?_ _ | refine blk_drew ?_ | refine blk_alloc ?_ _));refine blk_far ?_ NB344_347.out _;(with_reducible repeat (first | refine blk_drewN ?_ _ | refine blk_drew ?_ | refine blk_alloc ?_ _));exact BK344.out⟩,⟨by repeat (first | (with_reducible first | exact HB.out | refine below_set ?_ (Aside0.out (by assumption)) | apply below_alloc | apply pw_below_drewN) | exact HB.out)⟩⟩
   ·replace c10:=Bool.eq_false_iff.mpr c10
    subst c10
    replace H : (q8_Short.l0 k1 l1 l2 false (wrap64 ((wrap64 (x9_1 + ((rd_T37 l0_0 (rd l2 x10_1)).f1))) - ((rd_T37 l0_0 (rd l2 x10_1)).f0.f0))) (wrap64 (x10_1 + 1)) l0_0 l0_1) = some r:=by rw [if_neg (show ¬ (false = true) by decide)] at H;exact H
    replace H':=am H
    try go_wp2
    replace BK344:=am (blk_drew BK344.out)
    replace HB:=am (below_drew1 HB.out)
    have p345 : 0≤(x10_1 : Int):=of_decide_eq_true (by assumption)
    have q345 : x10_1 < (l2.length : Int):=of_decide_eq_true (by assumption)
    obtain ⟨ad345,e345,hx345_0⟩:=Kd.at_int HR2.out x10_1 p345 q345
    have hw345_0:=hx345_0
    cases e345
    replace hx345_0:=(HB.out.cell (wbl hx345_0)).trans hx345_0
    replace p345:=eq_true p345
    replace q345:=eq_true q345
    have p346 : 0≤((rd l2 x10_1) : Int):=of_decide_eq_true (by assumption)
    have q346 : (rd l2 x10_1) < (l0_0.length : Int):=of_decide_eq_true (by assumption)
    obtain ⟨ad346,e346,hx346_0,hx346_1,hx346_2⟩:=at_T37 HR0_0.out (rd l2 x10_1) p346 q346
    have hw346_2:=hx346_2
    have hw346_1:=hx346_1
    have hw346_0:=hx346_0
    cases e346
    replace hx346_0:=(HB.out.cell (wbl hx346_0)).trans hx346_0
    replace hx346_1:=(HB.out.cell (wbl hx346_1)).trans hx346_1
    replace hx346_2:=(HB.out.cell (wbl hx346_2)).trans hx346_2
    replace p346:=eq_true p346
    replace q346:=eq_true q346
    refine start_ (n:=10) (S:=fun w'=>w'.cell? ⟨gb344,0,none⟩ = some (.slice (some ad346) l0_0.length c0_0)∧w'.cell? ⟨gb344,1,none⟩ = some (.slice A0_1 l0_1.length c0_1)∧w'.cell? (ad345.add (x10_1).toNat) = some (.int .i64 (rd l2 x10_1))∧w'.cell? (ad346.add (((rd l2 x10_1)).toNat * 3)) = some (.int .i64 ((rd_T37 l0_0 (rd l2 x10_1)).f0.f0))∧w'.cell? ⟨(ad346.add (((rd l2 x10_1)).toNat * 3)).block,(ad346.add (((rd l2 x10_1)).toNat * 3)).off + 1,none⟩ = some (.int .i64 ((rd_T37 l0_0 (rd l2 x10_1)).f0.f1))∧w'.cell? ⟨(ad346.add (((rd l2 x10_1)).toNat * 3)).block,(ad346.add (((rd l2 x10_1)).toNat * 3)).off + 2,none⟩ = some (.int .i64 ((rd_T37 l0_0 (rd l2 x10_1)).f1))) (ds:=[]) (ba 10 0) (by kernel_rfl) rfl rfl ⟨(blk_cell BK344.out 0).trans rfl,(blk_cell BK344.out 1).trans rfl,((HB.out.cell (wbl hw345_0)).trans hw345_0),((HB.out.cell (wbl hw346_0)).trans hw346_0),((HB.out.cell (wbl hw346_1)).trans hw346_1),((HB.out.cell (wbl hw346_2)).trans hw346_2)⟩ (fun hHeld=>?_);refine with_tabW q8_Short.tab5 q8_Short.bits5 (fun HT_ HW_=>?_)
    generalize wr.drew = w18 at BK344 HB hx345_0 hx346_0 hx346_1 hx346_2 hHeld ⊢
    refine pure_ (i:=0) (N:=some 20) (v:=?_) (a':=?_) (ba 10 1) rfl rfl (any_of HT_.out (by kernel_rfl)) (fun _ _ _ h=>h) (Or.inl ⟨by rfl,?_⟩) ?_ ?_
    rotate_left
    ·intro w'
     go_simp
     with_reducible rfl
    rotate_left
    ·simp only [Act.put,NRM]
     rfl
    refine pure_ (i:=2) (N:=some 22) (v:=?_) (a':=?_) (ba 10 5) rfl rfl (any_of HT_.out (by kernel_rfl)) (fun _ _ _ h=>h) (Or.inl ⟨by rfl,?_⟩) ?_ ?_
    rotate_left
    ·intro w'
     go_simp
     with_reducible rfl
    rotate_left
    ·simp only [Act.put,NRM]
     rfl
    refine pure_ (i:=3) (N:=some 23) (v:=?_) (a':=?_) (ba 10 13) rfl rfl (any_of HT_.out (by kernel_rfl)) (fun _ _ _ h=>h) (Or.inl ⟨by rfl,?_⟩) ?_ ?_
    rotate_left
    ·intro w'
     go_simp
     with_reducible rfl
    rotate_left
    ·simp only [Act.put,NRM]
     rfl
    refine pure_ (i:=4) (N:=some 24) (v:=?_) (a':=?_) (ba 10 29) rfl rfl (any_of HT_.out (by kernel_rfl)) (fun _ _ _ h=>h) (Or.inl ⟨by rfl,?_⟩) ?_ ?_
    rotate_left
    ·intro w'
     go_simp
     with_reducible rfl
    rotate_left
    ·simp only [Act.put,NRM]
     rfl
    refine take_ (i:=1) (N:=some 21) (v:=?_) (a':=?_) (ba 10 31) rfl rfl (take_ofW HT_.out HW_.out (by kernel_rfl)) (fun _ _ _ h=>h) (Or.inl ⟨by rfl,?_⟩) hHeld ?_ ?_
    rotate_left
    ·rintro w' ⟨s0,s1,s2,s3,s4,s5⟩
     go_simp
     with_reducible rfl
    rotate_left
    ·simp only [Act.put,NRM]
     rfl
    refine take_ (i:=5) (N:=some 25) (v:=?_) (a':=?_) (ba 10 63) rfl rfl (take_ofW HT_.out HW_.out (by kernel_rfl)) (fun _ _ _ h=>h) (Or.inl ⟨by rfl,?_⟩) hHeld ?_ ?_
    rotate_left
    ·rintro w' ⟨s0,s1,s2,s3,s4,s5⟩
     go_simp
     with_reducible rfl
    rotate_left
    ·simp only [Act.put,NRM]
     rfl
    refine pure_ (i:=6) (N:=some 26) (v:=?_) (a':=?_) (ba 10 127) rfl rfl (any_of HT_.out (by kernel_rfl)) (fun _ _ _ h=>h) (Or.inl ⟨by rfl,?_⟩) ?_ ?_
    rotate_left
    ·intro w'
     go_simp
     with_reducible rfl
    rotate_left
    ·simp only [Act.put,NRM]
     rfl
    refine take_ (i:=7) (N:=some 27) (v:=?_) (a':=?_) (ba 10 255) rfl rfl (take_ofW HT_.out HW_.out (by kernel_rfl)) (fun _ _ _ h=>h) (Or.inl ⟨by rfl,?_⟩) hHeld ?_ ?_
    rotate_left
    ·rintro w' ⟨s0,s1,s2,s3,s4,s5⟩
     go_simp
     with_reducible rfl
    rotate_left
    ·simp only [Act.put,NRM]
     rfl
    refine one_ (i:=8) (N:=some 11) (ba 10 511) rfl rfl (one_of HT_.out (by kernel_rfl)) (by decide) (fun K hK=>?_)
    refine box_step ?hg (N:=11) ?hd (cs:=#[.int .i64 0,.int .i64 0,.int .i64 0]) (t:=37) ?hr ?_;(case hd=>rfl);(case hg=>rfl);(case hr=>go_simp;try rfl)
    intro gb347 hg w19 hbox hb
    have BK347:=am (hbox)
    have GW347:=am (ge_new (HB.out) hg)
    have GE347:=am (ge_new (HB.out) hg)
    have NB344_347:=am ((by rw [hg];exact Nat.ne_of_lt (blk_lt (g:=gb344) (o:=.cells #[.slice (some ad346) l0_0.length c0_0,.slice A0_1 l0_1.length c0_1] 25 (0,0)) (by (with_reducible repeat (first | refine blk_drewN ?_ _ | refine blk_drew ?_ | refine blk_alloc ?_ _));exact BK344.out)) : gb344 ≠ gb347))
    have NB347_344:=am ((by rw [hg];exact Nat.ne_of_gt (blk_lt (g:=gb344) (o:=.cells #[.slice (some ad346) l0_0.length c0_0,.slice A0_1 l0_1.length c0_1] 25 (0,0)) (by (with_reducible repeat (first | refine blk_drewN ?_ _ | refine blk_drew ?_ | refine blk_alloc ?_ _));exact BK344.out)) : gb347 ≠ gb344))
    replace BK344:=am (blk_below (g:=gb344) (o:=.cells #[.slice (some ad346) l0_0.length c0_0,.slice A0_1 l0_1.length c0_1] 25 (0,0)) (by (with_reducible repeat (first | refine blk_drewN ?_ _ | refine blk_drew ?_ | refine blk_alloc ?_ _));exact BK344.out) hb)
    replace HB:=am (below_step (HB.out) hb)
    clear hb hbox hg
    refine hK.out _ _ ⟨(blk_cell BK344.out 0).trans rfl,(blk_cell BK344.out 1).trans rfl,((HB.out.cell (wbl hw345_0)).trans hw345_0),((HB.out.cell (wbl hw346_0)).trans hw346_0),((HB.out.cell (wbl hw346_1)).trans hw346_1),((HB.out.cell (wbl hw346_2)).trans hw346_2)⟩ (fun hHeld=>?_)
    clear hK K
    refine norm_ (a':=?_) ?_ ?_
    rotate_left
    ·show Act.put _ (some 11) _ = _
     simp only [Act.put,NRM]
     rfl
    refine one_ (i:=9) (N:=none) (ba 10 1023) rfl rfl (one_of HT_.out (by kernel_rfl)) (by decide) (fun K hK=>?_)
    have hs20:=cO1 BK347.out
    have hfs20:=blk_frozen BK347.out 0
    have hns20_0:=NB344_347.out
    have hms20_0:=NB347_344.out
    have hs21 : w19.cell? ⟨gb347,1,none⟩ = some (.int .i64 0):=(blk_cell BK347.out 1).trans rfl
    have hfs21:=blk_frozen BK347.out 1
    have hns21_0:=NB344_347.out
    have hms21_0:=NB347_344.out
    have hs22 : w19.cell? ⟨gb347,2,none⟩ = some (.int .i64 0):=(blk_cell BK347.out 2).trans rfl
    have hfs22:=blk_frozen BK347.out 2
    have hns22_0:=NB344_347.out
    have hms22_0:=NB347_344.out
    refine skip_ (w1:=?_) (by rfl) rfl ?_ ?_
    rotate_left
    ·go_simp
     rfl
    refine hK.out _ _ ⟨((cell_far (p:=⟨gb347,_,none⟩) NB344_347.out _).trans (((cell_far (p:=⟨gb347,_,none⟩) NB344_347.out _).trans (((cell_far (p:=⟨gb347,_,none⟩) NB344_347.out _).trans (hHeld.1)))))),((cell_far (p:=⟨gb347,_,none⟩) NB344_347.out _).trans (((cell_far (p:=⟨gb347,_,none⟩) NB344_347.out _).trans (((cell_far (p:=⟨gb347,_,none⟩) NB344_347.out _).trans (hHeld.2.1)))))),((cell_far (p:=⟨gb347,_,none⟩) (by first | exact Nat.ne_of_lt (Nat.lt_of_lt_of_le (by have:=World.block_lt_of_cell? _ _ hw345_0;first | rwa [add_block] at this | exact this) GW347.out) | (rw [add_block];exact Nat.ne_of_lt (Nat.lt_of_lt_of_le (by have:=World.block_lt_of_cell? _ _ hw345_0;first | rwa [add_block] at this | exact this) GW347.out)) | (show (Addr.add _ _).block ≠ _;rw [add_block];exact Nat.ne_of_lt (Nat.lt_of_lt_of_le (by have:=World.block_lt_of_cell? _ _ hw345_0;first | rwa [add_block] at this | exact this) GW347.out)) | (dsimp only;exact Nat.ne_of_lt (Nat.lt_of_lt_of_le (by have:=World.block_lt_of_cell? _ _ hw345_0;first | rwa [add_block] at this | exact this) GW347.out))) _).trans (((cell_far (p:=⟨gb347,_,none⟩) (by first | exact Nat.ne_of_lt (Nat.lt_of_lt_of_le (by have:=World.block_lt_of_cell? _ _ hw345_0;first | rwa [add_block] at this | exact this) GW347.out) | (rw [add_block];exact Nat.ne_of_lt (Nat.lt_of_lt_of_le (by have:=World.block_lt_of_cell? _ _ hw345_0;first | rwa [add_block] at this | exact this) GW347.out)) | (show (Addr.add _ _).block ≠ _;rw [add_block];exact Nat.ne_of_lt (Nat.lt_of_lt_of_le (by have:=World.block_lt_of_cell? _ _ hw345_0;first | rwa [add_block] at this | exact this) GW347.out)) | (dsimp only;exact Nat.ne_of_lt (Nat.lt_of_lt_of_le (by have:=World.block_lt_of_cell? _ _ hw345_0;first | rwa [add_block] at this | exact this) GW347.out))) _).trans (((cell_far (p:=⟨gb347,_,none⟩) (by first | exact Nat.ne_of_lt (Nat.lt_of_lt_of_le (by have:=World.block_lt_of_cell? _ _ hw345_0;first | rwa [add_block] at this | exact this) GW347.out) | (rw [add_block];exact Nat.ne_of_lt (Nat.lt_of_lt_of_le (by have:=World.block_lt_of_cell? _ _ hw345_0;first | rwa [add_block] at this | exact this) GW347.out)) | (show (Addr.add _ _).block ≠ _;rw [add_block];exact Nat.ne_of_lt (Nat.lt_of_lt_of_le (by have:=World.block_lt_of_cell? _ _ hw345_0;first | rwa [add_block] at this | exact this) GW347.out)) | (dsimp only;exact Nat.ne_of_lt (Nat.lt_of_lt_of_le (by have:=World.block_lt_of_cell? _ _ hw345_0;first | rwa [add_block] at this | exact this) GW347.out))) _).trans (hHeld.2.2.1)))))),((cell_far (p:=⟨gb347,_,none⟩) (by first | exact Nat.ne_of_lt (Nat.lt_of_lt_of_le (by have:=World.block_lt_of_cell? _ _ hw346_0;first | rwa [add_block] at this | exact this) GW347.out) | (rw [add_block];exact Nat.ne_of_lt (Nat.lt_of_lt_of_le (by have:=World.block_lt_of_cell? _ _ hw346_0;first | rwa [add_block] at this | exact this) GW347.out)) | (show (Addr.add _ _).block ≠ _;rw [add_block];exact Nat.ne_of_lt (Nat.lt_of_lt_of_le (by have:=World.block_lt_of_cell? _ _ hw346_0;first | rwa [add_block] at this | exact this) GW347.out)) | (dsimp only;exact Nat.ne_of_lt (Nat.lt_of_lt_of_le (by have:=World.block_lt_of_cell? _ _ hw346_0;first | rwa [add_block] at this | exact this) GW347.out))) _).trans (((cell_far (p:=⟨gb347,_,none⟩) (by first | exact Nat.ne_of_lt (Nat.lt_of_lt_of_le (by have:=World.block_lt_of_cell? _ _ hw346_0;first | rwa [add_block] at this | exact this) GW347.out) | (rw [add_block];exact Nat.ne_of_lt (Nat.lt_of_lt_of_le (by have:=World.block_lt_of_cell? _ _ hw346_0;first | rwa [add_block] at this | exact this) GW347.out)) | (show (Addr.add _ _).block ≠ _;rw [add_block];exact Nat.ne_of_lt (Nat.lt_of_lt_of_le (by have:=World.block_lt_of_cell? _ _ hw346_0;first | rwa [add_block] at this | exact this) GW347.out)) | (dsimp only;exact Nat.ne_of_lt (Nat.lt_of_lt_of_le (by have:=World.block_lt_of_cell? _ _ hw346_0;first | rwa [add_block] at this | exact this) GW347.out))) _).trans (((cell_far (p:=⟨gb347,_,none⟩) (by first | exact Nat.ne_of_lt (Nat.lt_of_lt_of_le (by have:=World.block_lt_of_cell? _ _ hw346_0;first | rwa [add_block] at this | exact this) GW347.out) | (rw [add_block];exact Nat.ne_of_lt (Nat.lt_of_lt_of_le (by have:=World.block_lt_of_cell? _ _ hw346_0;first | rwa [add_block] at this | exact this) GW347.out)) | (show (Addr.add _ _).block ≠ _;rw [add_block];exact Nat.ne_of_lt (Nat.lt_of_lt_of_le (by have:=World.block_lt_of_cell? _ _ hw346_0;first | rwa [add_block] at this | exact this) GW347.out)) | (dsimp only;exact Nat.ne_of_lt (Nat.lt_of_lt_of_le (by have:=World.block_lt_of_cell? _ _ hw346_0;first | rwa [add_block] at this | exact this) GW347.out))) _).trans (hHeld.2.2.2.1)))))),((cell_far (p:=⟨gb347,_,none⟩) (by first | exact Nat.ne_of_lt (Nat.lt_of_lt_of_le (by have:=World.block_lt_of_cell? _ _ hw346_1;first | rwa [add_block] at this | exact this) GW347.out) | (rw [add_block];exact Nat.ne_of_lt (Nat.lt_of_lt_of_le (by have:=World.block_lt_of_cell? _ _ hw346_1;first | rwa [add_block] at this | exact this) GW347.out)) | (show (Addr.add _ _).block ≠ _;rw [add_block];exact Nat.ne_of_lt (Nat.lt_of_lt_of_le (by have:=World.block_lt_of_cell? _ _ hw346_1;first | rwa [add_block] at this | exact this) GW347.out)) | (dsimp only;exact Nat.ne_of_lt (Nat.lt_of_lt_of_le (by have:=World.block_lt_of_cell? _ _ hw346_1;first | rwa [add_block] at this | exact this) GW347.out))) _).trans (((cell_far (p:=⟨gb347,_,none⟩) (by first | exact Nat.ne_of_lt (Nat.lt_of_lt_of_le (by have:=World.block_lt_of_cell? _ _ hw346_1;first | rwa [add_block] at this | exact this) GW347.out) | (rw [add_block];exact Nat.ne_of_lt (Nat.lt_of_lt_of_le (by have:=World.block_lt_of_cell? _ _ hw346_1;first | rwa [add_block] at this | exact this) GW347.out)) | (show (Addr.add _ _).block ≠ _;rw [add_block];exact Nat.ne_of_lt (Nat.lt_of_lt_of_le (by have:=World.block_lt_of_cell? _ _ hw346_1;first | rwa [add_block] at this | exact this) GW347.out)) | (dsimp only;exact Nat.ne_of_lt (Nat.lt_of_lt_of_le (by have:=World.block_lt_of_cell? _ _ hw346_1;first | rwa [add_block] at this | exact this) GW347.out))) _).trans (((cell_far (p:=⟨gb347,_,none⟩) (by first | exact Nat.ne_of_lt (Nat.lt_of_lt_of_le (by have:=World.block_lt_of_cell? _ _ hw346_1;first | rwa [add_block] at this | exact this) GW347.out) | (rw [add_block];exact Nat.ne_of_lt (Nat.lt_of_lt_of_le (by have:=World.block_lt_of_cell? _ _ hw346_1;first | rwa [add_block] at this | exact this) GW347.out)) | (show (Addr.add _ _).block ≠ _;rw [add_block];exact Nat.ne_of_lt (Nat.lt_of_lt_of_le (by have:=World.block_lt_of_cell? _ _ hw346_1;first | rwa [add_block] at this | exact this) GW347.out)) | (dsimp only;exact Nat.ne_of_lt (Nat.lt_of_lt_of_le (by have:=World.block_lt_of_cell? _ _ hw346_1;first | rwa [add_block] at this | exact this) GW347.out))) _).trans (hHeld.2.2.2.2.1)))))),((cell_far (p:=⟨gb347,_,none⟩) (by first | exact Nat.ne_of_lt (Nat.lt_of_lt_of_le (by have:=World.block_lt_of_cell? _ _ hw346_2;first | rwa [add_block] at this | exact this) GW347.out) | (rw [add_block];exact Nat.ne_of_lt (Nat.lt_of_lt_of_le (by have:=World.block_lt_of_cell? _ _ hw346_2;first | rwa [add_block] at this | exact this) GW347.out)) | (show (Addr.add _ _).block ≠ _;rw [add_block];exact Nat.ne_of_lt (Nat.lt_of_lt_of_le (by have:=World.block_lt_of_cell? _ _ hw346_2;first | rwa [add_block] at this | exact this) GW347.out)) | (dsimp only;exact Nat.ne_of_lt (Nat.lt_of_lt_of_le (by have:=World.block_lt_of_cell? _ _ hw346_2;first | rwa [add_block] at this | exact this) GW347.out))) _).trans (((cell_far (p:=⟨gb347,_,none⟩) (by first | exact Nat.ne_of_lt (Nat.lt_of_lt_of_le (by have:=World.block_lt_of_cell? _ _ hw346_2;first | rwa [add_block] at this | exact this) GW347.out) | (rw [add_block];exact Nat.ne_of_lt (Nat.lt_of_lt_of_le (by have:=World.block_lt_of_cell? _ _ hw346_2;first | rwa [add_block] at this | exact this) GW347.out)) | (show (Addr.add _ _).block ≠ _;rw [add_block];exact Nat.ne_of_lt (Nat.lt_of_lt_of_le (by have:=World.block_lt_of_cell? _ _ hw346_2;first | rwa [add_block] at this | exact this) GW347.out)) | (dsimp only;exact Nat.ne_of_lt (Nat.lt_of_lt_of_le (by have:=World.block_lt_of_cell? _ _ hw346_2;first | rwa [add_block] at this | exact this) GW347.out))) _).trans (((cell_far (p:=⟨gb347,_,none⟩) (by first | exact Nat.ne_of_lt (Nat.lt_of_lt_of_le (by have:=World.block_lt_of_cell? _ _ hw346_2;first | rwa [add_block] at this | exact this) GW347.out) | (rw [add_block];exact Nat.ne_of_lt (Nat.lt_of_lt_of_le (by have:=World.block_lt_of_cell? _ _ hw346_2;first | rwa [add_block] at this | exact this) GW347.out)) | (show (Addr.add _ _).block ≠ _;rw [add_block];exact Nat.ne_of_lt (Nat.lt_of_lt_of_le (by have:=World.block_lt_of_cell? _ _ hw346_2;first | rwa [add_block] at this | exact this) GW347.out)) | (dsimp only;exact Nat.ne_of_lt (Nat.lt_of_lt_of_le (by have:=World.block_lt_of_cell? _ _ hw346_2;first | rwa [add_block] at this | exact this) GW347.out))) _).trans (hHeld.2.2.2.2.2))))))⟩ (fun hHeld=>?_)
    clear hK K
    refine done_ (done_of HT_.out (by kernel_rfl)) ?_
    have hnb23:=NB347_344.out
    have hnc23:=NB344_347.out
    obtain ⟨hcz24_0,hcz24_1,hcz24_2⟩:=cO3 BK347.out
    have hfz24_0:=blk_frozen BK347.out 0
    have hfz24_1:=blk_frozen BK347.out 1
    have hfz24_2:=blk_frozen BK347.out 2
    try go_wp2
    go_roundg k1
    case measure=>have:=HK1.out;omega
    case rel=>exact ⟨(wrap64 ((wrap64 (x9_1 + ((rd_T37 l0_0 (rd l2 x10_1)).f1))) - ((rd_T37 l0_0 (rd l2 x10_1)).f0.f0))),(wrap64 (x10_1 + 1)),(by first | rfl | (simp;done) | (simp [*];done)),(by first | rfl | (simp;done) | (simp [*];done)),H',⟨by have:=HK1.out;omega⟩,⟨by (with_reducible repeat (first | refine blk_drewN ?_ _ | refine blk_drew ?_ | refine blk_alloc ?_ _));refine blk_far ?_ NB344_347.out _;(with_reducible repeat (first | refine blk_drewN ?_ _ | refine blk_drew ?_ | refine blk_alloc ?_ _));refine blk_far ?_ NB344_347.out _;(with_reducible repeat (first | refine blk_drewN ?_ _ | refine blk_drew ?_ | refine blk_alloc ?_ _));refine blk_far ?_ NB344_347.out _;(with_reducible repeat (first | refine blk_drewN ?_ _ | refine blk_drew ?_ | refine blk_alloc ?_ _));exact BK344.out⟩,⟨by repeat (first | (with_reducible first | exact HB.out | refine below_set ?_ (Aside0.out (by assumption)) | apply below_alloc | apply pw_below_drewN) | exact HB.out)⟩⟩
section
variable {pts : List Pt} {ch : List Ch}
theorem gatesFrom_len : ∀ (i j : Int) (l : List Ch),(gatesFrom i l).length = (gatesFrom j l).length
 | _,_,[]=>rfl
 | i,j,c :: l=>by
  unfold gatesFrom
  split
  ·simp only [List.length_cons];rw [gatesFrom_len (i + 1) (j + 1) l]
  ·exact gatesFrom_len (i + 1) (j + 1) l
def finS (pts : List Pt) (ch : List Ch) (g : Nat) : Bool:=decide (1≤pts.length∧pts.length≤7) && (decide (ch.length≤10) && decide (g≤7))
theorem rNet_l1 (hp : pts.length≤1000) (hc : ch.length≤1000) : ∀ (rest : List Ch) (k i g : Nat),ch.drop i = rest→g≤i→2 * rest.length < k→
 q8_Net.l1 k (g : Int) (i : Int) pts ch = some (rest.all (chS pts.length) && finS pts ch (g + (gatesFrom 0 rest).length))
 | _,0,_,_,_,_,hk=>by omega
 | [],k + 1,i,g,hd,_,_=>by
  have : ch.length≤i:=by have:=congrArg List.length hd;simp at this;omega
  unfold q8_Net.l1
  rw [if_neg (by omega),rin_eq,show g + (gatesFrom 0 ([] : List Ch)).length = g from rfl,List.all_nil,Bool.true_and]
  unfold finS
  simp only [Option.bind_some]
  by_cases h1 : 1≤pts.length∧pts.length≤7
  ·rw [decide_eq_true h1,decide_eq_true (show (1 : Int)≤(pts.length : Int)∧(pts.length : Int)≤7 by omega),if_pos rfl]
   by_cases h2 : ch.length≤10
   ·rw [decide_eq_true h2,if_pos (by omega)];simp only [Bool.true_and];congr 1;exact Bool.eq_iff_iff.2 (by simp only [decide_eq_true_eq];omega)
   ·rw [decide_eq_false h2,if_neg (by omega)];simp
  ·rw [decide_eq_false h1,decide_eq_false (show ¬ ((1 : Int)≤(pts.length : Int)∧(pts.length : Int)≤7) by omega)];simp
 | x :: rest,k + 1,i,g,hd,hg,hk=>by
  obtain ⟨hd2,hlt⟩:=drop_succ hd
  obtain ⟨k,rfl⟩ : ∃ k',k = k' + 1:=⟨k - 1,by simp at hk;omega⟩
  have ih:=fun g h=>rNet_l1 hp hc rest k (i + 1) g hd2 h (by simp at hk;omega)
  unfold q8_Net.l1
  rw [if_pos (by omega),if_pos (by omega),rdT_nat ch i x rest hd]
  have hj : ∀ b : Bool,q8_Net.j2 (k + 1) (g : Int) (i : Int) b pts ch x.f0 x.f1 x.f2 x.f3 = some (!b && (rest.all (chS pts.length) && finS pts ch (g + (gatesFrom 0 (x :: rest)).length))):=by
   intro b
   unfold q8_Net.j2
   cases b with
   | true=>rfl
   | false =>
    rw [if_neg (by decide),wr (x:=(g : Int) + 1) (by omega) (by omega),wr (x:=(i : Int) + 1) (by omega) (by omega),show (i : Int) + 1 = ((i + 1 : Nat) : Int) from rfl,show (g : Int) + 1 = ((g + 1 : Nat) : Int) from rfl]
    unfold gatesFrom
    by_cases hx : x.f3 = true
    ·rw [if_pos hx,if_pos hx,ih _ (by omega),List.length_cons,gatesFrom_len (0 + 1) 0,show g + 1 + (gatesFrom 0 rest).length = g + ((gatesFrom 0 rest).length + 1) by omega];rfl
    ·rw [if_neg hx,if_neg hx,ih _ (by omega),gatesFrom_len (0 + 1) 0];rfl
  simp only [rPoint_eq hp,rcups_eq,Option.bind_some,hj,List.all_cons]
  unfold chS
  cases isPtS pts.length x.f0<;>cases isPtS pts.length x.f1<;>simp
  by_cases h : x.f0 = x.f1
  ·rw [if_pos h];simp [h]
  ·rw [if_neg h];simp [h,Bool.and_assoc]
theorem rNet_l0 (hp : pts.length≤1000) (hc : ch.length≤1000) : ∀ (rest : List Pt) (k i : Nat),pts.drop i = rest→rest.length + 2 * ch.length + 1 < k→
 q8_Net.l0 k (i : Int) pts ch = some (rest.all ptS && (ch.all (chS pts.length) && finS pts ch (gatesL ch).length))
 | _,0,_,_,hk=>by omega
 | [],k + 1,i,hd,hk=>by
  have : pts.length≤i:=by have:=congrArg List.length hd;simp at this;omega
  unfold q8_Net.l0
  rw [if_neg (by omega)]
  have:=rNet_l1 hp hc ch k 0 0 rfl (Nat.le_refl _) (by simp at hk;omega)
  rw [Nat.zero_add] at this
  rw [List.all_nil,Bool.true_and]
  exact this
 | x :: rest,k + 1,i,hd,hk=>by
  obtain ⟨hd2,hlt⟩:=drop_succ hd
  have ih:=rNet_l0 hp hc rest k (i + 1) hd2 (by simp at hk;omega)
  unfold q8_Net.l0
  rw [if_pos (by omega),if_pos (by omega),rdP_nat pts i x rest hd,wr (by omega) (by omega),show (i : Int) + 1 = ((i + 1 : Nat) : Int) from rfl,ih]
  simp only [rcups_eq,Option.bind_some,List.all_cons]
  unfold ptS
  cases cupS x.f0.f0<;>cases cupS x.f0.f1<;>simp
  by_cases h : x.f0.f1 < x.f0.f0
  ·rw [if_pos h,decide_eq_false (by omega)];simp
  ·rw [if_neg h,decide_eq_true (show x.f0.f0≤x.f0.f1 by omega)];cases cupS x.f1<;>simp
theorem rNet_eq (hp : pts.length≤1000) (hc : ch.length≤1000) {k : Nat} (hk : pts.length + 2 * ch.length + 1 < k) : q8_Net.f k pts ch = some (netS pts ch):=by
 have:=rNet_l0 hp hc pts k 0 rfl hk
 unfold q8_Net.f
 rw [show (0 : Int) = ((0 : Nat) : Int) from rfl,this]
 unfold netS finS
 cases decide (1≤pts.length∧pts.length≤7)<;>cases decide (ch.length≤10)<;>cases pts.all ptS<;>cases ch.all (chS pts.length)<;>rfl
theorem index_go (l : List Int) (hl : l.length≤1000) (a : Int) : ∀ (d k i : Nat),i + d = l.length→d < k→∃ r,sl_Index_int_int.l0 k l a (l.length : Int) (i : Int) = some r∧(0≤r↔a ∈ l.drop i)
 | _,0,_,_,hk=>by omega
 | 0,k + 1,i,hi,_=>by
  refine ⟨-1,?_,?_⟩
  ·unfold sl_Index_int_int.l0;rw [if_neg (by omega)]
  ·rw [List.drop_of_length_le (by omega)];simp
 | d + 1,k + 1,i,hi,hk=>by
  obtain ⟨r,h1,h2⟩:=index_go l hl a d k (i + 1) (by omega) (by omega)
  have hd : l.drop i = l.getD i 0 :: l.drop (i + 1):=by rw [List.drop_eq_getElem_cons (show i < l.length by omega),List.getD_eq_getElem?_getD,List.getElem?_eq_getElem (show i < l.length by omega)];rfl
  unfold sl_Index_int_int.l0
  rw [if_pos (by omega),if_pos (by omega),if_pos (by omega),rd_nat,wr (by omega) (by omega),show (i : Int) + 1 = ((i + 1 : Nat) : Int) from rfl,h1]
  by_cases h : a = l.getD i 0
  ·rw [if_pos h];exact ⟨i,rfl,by rw [hd,h];simp⟩
  ·rw [if_neg h];exact ⟨r,rfl,by rw [hd,List.mem_cons,h2];exact ⟨.inr,fun e=>e.elim (fun e=>absurd e h) id⟩⟩
theorem contains_eq {l : List Int} (hl : l.length≤1000) (a : Int) {k : Nat} (hk : l.length < k) : sl_Contains_int_int.f k l a = some (decide (a ∈ l)):=by
 obtain ⟨r,h1,h2⟩:=index_go l hl a l.length k 0 (by omega) hk
 unfold sl_Contains_int_int.f sl_Index_int_int.f
 rw [show (0 : Int) = ((0 : Nat) : Int) from rfl,h1]
 simp only [Option.bind_some]
 congr 1;rw [decide_eq_decide];rw [List.drop_zero] at h2;exact h2
theorem listed_go (l : List Int) (hl : l.length≤1000) (a : Int) : ∀ (d k i : Nat),i + d = l.length→d < k→q8_Listed.l0 k l a (i : Int) = some (decide (a ∈ l.drop i))
 | _,0,_,_,hk=>by omega
 | 0,k + 1,i,hi,_=>by
  unfold q8_Listed.l0;rw [if_neg (by omega),List.drop_of_length_le (by omega)];simp
 | d + 1,k + 1,i,hi,hk=>by
  have h1:=listed_go l hl a d k (i + 1) (by omega) (by omega)
  have hd : l.drop i = l.getD i 0 :: l.drop (i + 1):=by rw [List.drop_eq_getElem_cons (show i < l.length by omega),List.getD_eq_getElem?_getD,List.getElem?_eq_getElem (show i < l.length by omega)];rfl
  unfold q8_Listed.l0
  rw [if_pos (by omega),if_pos (by omega),rd_nat,wr (by omega) (by omega),show (i : Int) + 1 = ((i + 1 : Nat) : Int) from rfl,h1]
  by_cases h : l.getD i 0 = a
  ·rw [if_pos h,hd,h,decide_eq_true (List.mem_cons_self)]
  ·rw [if_neg h,hd];simp only [List.mem_cons];congr 1;rw [decide_eq_decide];constructor
   ·exact .inr
   ·rintro (e | e)
    ·exact absurd e.symm h
    ·exact e
theorem listed_eq {l : List Int} (hl : l.length≤1000) (a : Int) {k : Nat} (hk : l.length < k) : q8_Listed.f k l a = some (decide (a ∈ l)):=listed_go l hl a l.length k 0 (by omega) hk
def openC (op : List Int) (x : Ch) (c : Int) : Bool:=!x.f3 || decide (c ∈ op)
theorem carries_eq {op : List Int} (ho : op.length≤1000) {k : Nat} (hk : op.length < k) {i : Nat} {x : Ch} {rest : List Ch} (hd : ch.drop i = x :: rest) : gs_carries.f k pts ch op (i : Int) = some (if openC op x (i : Int) = true then x.f2 else 0):=by
 obtain ⟨_,hlt⟩:=drop_succ hd
 unfold gs_carries.f openC
 rw [if_pos (by omega),if_pos (by omega),rdT_nat ch i x rest hd,contains_eq ho _ hk]
 simp only [Option.bind_some]
 cases x.f3 with
 | false=>rw [if_neg (by decide)];rfl
 | true =>
  rw [if_pos rfl]
  by_cases h : (i : Int) ∈ op
  ·rw [decide_eq_true h];rfl
  ·rw [decide_eq_false h];rfl
theorem open_eq {op : List Int} (ho : op.length≤1000) {k : Nat} (hk : op.length < k) {i : Nat} {x : Ch} {rest : List Ch} (hd : ch.drop i = x :: rest) : q8_Open.f k pts ch op (i : Int) = some (openC op x (i : Int)):=by
 obtain ⟨_,hlt⟩:=drop_succ hd
 unfold q8_Open.f openC
 rw [if_pos (by omega),if_pos (by omega),rdT_nat ch i x rest hd,listed_eq ho _ hk]
 simp only [Option.bind_some]
 cases x.f3<;>rfl
def lackP (hi : Bool) (p : Pt) : Int:=p.f1 - (if hi = true then p.f0.f1 else p.f0.f0)
def brings (op S : List Int) : Int→List Ch→Int
 | _,[]=>0
 | c,x :: xs=>(if openC op x c = true∧x.f1 ∈ S∧x.f0 ∉ S then x.f2 else 0) + brings op S (c + 1) xs
def shortS (pts : List Pt) (ch : List Ch) (op S : List Int) (hi : Bool) : Int:=(S.map fun p=>lackP hi (rd_T37 pts p)).sum - brings op S 0 ch
def okPts (n : Nat) (S : List Int) : Prop:=S.length≤10∧∀ p ∈ S,0≤p∧p < (n : Int)
theorem pt_in (h : pts.all ptS = true) {p : Int} (h0 : 0≤p) (h1 : p < (pts.length : Int)) : ptS (rd_T37 pts p) = true:=by
 rw [List.all_eq_true] at h
 refine h _ ?_
 show pts.getD p.toNat _ ∈ pts
 rw [List.getD_eq_getElem?_getD,List.getElem?_eq_getElem (show p.toNat < pts.length by omega)]
 simp
theorem ptS_iff {p : Pt} : ptS p = true↔(0≤p.f0.f0∧p.f0.f0≤10000)∧(0≤p.f0.f1∧p.f0.f1≤10000)∧p.f0.f0≤p.f0.f1∧0≤p.f1∧p.f1≤10000:=by
 unfold ptS cupS
 simp only [Bool.and_eq_true,decide_eq_true_eq]
theorem lack_bd (h : pts.all ptS = true) (hi : Bool) {p : Int} (h0 : 0≤p) (h1 : p < (pts.length : Int)) : -10000≤lackP hi (rd_T37 pts p)∧lackP hi (rd_T37 pts p)≤10000:=by
 have:=ptS_iff.1 (pt_in h h0 h1)
 unfold lackP
 cases hi<;>simp<;>omega
theorem short1_eq (h : pts.all ptS = true) (hi : Bool) : ∀ (S acc : List Int),(∀ p ∈ S,0≤p∧p < (pts.length : Int))→acc.length + 2 * S.length≤1000→
 ∃ l,short1 pts hi S acc = some (acc ++ l)∧l.length = 2 * S.length∧(∀ x ∈ l,-10000≤x∧x≤10000)∧l.sum = (S.map fun p=>lackP hi (rd_T37 pts p)).sum
 | [],acc,_,_=>⟨[],by simp [short1],rfl,by simp,rfl⟩
 | p :: S,acc,hS,hl=>by
  obtain ⟨p0,p1⟩:=hS p List.mem_cons_self
  have hpt:=ptS_iff.1 (pt_in h p0 p1)
  simp only [List.length_cons] at hl
  generalize hq : rd_T37 pts p = q at hpt
  obtain ⟨l,h1,h2,h3,h4⟩:=short1_eq h hi S (acc ++ [q.f1,-(if hi = true then q.f0.f1 else q.f0.f0)]) (fun z hz=>hS z (List.mem_cons_of_mem _ hz)) (by simp;omega)
  refine ⟨[q.f1,-(if hi = true then q.f0.f1 else q.f0.f0)] ++ l,?_,by simp [h2];omega,?_,?_⟩
  ·unfold short1
   rw [if_pos p0,if_pos p1,if_pos (by omega),hq,wr (by cases hi<;>simp<;>omega) (by cases hi<;>simp<;>omega),h1,List.append_assoc]
  ·intro x hx
   rcases List.mem_append.1 hx with hx | hx
   ·simp only [List.mem_cons,List.not_mem_nil,or_false] at hx
    rcases hx with rfl | rfl
    ·omega
    ·cases hi<;>simp<;>omega
   ·exact h3 x hx
  ·rw [List.sum_append,h4,List.map_cons,List.sum_cons,hq]
   unfold lackP
   simp;omega
theorem chS_iff {n : Nat} {c : Ch} : chS n c = true↔(0≤c.f0∧c.f0 < (n : Int))∧(0≤c.f1∧c.f1 < (n : Int))∧c.f0 ≠ c.f1∧0≤c.f2∧c.f2≤10000:=by
 unfold chS cupS isPtS
 simp only [Bool.and_eq_true,decide_eq_true_eq]
theorem short2_eq {op S : List Int} (ho : op.length≤1000) (hS : S.length≤1000) {k : Nat} (hk : op.length < k) (hk2 : S.length < k) : ∀ (rest : List Ch) (i : Nat) (acc : List Int),ch.drop i = rest→(∀ c ∈ rest,0≤c.f2∧c.f2≤10000)→acc.length + rest.length≤1000→
 ∃ l,short2 k pts ch op S rest (i : Int) acc = some (acc ++ l)∧l.length≤rest.length∧(∀ x ∈ l,-10000≤x∧x≤10000)∧l.sum = -brings op S (i : Int) rest
 | [],i,acc,_,_,_=>⟨[],by simp [short2],Nat.le_refl _,by simp,by simp [brings]⟩
 | x :: rest,i,acc,hd,hc,hl=>by
  obtain ⟨hd2,hlt⟩:=drop_succ hd
  have hx:=hc x List.mem_cons_self
  have ih:=fun acc h=>short2_eq ho hS hk hk2 rest (i + 1) acc hd2 (fun z hz=>hc z (List.mem_cons_of_mem _ hz)) h
  unfold short2 brings
  rw [contains_eq hS _ hk2,contains_eq hS _ hk2,carries_eq ho hk hd]
  simp only [Option.bind_some,decide_eq_true_eq]
  rw [show (i : Int) + 1 = ((i + 1 : Nat) : Int) from rfl]
  by_cases h1 : x.f1 ∈ S
  ·rw [if_pos h1]
   by_cases h2 : x.f0 ∈ S
   ·rw [if_pos h2,if_neg (fun e=>e.2.2 h2)]
    obtain ⟨l,a1,a2,a3,a4⟩:=ih acc (by simp at hl;omega)
    exact ⟨l,a1,by simp;omega,a3,by rw [a4];omega⟩
   ·rw [if_neg h2,if_pos (by simp at hl;omega)]
    obtain ⟨l,a1,a2,a3,a4⟩:=ih (acc ++ [wrap64 (-(if openC op x (i : Int) = true then x.f2 else 0))]) (by simp at hl ⊢;omega)
    by_cases h3 : openC op x (i : Int) = true
    ·simp only [h3,h1,h2,if_true,not_false_eq_true,and_self] at a1 ⊢
     rw [wr (x:=-x.f2) (by omega) (by omega)] at a1 ⊢
     refine ⟨-x.f2 :: l,by rw [a1];simp,by simp;omega,?_,by rw [List.sum_cons,a4];omega⟩
     intro y hy
     rcases List.mem_cons.1 hy with rfl | hy
     ·omega
     ·exact a3 y hy
    ·simp only [h3,false_and,if_false,Bool.false_eq_true] at a1 ⊢
     rw [wr (x:=-0) (by omega) (by omega)] at a1 ⊢
     refine ⟨-0 :: l,by rw [a1];simp,by simp;omega,?_,by rw [List.sum_cons,a4];omega⟩
     intro y hy
     rcases List.mem_cons.1 hy with rfl | hy
     ·omega
     ·exact a3 y hy
  ·rw [if_neg h1,if_neg (fun e=>h1 e.2.1)]
   obtain ⟨l,a1,a2,a3,a4⟩:=ih acc (by simp at hl;omega)
   exact ⟨l,a1,by simp;omega,a3,by rw [a4];omega⟩
theorem sum_go (l : List Int) (hl : l.length≤1000) (hb : ∀ x ∈ l,-10000≤x∧x≤10000) : ∀ (rest : List Int) (k i : Nat) (acc : Int),l.drop i = rest→-10000 * (i : Int)≤acc→acc≤10000 * (i : Int)→rest.length < k→
 ga_sum.l0 k acc l (l.length : Int) (i : Int) = some (acc + rest.sum)
 | _,0,_,_,_,_,_,hk=>by omega
 | [],k + 1,i,acc,hd,_,_,_=>by
  have : l.length≤i:=by have:=congrArg List.length hd;simp at this;omega
  unfold ga_sum.l0
  rw [if_neg (by omega)];simp
 | x :: rest,k + 1,i,acc,hd,h0,h1,hk=>by
  obtain ⟨hd2,hlt⟩:=drop_succ hd
  have hx : l.getD i 0 = x:=by
   have:=congrArg (fun z=>z[0]?) hd
   rw [List.getD_eq_getElem?_getD,show l[i]? = some x by simpa using this];rfl
  have hxb:=hb x (by
   have : x ∈ l.drop i:=by rw [hd];exact List.mem_cons_self
   exact List.mem_of_mem_drop this)
  have ih:=sum_go l hl hb rest k (i + 1) (acc + x) hd2 (by omega) (by omega) (by simp at hk;omega)
  unfold ga_sum.l0
  rw [if_pos (by omega),if_pos (by omega),if_pos (by omega),rd_nat,hx,wr (x:=acc + x) (by omega) (by omega),wr (x:=(i : Int) + 1) (by omega) (by omega),show (i : Int) + 1 = ((i + 1 : Nat) : Int) from rfl,ih,List.sum_cons]
  congr 1;omega
theorem sum_eq {l : List Int} (hl : l.length≤1000) (hb : ∀ x ∈ l,-10000≤x∧x≤10000) {k : Nat} (hk : l.length < k) : ga_sum.f k l = some l.sum:=by
 have:=sum_go l hl hb l k 0 0 rfl (by omega) (by omega) hk
 rw [Int.zero_add] at this
 exact this
theorem cSort_eq (hpt : pts.all ptS = true) (hch : ch.all (chS pts.length) = true) (hc : ch.length≤20) {op S : List Int} (ho : op.length≤1000) (hS : okPts pts.length S) (hi : Bool) {k : Nat} (hk : op.length < k) (hk2 : 100≤k) : gs_short.f k pts ch op S hi = some (shortS pts ch op S hi):=by
 obtain ⟨l,a1,a2,a3,a4⟩:=short1_eq hpt hi S [] hS.2 (by have:=hS.1;simp;omega)
 obtain ⟨m,b1,b2,b3,b4⟩:=short2_eq (pts:=pts) (ch:=ch) ho (show S.length≤1000 by have:=hS.1;omega) hk (show S.length < k by have:=hS.1;omega) ch 0 ([] ++ l) rfl (fun c hcm=>(chS_iff.1 (List.all_eq_true.1 hch c hcm)).2.2.2) (by have:=hS.1;simp;omega)
 unfold gs_short.f
 rw [a1]
 simp only [Option.bind_some]
 rw [show (0 : Int) = ((0 : Nat) : Int) from rfl,b1]
 simp only [Option.bind_some,List.nil_append]
 rw [sum_eq (by have:=hS.1;simp;omega) ?_ (by have:=hS.1;simp;omega),List.sum_append,a4,b4]
 ·rfl
 ·intro x hx
  rcases List.mem_append.1 hx with hx | hx
  ·exact a3 x hx
  ·exact b3 x hx
end
set_option linter.unusedSimpArgs false
set_option linter.unusedSimpArgs false
set_option linter.unusedSimpArgs false
set_option linter.unusedSimpArgs false
section
variable {pts : List Pt} {ch : List Ch}
theorem rShort_l1 {op S : List Int} (ho : op.length≤1000) (hS : S.length≤1000) (hc : ch.length≤1000) : ∀ (rest : List Ch) (k i : Nat) (acc : Int),ch.drop i = rest→(∀ c ∈ rest,0≤c.f2∧c.f2≤10000)→-10000000 + 10000 * (rest.length : Int)≤acc→acc≤10000000→rest.length + op.length + S.length < k→
 q8_Short.l1 k op S acc (i : Int) pts ch = some (acc - brings op S (i : Int) rest)
 | _,0,_,_,_,_,_,_,hk=>by omega
 | [],k + 1,i,acc,hd,_,_,_,_=>by
  have : ch.length≤i:=by have:=congrArg List.length hd;simp at this;omega
  unfold q8_Short.l1
  rw [if_neg (by omega)];simp [brings]
 | x :: rest,k + 1,i,acc,hd,hcs,h0,h1,hk=>by
  obtain ⟨hd2,hlt⟩:=drop_succ hd
  have hx:=hcs x List.mem_cons_self
  simp only [List.length_cons] at h0 hk
  have ih:=fun acc a b=>rShort_l1 ho hS hc rest k (i + 1) acc hd2 (fun z hz=>hcs z (List.mem_cons_of_mem _ hz)) a b (by omega)
  unfold q8_Short.l1 brings
  rw [if_pos (by omega),if_pos (by omega),open_eq ho (by omega) hd,rdT_nat ch i x rest hd,listed_eq hS _ (by omega),listed_eq hS _ (by omega),wr (x:=(i : Int) + 1) (by omega) (by omega),show (i : Int) + 1 = ((i + 1 : Nat) : Int) from rfl]
  simp only [Option.bind_some,decide_eq_true_eq]
  by_cases h3 : openC op x (i : Int) = true
  ·rw [if_pos h3]
   by_cases h4 : x.f1 ∈ S
   ·rw [if_pos h4]
    by_cases h5 : x.f0 ∈ S
    ·rw [if_pos h5,if_neg (fun e=>e.2.2 h5),ih _ (by omega) (by omega)];congr 1;omega
    ·rw [if_neg h5,if_pos ⟨h3,h4,h5⟩,wr (by omega) (by omega),ih _ (by omega) (by omega)];congr 1;omega
   ·rw [if_neg h4,if_neg (fun e=>h4 e.2.1),ih _ (by omega) (by omega)];congr 1;omega
  ·rw [if_neg h3,if_neg (fun e=>h3 e.1),ih _ (by omega) (by omega)];congr 1;omega
theorem getD_of_drop {l : List Int} {i : Nat} {x : Int} {rest : List Int} (hd : l.drop i = x :: rest) : rd l (i : Int) = x:=by
 have:=congrArg (fun z=>z[0]?) hd
 show l.getD i 0 = x
 rw [List.getD_eq_getElem?_getD,show l[i]? = some x by simpa using this];rfl
theorem rShort_l0 (hpt : pts.all ptS = true) (hch : ch.all (chS pts.length) = true) {op S : List Int} (ho : op.length≤1000) (hS : S.length≤1000) (hc : ch.length≤20) (hi : Bool) : ∀ (rest : List Int) (k i : Nat) (acc : Int),S.drop i = rest→(∀ p ∈ rest,0≤p∧p < (pts.length : Int))→-5000000 + 10000 * (rest.length : Int)≤acc→acc + 10000 * (rest.length : Int)≤5000000→rest.length + ch.length + op.length + S.length + 1 < k→
 q8_Short.l0 k op S hi acc (i : Int) pts ch = some (acc + (rest.map fun p=>lackP hi (rd_T37 pts p)).sum - brings op S 0 ch)
 | _,0,_,_,_,_,_,_,hk=>by omega
 | [],k + 1,i,acc,hd,_,h0,h1,hk=>by
  have : S.length≤i:=by have:=congrArg List.length hd;simp at this;omega
  unfold q8_Short.l0
  simp only [List.length_nil] at h0 h1 hk
  rw [if_neg (by omega),show (0 : Int) = ((0 : Nat) : Int) from rfl,rShort_l1 ho hS (show ch.length≤1000 by omega) ch k 0 acc rfl (fun c hcm=>(chS_iff.1 (List.all_eq_true.1 hch c hcm)).2.2.2) (by omega) (by omega) (by omega)]
  simp
 | x :: rest,k + 1,i,acc,hd,hps,h0,h1,hk=>by
  obtain ⟨hd2,hlt⟩:=drop_succ hd
  obtain ⟨p0,p1⟩:=hps x List.mem_cons_self
  have hb:=lack_bd hpt hi p0 p1
  have hpp:=ptS_iff.1 (pt_in hpt p0 p1)
  simp only [List.length_cons] at h0 h1 hk
  have ih:=fun acc a b=>rShort_l0 hpt hch ho hS hc hi rest k (i + 1) acc hd2 (fun z hz=>hps z (List.mem_cons_of_mem _ hz)) a b (by omega)
  unfold q8_Short.l0
  rw [if_pos (by omega),if_pos (by omega),getD_of_drop hd,if_pos p0,if_pos p1,wr (x:=(i : Int) + 1) (by omega) (by omega),show (i : Int) + 1 = ((i + 1 : Nat) : Int) from rfl,List.map_cons,List.sum_cons]
  generalize rd_T37 pts x = q at hb hpp ⊢
  cases hi with
  | true =>
   rw [show lackP true q = q.f1 - q.f0.f1 from rfl] at hb ⊢
   simp only [if_true]
   rw [wr (x:=acc + q.f1) (by omega) (by omega),wr (x:=acc + q.f1 - q.f0.f0) (by omega) (by omega),wr (x:=q.f0.f1 - q.f0.f0) (by omega) (by omega),wr (by omega) (by omega),ih _ (by omega) (by omega)]
   congr 1;omega
  | false =>
   rw [show lackP false q = q.f1 - q.f0.f0 from rfl] at hb ⊢
   simp only [Bool.false_eq_true,if_false]
   rw [wr (x:=acc + q.f1) (by omega) (by omega),wr (by omega) (by omega),ih _ (by omega) (by omega)]
   congr 1;omega
theorem rShort_eq (hpt : pts.all ptS = true) (hch : ch.all (chS pts.length) = true) (hc : ch.length≤20) {op S : List Int} (ho : op.length≤20) (hS : okPts pts.length S) (hi : Bool) {k : Nat} (hk : 100≤k) : q8_Short.f k pts ch op S hi = some (shortS pts ch op S hi):=by
 have:=rShort_l0 hpt hch (show op.length≤1000 by omega) (show S.length≤1000 by have:=hS.1;omega) hc hi S k 0 0 rfl hS.2 (by have:=hS.1;omega) (by have:=hS.1;omega) (by have:=hS.1;omega)
 rw [Int.zero_add] at this
 exact this
theorem partsOf_now : ∀ (rest now : List Int) (m : Nat),partsOf rest now m = (partsOf rest [] m).map (now ++ ·)
 | [],now,0=>by simp [partsOf]
 | _ :: _,now,0=>by simp [partsOf]
 | [],now,m + 1=>by simp [partsOf]
 | x :: rest,now,m + 1=>by
  unfold partsOf
  rw [partsOf_now rest (now ++ [x]) m,partsOf_now rest now (m + 1),partsOf_now rest ([] ++ [x]) m,List.map_append,List.map_map]
  congr 1
  refine List.map_congr_left fun l _=>?_
  simp
theorem partsOf_mem : ∀ (rest now : List Int) (m : Nat) (l : List Int),l ∈ partsOf rest now m→∃ s,l = now ++ s∧s.length = m∧∀ z ∈ s,z ∈ rest
 | [],now,0,l,h=>by simp only [partsOf,List.mem_singleton] at h;exact ⟨[],by simp [h],rfl,by simp⟩
 | _ :: _,now,0,l,h=>by simp only [partsOf,List.mem_singleton] at h;exact ⟨[],by simp [h],rfl,by simp⟩
 | [],now,m + 1,l,h=>by simp [partsOf] at h
 | x :: rest,now,m + 1,l,h=>by
  unfold partsOf at h
  rcases List.mem_append.1 h with h | h
  ·obtain ⟨s,h1,h2,h3⟩:=partsOf_mem rest (now ++ [x]) m l h
   refine ⟨x :: s,by rw [h1];simp,by simp [h2],fun z hz=>?_⟩
   rcases List.mem_cons.1 hz with rfl | hz
   ·exact List.mem_cons_self
   ·exact List.mem_cons_of_mem _ (h3 z hz)
  ·obtain ⟨s,h1,h2,h3⟩:=partsOf_mem rest now (m + 1) l h
   exact ⟨s,h1,h2,fun z hz=>List.mem_cons_of_mem _ (h3 z hz)⟩
end
section
variable {pts : List Pt} {ch : List Ch}
def numsL (n : Nat) : List Int:=(List.range n).map Int.ofNat
theorem numsL_succ (n : Nat) : numsL (n + 1) = numsL n ++ [(n : Int)]:=by unfold numsL;rw [List.range_succ,List.map_append];rfl
theorem numsL_len (n : Nat) : (numsL n).length = n:=by simp [numsL]
theorem numsL_mem {n : Nat} {x : Int} : x ∈ numsL n↔0≤x∧x < (n : Int):=by
 unfold numsL
 rw [List.mem_map]
 constructor
 ·rintro ⟨a,h,rfl⟩;have:=List.mem_range.1 h;simp;omega
 ·rintro ⟨h0,h1⟩;exact ⟨x.toNat,List.mem_range.2 (by omega),by simp;omega⟩
theorem points_go {n : Nat} (hn : n≤1000) : ∀ (d k i : Nat),i + d = n→d < k→ga_points.l0 k (numsL i) (n : Int) (i : Int) = some (numsL n)
 | _,0,_,_,hk=>by omega
 | 0,k + 1,i,hi,_=>by
  unfold ga_points.l0
  rw [if_neg (by omega),show i = n by omega]
 | d + 1,k + 1,i,hi,hk=>by
  have ih:=points_go hn d k (i + 1) (by omega) (by omega)
  unfold ga_points.l0
  rw [if_pos (by omega),if_pos (by rw [numsL_len];omega),wr (by omega) (by omega),show (i : Int) + 1 = ((i + 1 : Nat) : Int) from rfl,← numsL_succ]
  exact ih
theorem points_eq (hp : pts.length≤1000) {k : Nat} (hk : pts.length < k) : ga_points.f k pts ch = some (numsL pts.length):=points_go hp pts.length k 0 (by omega) hk
theorem uptoOf_mem {xs : List Int} : ∀ {k : Nat} {l : List Int},l ∈ uptoOf xs k→l.length < k∧∀ z ∈ l,z ∈ xs
 | 0,_,h=>by simp [uptoOf] at h
 | k + 1,l,h=>by
  unfold uptoOf at h
  rcases List.mem_append.1 h with h | h
  ·obtain ⟨h1,h2⟩:=uptoOf_mem h;exact ⟨by omega,h2⟩
  ·obtain ⟨s,h1,h2,h3⟩:=partsOf_mem _ _ _ _ h
   rw [List.nil_append] at h1
   subst h1
   exact ⟨by omega,h3⟩
theorem ok_shortest {n : Nat} (hn : n≤9) {S : List Int} (h : S ∈ shortestOf (numsL n)) : okPts n S:=by
 obtain ⟨h1,h2⟩:=uptoOf_mem h
 rw [numsL_len] at h1
 exact ⟨by omega,fun p hp=>numsL_mem.1 (h2 p hp)⟩
theorem firstM_find {q : List Int→Option Bool} {p : List Int→Bool} : ∀ {L : List (List Int)},(∀ l ∈ L,q l = some (p l))→firstM q L = some (L.find? p)
 | [],_=>rfl
 | x :: L,h=>by
  unfold firstM
  rw [h x List.mem_cons_self,firstM_find (fun y hy=>h y (List.mem_cons_of_mem _ hy)),List.find?_cons]
  simp only [Option.bind_some]
  cases p x<;>rfl
theorem firstT_find {q : List Int→Option Bool} {p : List Int→Bool} {L : List (List Int)} (h : ∀ l ∈ L,q l = some (p l)) : firstT q L = some (L.find? p):=by
 unfold firstT
 rw [if_pos,firstM_find h]
 rw [List.all_eq_true]
 intro l hl
 rw [h l hl];rfl
def cutP (pts : List Pt) (ch : List Ch) (op : List Int) (hi : Bool) (S : List Int) : Bool:=decide (0 < shortS pts ch op S hi)
def cutS (pts : List Pt) (ch : List Ch) (op : List Int) (hi : Bool) : Option (List Int):=(shortestOf (numsL pts.length)).find? (cutP pts ch op hi)
theorem netS_iff : netS pts ch = true↔(1≤pts.length∧pts.length≤7)∧ch.length≤10∧pts.all ptS = true∧ch.all (chS pts.length) = true∧(gatesL ch).length≤7:=by
 unfold netS
 simp only [Bool.and_eq_true,decide_eq_true_eq]
theorem cutH_eq (h : netS pts ch = true) {op : List Int} (ho : op.length≤20) (hi : Bool) {k : Nat} (hk : 100≤k) : cutH.f k pts ch op hi = some (firstV (cutS pts ch op hi)):=by
 obtain ⟨h1,h2,h3,h4,_⟩:=netS_iff.1 h
 unfold cutH.f
 rw [points_eq (by omega) (by omega)]
 simp only [Option.bind_some]
 rw [if_pos (by rw [numsL_len];omega),firstT_find (p:=cutP pts ch op hi) (fun S hS=>by
  unfold cutq.f
  rw [cSort_eq h3 h4 (by omega) (by omega) (ok_shortest (by omega) hS) hi (by omega) hk];rfl)]
 rfl
theorem cut0_eq (h : netS pts ch = true) {op : List Int} (ho : op.length≤20) {k : Nat} (hk : 100≤k) : gs_cut.f k pts ch op 0 = some (firstV (cutS pts ch op false)):=by
 unfold gs_cut.f
 rw [if_pos rfl,cutH_eq h ho false hk]
end
end Go.Proofs.YtclkbedbocnpkaaGreatDoor.C
namespace Go.Abs
open Go.RowKit Go.Proofs.YtclkbedbocnpkaaGreatDoorW.PrintWords Go.Proofs.YtclkbedbocnpkaaGreatDoorW.PrintMore
set_option linter.unusedVariables false
set_option linter.unusedSimpArgs false
set_option maxHeartbeats 16000000
set_option maxRecDepth 100000
noncomputable def capOk (k : Nat) (s : St) (v : AV) : Bool:=
 match v with
 | .nilSlice=>true
 | .slice _ _ n c=>Nat.ble n c
 | .opn b n=>match s.heap.get b with
  | some (.cells _ (some k') cs)=>Nat.beq k' k && Nat.ble 1 k && Nat.ble (n * k) cs.length
  | some (.ro _ (some k') cs)=>Nat.beq k' k && Nat.ble 1 k && Nat.ble (n * k) cs.length
  | _=>false
 | _=>false
theorem capOk_le {e : Env} {s : St} {w : World} (hs : Sim e s w) {k n m c : Nat} {v : AV} {A : Option Addr} (h : capOk k s v = true) (hx : conc e v = some (.slice A m c)) : m≤c:=by
 unfold capOk at h
 split at h
 ·simp only [conc,Option.some.injEq,Value.slice.injEq] at hx;omega
 ·simp only [conc,Option.map_eq_some_iff,Value.slice.injEq] at hx
  obtain ⟨p,_,_,rfl,rfl⟩:=hx
  exact Nat.le_of_ble_eq_true h
 ·simp only [conc,Option.map_eq_some_iff,Value.slice.injEq] at hx
  obtain ⟨p,hp,_,rfl,rfl⟩:=hx
  have key : ∀ {n' k' : Nat} {cs : List AV} {vs rest : List Value},(Nat.beq k' k && Nat.ble 1 k && Nat.ble (n' * k) cs.length) = true→concL e cs = some vs→(vs ++ rest).length = p.2 * k'→n'≤p.2:=by
   intro n' k' cs vs rest h h1 h2
   simp only [Bool.and_eq_true,Nat.beq_eq,Nat.ble_eq] at h
   obtain ⟨⟨rfl,h3⟩,h4⟩:=h
   rw [List.length_append,concL_length h1] at h2
   exact Nat.le_of_mul_le_mul_right (by omega : n' * k'≤p.2 * k') (by omega)
  split at h
  ·rename_i hb
   obtain ⟨b,q,ob,he,_,vs,rest,h1,rfl,h2⟩:=hs.at_ _ _ hb
   rw [hp] at he;cases he
   exact key h h1 h2
  ·rename_i hb
   obtain ⟨b,q,ob,he,_,vs,rest,h1,rfl,h2⟩:=hs.at_ _ _ hb
   rw [hp] at he;cases he
   exact key h h1 (h2 _ rfl)
  ·cases h
 ·cases h
theorem first_cells {e : Env} {s : St} {w : World} (hs : Sim e s w) {m n c : Nat} {v : AV} {cs : List AV} {A : Option Addr} (h : firstA m v s = some cs) (hx : conc e v = some (.slice A n c)) (hm : 0 < m) :
 ∃ ad vs,A = some ad∧concL e cs = some vs∧∀ i u,vs[i]? = some u→w.cell? (ad.add i) = some u:=by
 have cell : ∀ {g o : Nat} {t : TypeId} {vs rest us : List Value},w.heap[g]? = some (.cells (vs ++ rest).toArray t (0,0))→(∀ i u,us[i]? = some u→vs[o + i]? = some u)→∀ i u,us[i]? = some u→w.cell? ((⟨g,o,none⟩ : Addr).add i) = some u:=by
  intro g o t vs rest us hg hus i u hu
  have h1:=hus i u hu
  have h2 : o + i < vs.length:=(List.getElem?_eq_some_iff.1 h1).1
  rw [addr_add]
  simp only [World.cell?,hg]
  simp only [Option.isSome_none,Bool.false_eq_true,if_false,List.getElem?_toArray]
  rw [List.getElem?_append_left h2];exact h1
 unfold firstA at h
 split at h
 ·split at h
  ·omega
  ·cases h
 ·simp only [Option.bind_eq_some_iff] at h
  obtain ⟨ds,hg,h⟩:=h
  split at h
  ·simp only [Option.some.injEq] at h;subst h
   obtain ⟨g,q,t,vs,rest,he,hb,hvs⟩:=rd_at hs hg
   simp only [conc,he,Option.map_some,Option.some.injEq,Value.slice.injEq] at hx
   obtain ⟨rfl,_,_⟩:=hx
   refine ⟨_,_,rfl,concL_take (concL_drop hvs _) _,cell hb fun i u hu=>?_⟩
   rw [List.getElem?_take] at hu
   split at hu
   ·rw [List.getElem?_drop] at hu;exact hu
   ·cases hu
  ·cases h
 ·simp only [Option.bind_eq_some_iff] at h
  obtain ⟨ds,hg,h⟩:=h
  split at h
  ·simp only [Option.some.injEq] at h;subst h
   obtain ⟨g,q,t,vs,rest,he,hb,hvs⟩:=rd_at hs hg
   simp only [conc,he,Option.map_some,Option.some.injEq,Value.slice.injEq] at hx
   obtain ⟨rfl,_,_⟩:=hx
   refine ⟨_,_,rfl,concL_take hvs _,cell hb fun i u hu=>?_⟩
   rw [List.getElem?_take] at hu
   split at hu
   ·rw [Nat.zero_add];exact hu
   ·cases hu
  ·cases h
 ·cases h
noncomputable def rdG {α : Type} (sz : Nat) (dec : List AV→Option (List α)) (s : St) (v : AV) : Option (List α):=
 if capOk sz s v then (lenSl v).bind fun n=>if Nat.ble n 1000000 then (firstA (n * sz) v s).bind fun cs=>(dec cs).bind fun xs=>if Nat.beq xs.length n then some xs else none else none else none
theorem rdG_ok {α : Type} {d : Kd α} {e : Env} {s : St} {w : World} (hs : Sim e s w) {dec : List AV→Option (List α)} (hsz : 0 < d.sz)
 (hdec : ∀ cs xs vs,dec cs = some xs→concL e cs = some vs→∀ j p,xs[j]? = some p→d.K w p ((vs.drop (j * d.sz)).take d.sz))
 {v : AV} {xs : List α} {x : Value} (h : rdG d.sz dec s v = some xs) (hx : conc e v = some x) : ∃ A c,x = .slice A xs.length c∧xs.length≤c∧d.C w A xs.length xs:=by
 unfold rdG at h
 split at h
 case isFalse=>cases h
 rename_i hcap
 simp only [Option.bind_eq_some_iff] at h
 obtain ⟨n,hn,h⟩:=h
 split at h
 case isFalse=>cases h
 rename_i hle
 simp only [Option.bind_eq_some_iff] at h
 obtain ⟨cs,hcs,xs',hxs,h⟩:=h
 split at h
 case isFalse=>cases h
 rename_i hlen
 cases h
 have hlen : xs.length = n:=Nat.eq_of_beq_eq_true hlen
 subst hlen
 obtain ⟨_,A,c,rfl⟩:=lenSl_run hn hx
 refine ⟨A,c,rfl,capOk_le hs (n:=0) hcap hx,rfl,by have:=Nat.le_of_ble_eq_true hle;omega,fun h0=>?_⟩
 obtain ⟨ad,vs,rfl,hvs,hcell⟩:=first_cells hs hcs hx (Nat.mul_pos h0 hsz)
 refine ⟨ad,rfl,fun j p hj=>⟨_,d.K_len (hdec cs xs vs hxs hvs j p hj),hdec cs xs vs hxs hvs j p hj,fun i u hu=>?_⟩⟩
 rw [List.getElem?_take] at hu
 split at hu
 ·rw [List.getElem?_drop] at hu
  exact hcell _ u hu
 ·cases hu
def intsA : List AV→Option (List Int)
 | []=>some []
 | .int .i64 a :: l=>(intsA l).map (a :: ·)
 | _=>none
theorem intsA_eq : ∀ {cs : List AV} {xs : List Int},intsA cs = some xs→cs = xs.map (.int .i64)
 | [],_,h=>by cases h;rfl
 | a :: l,xs,h=>by
  unfold intsA at h
  split at h
  ·cases ‹_ :: _ = []›
  ·rename_i heq;cases heq
   simp only [Option.map_eq_some_iff] at h
   obtain ⟨ys,h1,rfl⟩:=h
   rw [intsA_eq h1];rfl
  ·cases h
theorem concL_ints (e : Env) : ∀ xs : List Int,concL e (xs.map (.int .i64)) = some (xs.map (Value.int .i64))
 | []=>rfl
 | x :: xs=>by simp [concL,conc,concL_ints e xs]
noncomputable def rdInts : St→AV→Option (List Int):=rdG 1 intsA
theorem rdInts_ok {e : Env} {s : St} {w : World} (hs : Sim e s w) {v : AV} {xs : List Int} {x : Value} (h : rdInts s v = some xs) (hx : conc e v = some x) : ∃ A c,x = .slice A xs.length c∧xs.length≤c∧(Kd.int .i64).C w A xs.length xs:=by
 refine rdG_ok (d:=Kd.int .i64) hs (by show 0 < 1;omega) (fun cs xs vs h1 h2 j p hj=>?_) h hx
 rw [intsA_eq h1,concL_ints] at h2;cases h2
 show ((xs.map (Value.int .i64)).drop (j * 1)).take 1 = [.int .i64 p]
 have : (xs.map (Value.int .i64))[j * 1]? = some (.int .i64 p):=by simp [hj]
 rw [List.drop_eq_getElem?_toList_append]
 rw [this];rfl
theorem grow {e : Env} {s : St} {w w' : World} (h : Sim e s w) (hb : Below w.heap.size w w') : Sim e s w'∧Goes e s w e s w':=by
 refine ⟨⟨fun n x hx=>?_,h.inj,fun n b q hn=>Nat.lt_of_lt_of_le (h.bound n b q hn) hb.size⟩,⟨Env.le.refl e,fun _ h=>.inl h,fun _ _ h=>h,fun _ _ h=>h,fun b hb' _=>hb.block b hb',hb.size,hb.os,hb.tape,hb.output,fun _ _=>rfl,fun _ h=>h,Nat.le_refl _⟩⟩
 obtain ⟨b,q,ob,he,hw,hr⟩:=h.at_ n x hx
 exact ⟨b,q,ob,he,(hb.block b (h.bound n b q he)).trans hw,hr⟩
theorem endsC {P : Program} {f : FuncId} {xs : Array Value} {w : World} {R : Ending→World→Prop} (h : Calls P f xs w R) (c : Frame) (cs : List Frame) :
 ∃ e w',R e w'∧∀ v,e = .returned v→Steps P (lone (Frame.enter P f xs .normal) (c :: cs) w) (lone (c.finish v) cs w'):=by
 obtain ⟨e,w',fr,hR,hc,_,hl⟩:=h (c :: cs)
 refine ⟨e,w',hR,fun v hv=>?_⟩
 subst hv
 exact Steps.trans hc (.one (step_leave_returned hl))
end Go.Abs
namespace Go.Proofs.YtclkbedbocnpkaaGreatDoor.C
open Go.RowKit Go.Abs Go.Proofs.YtclkbedbocnpkaaGreatDoorW.PrintWords Go.Proofs.YtclkbedbocnpkaaGreatDoorW.PrintLast Go.Proofs.YtclkbedbocnpkaaGreatDoorW.PrintMore
set_option linter.unusedVariables false
set_option linter.unusedSimpArgs false
set_option maxHeartbeats 16000000
set_option maxRecDepth 100000
def decPts : List AV→Option (List S37)
 | []=>some []
 | .int .i64 a :: .int .i64 b :: .int .i64 c :: l=>(decPts l).map (⟨⟨a,b⟩,c⟩ :: ·)
 | _=>none
theorem decPts_eq : ∀ {cs : List AV} {xs : List S37} {e : Env} {vs : List Value},decPts cs = some xs→concL e cs = some vs→∀ (j : Nat) p,xs[j]? = some p→(vs.drop (j * 3)).take 3 = [.int .i64 p.f0.f0,.int .i64 p.f0.f1,.int .i64 p.f1]
 | [],_,e,vs,h,hv,j,p,hj=>by cases h;simp at hj
 | a :: l,xs,e,vs,h,hv,j,p,hj=>by
  unfold decPts at h
  split at h
  ·cases ‹_ :: _ = []›
  ·rename_i heq;cases heq
   simp only [Option.map_eq_some_iff] at h
   obtain ⟨ys,h1,rfl⟩:=h
   simp only [concL,conc,Option.bind_some,Option.map_eq_some_iff] at hv
   obtain ⟨_,⟨_,⟨zs,hz,rfl⟩,rfl⟩,rfl⟩:=hv
   cases j with
   | zero=>cases hj;rfl
   | succ j=>rw [show (j + 1) * 3 = j * 3 + 3 by omega];exact decPts_eq h1 hz j p (by simpa using hj)
  ·cases h
def decChs : List AV→Option (List S65)
 | []=>some []
 | .int .i64 a :: .int .i64 b :: .int .i64 c :: .bool d :: l=>(decChs l).map (⟨a,b,c,d⟩ :: ·)
 | _=>none
theorem decChs_eq : ∀ {cs : List AV} {xs : List S65} {e : Env} {vs : List Value},decChs cs = some xs→concL e cs = some vs→∀ (j : Nat) p,xs[j]? = some p→(vs.drop (j * 4)).take 4 = [.int .i64 p.f0,.int .i64 p.f1,.int .i64 p.f2,.bool p.f3]
 | [],_,e,vs,h,hv,j,p,hj=>by cases h;simp at hj
 | a :: l,xs,e,vs,h,hv,j,p,hj=>by
  unfold decChs at h
  split at h
  ·cases ‹_ :: _ = []›
  ·rename_i heq;cases heq
   simp only [Option.map_eq_some_iff] at h
   obtain ⟨ys,h1,rfl⟩:=h
   simp only [concL,conc,Option.bind_some,Option.map_eq_some_iff] at hv
   obtain ⟨_,⟨_,⟨_,⟨zs,hz,rfl⟩,rfl⟩,rfl⟩,rfl⟩:=hv
   cases j with
   | zero=>cases hj;rfl
   | succ j=>rw [show (j + 1) * 4 = j * 4 + 4 by omega];exact decChs_eq h1 hz j p (by simpa using hj)
  ·cases h
noncomputable def rdPts : St→AV→Option (List S37):=rdG 3 decPts
noncomputable def rdChs : St→AV→Option (List S65):=rdG 4 decChs
theorem rdPts_ok {e : Env} {s : St} {w : World} (hs : Sim e s w) {v : AV} {xs : List S37} {x : Value} (h : rdPts s v = some xs) (hx : conc e v = some x) : ∃ A c,x = .slice A xs.length c∧xs.length≤c∧Kd.C k37 w A xs.length xs:=
 rdG_ok (d:=k37) hs (by show 0 < 3;omega) (fun cs xs vs h1 h2 j p hj=>by
  show k37.K w p ((vs.drop (j * 3)).take 3)
  rw [decPts_eq h1 h2 j p hj];exact k37_mk w p) h hx
theorem rdChs_ok {e : Env} {s : St} {w : World} (hs : Sim e s w) {v : AV} {xs : List S65} {x : Value} (h : rdChs s v = some xs) (hx : conc e v = some x) : ∃ A c,x = .slice A xs.length c∧xs.length≤c∧Kd.C k65 w A xs.length xs:=
 rdG_ok (d:=k65) hs (by show 0 < 4;omega) (fun cs xs vs h1 h2 j p hj=>by
  show k65.K w p ((vs.drop (j * 4)).take 4)
  rw [decChs_eq h1 h2 j p hj];exact k65_mk w p) h hx
noncomputable def surelyG (args : List AV) (s : St) : Option (Rt × St):=
 match args with
 | [.agg [p,c],o]=>(rdPts s p).bind fun ps=>(rdChs s c).bind fun cs=>(rdInts s o).bind fun op=>(ga_surely.f 400 ps cs op).bind fun r=>some (.ret (.bool r),s)
 | _=>none
noncomputable def gateHook : Hook:=fun f=>if Nat.beq f 65 then some surelyG else none
theorem surelyG_ok {args : List AV} {s : St} {r : Rt} {s' : St} (h : surelyG args s = some (r,s')) {e : Env} {w : World} (hs : Sim e s w) (hf : Free e s.next s'.next) {xs : List Value} (hxs : concL e args = some xs) (c : Frame) (cs : List Frame) :
 ∃ e' w',Sim e' s' w'∧Goes e s w e' s' w'∧EndsAt Tryz.prog (lone (Frame.enter Tryz.prog 65 xs.toArray .normal) (c :: cs) w) c cs e' r w':=by
 unfold surelyG at h
 split at h
 case h_2=>cases h
 rename_i p q o
 simp only [Option.bind_eq_some_iff] at h
 obtain ⟨ps,hps,qs,hqs,os,hos,rr,hr,h⟩:=h
 cases h
 simp only [concL,conc,Option.bind_eq_some_iff,Option.map_eq_some_iff,Option.some.injEq] at hxs
 obtain ⟨_,⟨_,⟨xp,hxp,_,⟨xq,hxq,_,rfl,rfl⟩,rfl⟩,rfl⟩,_,⟨xo,hxo,_,rfl,rfl⟩,rfl⟩:=hxs
 obtain ⟨A0,c0,rfl,hc0,hC0⟩:=rdPts_ok hs hps hxp
 obtain ⟨A1,c1,rfl,hc1,hC1⟩:=rdChs_ok hs hqs hxq
 obtain ⟨A2,c2,rfl,hc2,hC2⟩:=rdInts_ok hs hos hxo
 obtain ⟨en,w',⟨rfl,hB⟩,hst⟩:=endsC (ga_surely.calls 400 A0 c0 ps A1 c1 qs A2 c2 os rr w hC0 hc0 hC1 hc1 hC2 hc2 hr) c cs
 obtain ⟨hg1,hg2⟩:=grow hs hB
 exact ⟨e,w',hg1,hg2,_,rfl,hst _ rfl⟩
theorem gateHook_ok : HookOk Tryz.prog gateHook:=by
 intro f g hg args s r s' h e w hs hf xs hxs c cs
 unfold gateHook at hg
 split at hg
 ·rename_i hb;cases hg;cases Nat.eq_of_beq_eq_true hb;exact surelyG_ok h hs hf hxs c cs
 ·cases hg
end Go.Proofs.YtclkbedbocnpkaaGreatDoor.C

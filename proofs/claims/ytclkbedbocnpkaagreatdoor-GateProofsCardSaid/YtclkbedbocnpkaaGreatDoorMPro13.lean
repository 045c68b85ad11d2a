/- A part of the proof: the walks of the functions that it reaches. TIGHT. -/
import Derived.Test.YtclkbedbocnpkaaGreatDoorMPro12
set_option linter.unusedVariables false
set_option linter.unusedSimpArgs false
namespace Go.Proofs.YtclkbedbocnpkaaGreatDoor.C
open Go.RowKit Go.Proofs.YtclkbedbocnpkaaGreatDoorW.PrintWords Go.Proofs.YtclkbedbocnpkaaGreatDoorW.PrintLast Go.Proofs.YtclkbedbocnpkaaGreatDoorW.PrintMore
set_option linter.unusedVariables false
set_option linter.unusedSimpArgs false
set_option maxHeartbeats 16000000
set_option maxRecDepth 100000
def q8_Moved.l0 : Nat→List Int→List Int→List Int→Int→List (S37)→List (S65)→Option (List Int)
 | 0,_,_,_,_,_,_=>none
 | k + 1,x1,x2,x7,x8,x533000,x533001=>if x8 < (x533001.length : Int) then ((q8_Listed.f k x1 x8).bind fun t533=>((q8_Listed.f k x2 x8).bind fun t534=>(if (t533 != t534) = true then (if x7.length < 17592186044416 then (q8_Moved.l0 k x1 x2 (x7 ++ [x8]) (wrap64 (x8 + 1)) x533000 x533001) else (none)) else (q8_Moved.l0 k x1 x2 x7 (wrap64 (x8 + 1)) x533000 x533001)))) else (some x7)
def q8_Moved.f (k : Nat) (l0_0 : List (S37)) (l0_1 : List (S65)) (l1 : List Int) (l2 : List Int) : Option (List Int):=q8_Moved.l0 k l1 l2 ([] : List Int) 0 l0_0 l0_1
theorem q8_Moved.calls (k : Nat) (A0_0 : Option Addr) (c0_0 : Nat) (l0_0 : List (S37)) (A0_1 : Option Addr) (c0_1 : Nat) (l0_1 : List (S65)) (A1 : Option Addr) (c1 : Nat) (l1 : List Int) (A2 : Option Addr) (c2 : Nat) (l2 : List Int) (r : List Int) (w : World) (hr0_0 : Kd.C k37 w A0_0 l0_0.length l0_0) (hc0_0 : l0_0.length≤c0_0) (hr0_1 : Kd.C k65 w A0_1 l0_1.length l0_1) (hc0_1 : l0_1.length≤c0_1) (hr1 : Kd.C (Kd.int .i64) w A1 l1.length l1) (hc1 : l1.length≤c1) (hr2 : Kd.C (Kd.int .i64) w A2 l2.length l2) (hc2 : l2.length≤c2) (h : q8_Moved.f k l0_0 l0_1 l1 l2 = some r) :
 Calls Tryz.prog 44 #[.agg #[.slice A0_0 l0_0.length c0_0,.slice A0_1 l0_1.length c0_1],.slice A1 l1.length c1,.slice A2 l2.length c2] w fun e w'=>∃ v0_ : Value,e = .returned (v0_)∧Kd.R (Kd.int .i64) 3 w' w.heap.size (fun _=>True) v0_ r∧Below w.heap.size w w':=by
 have hu25:=Tryz.underlying25
 have HR0_0:=am hr0_0
 have HC0_0:=am hc0_0
 clear hr0_0 hc0_0
 have HR0_1:=am hr0_1
 have HC0_1:=am hc0_1
 clear hr0_1 hc0_1
 have HR1:=am hr1
 have HC1:=am hc1
 clear hr1 hc1
 have HR2:=am hr2
 have HC2:=am hc2
 clear hr2 hc2
 have HB:=am (Below.refl w.heap.size w)
 have H : (q8_Moved.l0 k l1 l2 ([] : List Int) 0 l0_0 l0_1) = some r:=h
 clear h
 replace H':=am H
 go_enter Tryz.func44,Tryz.ntmps44
 go_wp2_with (first | ((with_reducible refine ga_dst (N:=3) rfl ?_);refine box_event ?hg (N:=3) ?hd (cs:=#[.slice A0_0 l0_0.length c0_0,.slice A0_1 l0_1.length c0_1]) (t:=25) ?hr ?_;(case hd=>rfl);(case hg=>rfl);(case hr=>go_simp;try rfl);intro gb532 hg w4 hbox hb;have BK532:=am (hbox);have GW532:=am (ge_new (HB.out) hg);have GE532:=am (ge_new (HB.out) hg);replace HB:=am (below_step (HB.out) hb);clear hb hbox hg))
 go_loopg [7,8] k (fun kq v7 v8 w'=>∃ (x7_1 : List Int) (x8_1 : Int),v8 = .int .i64 x8_1∧Aside0 (q8_Moved.l0 kq l1 l2 x7_1 x8_1 l0_0 l0_1 = some r)∧Aside0 (kq≤k)∧Aside0 (Kd.R (Kd.int .i64) 3 w' w.heap.size (fun _=>True) v7 x7_1)∧Aside0 (w'.heap[gb532]? = some (.cells #[(.slice A0_0 l0_0.length c0_0),(.slice A0_1 l0_1.length c0_1)] 25 (0,0)))∧Aside0 (Below w.heap.size w w'))
 case atStart=>exact ⟨(([] : List Int)),(0),(by first | rfl | (simp;done) | (simp [*];done)),H',⟨Nat.le_refl _⟩,⟨by first | exact Kd.R_nil _ _ _ _ _ | exact Kd.N_nil _ _ _ _ _ | exact Kd.V_nil _ _ _ _ _ | exact Kd.Q_nil _ _ _ _ _ | exact Kd.S_nil _ _ _ _ _⟩,⟨by (with_reducible repeat (first | refine blk_drewN ?_ _ | refine blk_drew ?_ | refine blk_alloc ?_ _));exact BK532.out⟩,⟨HB.out⟩⟩
 case round =>
  clear H'
  obtain ⟨x7_1,x8_1,rfl,HA,HK1,HO_7,BK532,HB⟩:=hrel
  cases gk with
  | zero=>exact absurd HA.out (by simp [q8_Moved.l0])
  | succ k1 =>
   have H:=HA.out
   clear HA
   simp only [q8_Moved.l0] at H
   by_cases c5 : x8_1 < (l0_1.length : Int)
   case neg =>
    rw [if_neg c5] at H
    have c5b0 : decide (x8_1 < (l0_1.length : Int)) = false:=decide_eq_false c5
    clear c5
    obtain rfl:=Option.some.inj H
    obtain ⟨hcz13_0,hcz13_1⟩:=cO2 BK532.out
    have hfz13_0:=blk_frozen BK532.out 0
    have hfz13_1:=blk_frozen BK532.out 1
    go_wp2
    go_ret
    exact ⟨_,by first | rfl | (simp [*]<;>rfl),by (with_reducible repeat (first | apply Kd.R_alloc | apply Kd.R_drewN | apply Kd.R_drew));exact HO_7.out,HB.out⟩
   rw [if_pos c5] at H
   have c5b0 : decide (x8_1 < (l0_1.length : Int)) = true:=decide_eq_true c5
   clear c5
   replace H:=obm H
   obtain ⟨t533,A60,H⟩:=H
   replace H : ((q8_Listed.f k1 l2 x8_1).bind fun t534=>(if (t533 != t534) = true then (if x7_1.length < 17592186044416 then (q8_Moved.l0 k1 l1 l2 (x7_1 ++ [x8_1]) (wrap64 (x8_1 + 1)) l0_0 l0_1) else (none)) else (q8_Moved.l0 k1 l1 l2 x7_1 (wrap64 (x8_1 + 1)) l0_0 l0_1))) = some r:=H
   have A6:=am A60
   clear A60
   replace H:=obm H
   obtain ⟨t534,A70,H⟩:=H
   replace H : (if (t533 != t534) = true then (if x7_1.length < 17592186044416 then (q8_Moved.l0 k1 l1 l2 (x7_1 ++ [x8_1]) (wrap64 (x8_1 + 1)) l0_0 l0_1) else (none)) else (q8_Moved.l0 k1 l1 l2 x7_1 (wrap64 (x8_1 + 1)) l0_0 l0_1)) = some r:=H
   have A7:=am A70
   clear A70
   by_cases c8 : (t533 != t534) = true
   case neg =>
    rw [if_neg c8] at H
    have c8b0 : (t533 != t534) = false:=by simpa using c8
    (try (have c8b1 : decide (t533 = t534) = true:=by simpa using c8))
    (try (have c8b2 : (t533 == t534) = true:=by simpa using c8))
    clear c8
    replace H':=am H
    obtain ⟨hcz12_0,hcz12_1⟩:=cO2 BK532.out
    have hfz12_0:=blk_frozen BK532.out 0
    have hfz12_1:=blk_frozen BK532.out 1
    go_wp2_with (first | ((with_reducible refine ga_callee (f:=43) rfl ?_);refine goesL_ (some 18) rfl rfl Tryz.func43 (by kernel_rfl) rfl #[.slice A1 l1.length c1,.int .i64 x8_1] rfl (by (try simp only [List.map_toArray,List.map_cons,List.map_nil]);first | done | rfl | (simp only [List.length_drop,List.length_take];rfl)) ?_;(with_reducible refine (q8_Listed.calls k1 _ _ l1 x8_1 t533 _ ?side1 ?side2 A6.out).mono ?_);(case side1=>exact kC HR1.out HB.out);(case side2=>exact HC1.out);rintro e w' ⟨rfl,⟨nd,rfl⟩⟩;refine ⟨_,rfl,?_⟩) | ((with_reducible refine ga_callee (f:=43) rfl ?_);refine goesL_ (some 21) rfl rfl Tryz.func43 (by kernel_rfl) rfl #[.slice A2 l2.length c2,.int .i64 x8_1] rfl (by (try simp only [List.map_toArray,List.map_cons,List.map_nil]);first | done | rfl | (simp only [List.length_drop,List.length_take];rfl)) ?_;(with_reducible refine (q8_Listed.calls k1 _ _ l2 x8_1 t534 _ ?side1 ?side2 A7.out).mono ?_);(case side1=>repeat (first | exact (kC HR2.out (pw_below_drewN HB.out _)) | (with_reducible refine Kd.C_alloc ?_ _) | (with_reducible refine Kd.C_drewN ?_ _) | (with_reducible refine Kd.C_drew ?_)));(case side2=>exact HC2.out);rintro e w' ⟨rfl,⟨nd,rfl⟩⟩;refine ⟨_,rfl,?_⟩))
    go_roundg k1
    case measure=>have:=HK1.out;omega
    case rel=>exact ⟨(x7_1),(wrap64 (x8_1 + 1)),(by first | rfl | (simp;done) | (simp [*];done)),H',⟨by have:=HK1.out;omega⟩,⟨by (with_reducible repeat (first | apply Kd.R_alloc | apply Kd.R_drewN | apply Kd.R_drew));exact HO_7.out⟩,⟨by (with_reducible repeat (first | refine blk_drewN ?_ _ | refine blk_drew ?_ | refine blk_alloc ?_ _));exact BK532.out⟩,⟨pw_below_drewN HB.out _⟩⟩
   rw [if_pos c8] at H
   have c8b0 : (t533 != t534) = true:=c8
   (try (have c8b1 : decide (t533 = t534) = false:=by simpa using c8))
   (try (have c8b2 : (t533 == t534) = false:=by simpa using c8))
   (try (have c8b3 : ¬ (t533 = t534):=by simpa using c8))
   clear c8
   by_cases c9 : x7_1.length < 17592186044416
   case neg =>
    rw [if_neg c9] at H
    exact absurd H (by simp)
   rw [if_pos c9] at H
   have LMc9:=am c9
   clear c9
   obtain ⟨y535,hy535⟩ : ∃ y_ : List Int,y_ = (x7_1 ++ [x8_1]):=⟨_,rfl⟩
   replace H : (q8_Moved.l0 k1 l1 l2 y535 (wrap64 (x8_1 + 1)) l0_0 l0_1) = some r:=by first | (rw [hy535];with_reducible exact H) | (have H2_:=(Option.bind_some _ _).symm.trans H;rw [hy535];with_reducible exact H2_) | (have H2_:=(Option.bind_some _ _).symm.trans H;with_reducible exact H2_) | with_reducible exact H | (rw [hy535];exact H) | exact H
   have Ny535:=am hy535
   clear hy535
   replace H':=am H
   obtain ⟨hcz10_0,hcz10_1⟩:=cO2 BK532.out
   have hfz10_0:=blk_frozen BK532.out 0
   have hfz10_1:=blk_frozen BK532.out 1
   go_wp2_with (first | ((with_reducible refine ga_callee (f:=43) rfl ?_);refine goesL_ (some 18) rfl rfl Tryz.func43 (by kernel_rfl) rfl #[.slice A1 l1.length c1,.int .i64 x8_1] rfl (by (try simp only [List.map_toArray,List.map_cons,List.map_nil]);first | done | rfl | (simp only [List.length_drop,List.length_take];rfl)) ?_;(with_reducible refine (q8_Listed.calls k1 _ _ l1 x8_1 t533 _ ?side1 ?side2 A6.out).mono ?_);(case side1=>exact kC HR1.out HB.out);(case side2=>exact HC1.out);rintro e w' ⟨rfl,⟨nd,rfl⟩⟩;refine ⟨_,rfl,?_⟩) | ((with_reducible refine ga_callee (f:=43) rfl ?_);refine goesL_ (some 21) rfl rfl Tryz.func43 (by kernel_rfl) rfl #[.slice A2 l2.length c2,.int .i64 x8_1] rfl (by (try simp only [List.map_toArray,List.map_cons,List.map_nil]);first | done | rfl | (simp only [List.length_drop,List.length_take];rfl)) ?_;(with_reducible refine (q8_Listed.calls k1 _ _ l2 x8_1 t534 _ ?side1 ?side2 A7.out).mono ?_);(case side1=>repeat (first | exact (kC HR2.out (pw_below_drewN HB.out _)) | (with_reducible refine Kd.C_alloc ?_ _) | (with_reducible refine Kd.C_drewN ?_ _) | (with_reducible refine Kd.C_drew ?_)));(case side2=>exact HC2.out);rintro e w' ⟨rfl,⟨nd,rfl⟩⟩;refine ⟨_,rfl,?_⟩) | ((with_reducible refine ga_builtin (b:=.append) (xs:=#[.tmp 23,.tmp 25]) rfl ?_);at_builtin;refine Kd.R_append (Kd.int .i64) (w0:=w) w.heap.size rfl (.tmp 23) (.tmp 25) 26 3 (.int .i64 0) 8 rfl Tryz.underlying26 info3 rfl (by decide) (by omega) u7 x7_1 x8_1 [.int .i64 x8_1] (fun _=>True) (fun _=>False) rfl rfl ?aP (fun _ hk=>hk.elim) ?aF ?aO ?aB ?aS ?aL ?_;(case aP=>exact rfl);(case aB=>exact (pw_below_drewN HB.out _));(case aF=>exact (fun _ _=>trivial));(case aO=>exact (by (with_reducible repeat (first | apply Kd.R_alloc | apply Kd.R_drewN | apply Kd.R_drew));exact HO_7.out));(case aS=>exact (below_size (pw_below_drewN HB.out _)));(case aL=>have:=LMc9.out;omega);intro v536 w11 ho hb hg hat;rw [← Ny535.out] at ho;have n0_:=am (blk_grown (g:=gb532) (o:=.cells #[.slice A0_0 l0_0.length c0_0,.slice A0_1 l0_1.length c0_1] 25 (0,0)) (by (with_reducible repeat (first | refine blk_drewN ?_ _ | refine blk_drew ?_ | refine blk_alloc ?_ _));exact BK532.out) hg (Kd.R_ne HO_7.out BK532.out (by decide)));have n1_:=am (hb);have n2_:=am (ho);clear BK532;clear HB;clear HO_7;have BK532:=n0_;have HB:=n1_;have HO537:=n2_;clear n0_ n1_ n2_;clear ho hb hg hat))
   go_roundg k1
   case measure=>have:=HK1.out;omega
   case rel=>exact ⟨(y535),(wrap64 (x8_1 + 1)),(by first | rfl | (simp;done) | (simp [*];done)),H',⟨by have:=HK1.out;omega⟩,⟨by (with_reducible repeat (first | apply Kd.R_alloc | apply Kd.R_drewN | apply Kd.R_drew));exact HO537.out⟩,⟨by (with_reducible repeat (first | refine blk_drewN ?_ _ | refine blk_drew ?_ | refine blk_alloc ?_ _));exact BK532.out⟩,⟨HB.out⟩⟩
def q8_Rest.f (k : Nat) (l0_0 : List (S37)) (l0_1 : List (S65)) (l1 : List Int) : Option (List Int):=(q8_Gates.f k l0_0 l0_1).bind fun t584=>((q8_Moved.f k l0_0 l0_1 t584 l1).bind fun t587=>(some t587))
theorem q8_Rest.calls (k : Nat) (A0_0 : Option Addr) (c0_0 : Nat) (l0_0 : List (S37)) (A0_1 : Option Addr) (c0_1 : Nat) (l0_1 : List (S65)) (A1 : Option Addr) (c1 : Nat) (l1 : List Int) (r : List Int) (w : World) (hr0_0 : Kd.C k37 w A0_0 l0_0.length l0_0) (hc0_0 : l0_0.length≤c0_0) (hr0_1 : Kd.C k65 w A0_1 l0_1.length l0_1) (hc0_1 : l0_1.length≤c0_1) (hr1 : Kd.C (Kd.int .i64) w A1 l1.length l1) (hc1 : l1.length≤c1) (h : q8_Rest.f k l0_0 l0_1 l1 = some r) :
 Calls Tryz.prog 87 #[.agg #[.slice A0_0 l0_0.length c0_0,.slice A0_1 l0_1.length c0_1],.slice A1 l1.length c1] w fun e w'=>∃ v0_ : Value,e = .returned (v0_)∧Kd.R (Kd.int .i64) 3 w' w.heap.size (fun _=>True) v0_ r∧Below w.heap.size w w':=by
 have hu25:=Tryz.underlying25
 have HR0_0:=am hr0_0
 have HC0_0:=am hc0_0
 clear hr0_0 hc0_0
 have HR0_1:=am hr0_1
 have HC0_1:=am hc0_1
 clear hr0_1 hc0_1
 have HR1:=am hr1
 have HC1:=am hc1
 clear hr1 hc1
 have HB:=am (Below.refl w.heap.size w)
 have H : ((q8_Gates.f k l0_0 l0_1).bind fun t584=>((q8_Moved.f k l0_0 l0_1 t584 l1).bind fun t587=>(some t587))) = some r:=h
 clear h
 replace H:=obm H
 obtain ⟨t584,A30,H⟩:=H
 replace H : ((q8_Moved.f k l0_0 l0_1 t584 l1).bind fun t587=>(some t587)) = some r:=H
 have A3:=am A30
 clear A30
 replace H:=obm H
 obtain ⟨t587,A40,H⟩:=H
 replace H : (some t587) = some r:=H
 have A4:=am A40
 clear A40
 obtain rfl:=Option.some.inj H
 go_enter Tryz.func87,Tryz.ntmps87
 try go_wp2_with (first | ((refine ga_dst (N:=2) rfl ?_);refine box_event rfl (N:=2) rfl (cs:=#[.slice A0_0 l0_0.length c0_0,.slice A0_1 l0_1.length c0_1]) (t:=25) ?hr ?_;(case hr=>go_simp;try rfl);intro gb583 hg w5 hbox hb;have BK583:=am (hbox);have GW583:=am (ge_new (HB.out) hg);have GE583:=am (ge_new (HB.out) hg);replace HB:=am (below_step (HB.out) hb);clear hb hbox hg))
 replace BK583:=am (blk_drew BK583.out)
 replace HB:=am (below_drew1 HB.out)
 refine start_ (n:=6) (S:=fun w'=>w'.cell? ⟨gb583,0,none⟩ = some (.slice A0_0 l0_0.length c0_0)∧w'.cell? ⟨gb583,1,none⟩ = some (.slice A0_1 l0_1.length c0_1)) (ds:=[]) (ba 6 0) (by kernel_rfl) rfl rfl ⟨(blk_cell BK583.out 0).trans rfl,(blk_cell BK583.out 1).trans rfl⟩ (fun hHeld=>?_)
 generalize w5.drew = w6 at BK583 HB hHeld ⊢
 refine pure_ (i:=3) (N:=some 8) (v:=?_) (a':=?_) (ba 6 8) rfl rfl (by kernel_rfl) (fun _ _ _ h=>h) (Or.inl ⟨by rfl,?_⟩) ?_ ?_
 rotate_left
 ·intro w'
  go_simp
  with_reducible rfl
 rotate_left
 ·simp only [Act.put,NRM]
  rfl
 refine take_ (i:=0) (N:=some 5) (v:=?_) (a':=?_) (ba 6 9) rfl rfl (by kernel_rfl) (fun _ _ _ h=>h) (Or.inl ⟨by rfl,?_⟩) hHeld ?_ ?_
 rotate_left
 ·rintro w' ⟨s0,s1⟩
  go_simp
  with_reducible rfl
 rotate_left
 ·simp only [Act.put,NRM]
  rfl
 refine take_ (i:=1) (N:=some 6) (v:=?_) (a':=?_) (ba 6 11) rfl rfl (by kernel_rfl) (fun _ _ _ h=>h) (Or.inl ⟨by rfl,?_⟩) hHeld ?_ ?_
 rotate_left
 ·rintro w' ⟨s0,s1⟩
  go_simp
  with_reducible rfl
 rotate_left
 ·simp only [Act.put,NRM]
  rfl
 refine one_ (i:=2) (N:=some 7) (ba 6 15) rfl rfl (by kernel_rfl) (by decide) (fun K hK=>?_)
 refine goes_ Tryz.func82 (by kernel_rfl) rfl #[.agg #[.slice A0_0 l0_0.length c0_0,.slice A0_1 l0_1.length c0_1]] (by rfl) rfl rfl (by (try simp only [List.map_toArray,List.map_cons,List.map_nil]);first | done | rfl | (simp only [List.length_drop,List.length_take];rfl)) ?_
 with_reducible refine (q8_Gates.calls k _ _ l0_0 _ _ l0_1 t584 _ ?side1 ?side2 ?side3 ?side4 A3.out).mono ?_
 (case side1=>exact kC HR0_0.out HB.out)
 (case side2=>exact HC0_0.out)
 (case side3=>exact kC HR0_1.out HB.out)
 (case side4=>exact HC0_1.out)
 rintro e w7 ⟨v585,rfl,ho0,hb⟩
 refine ⟨_,rfl,?_⟩
 have HO586:=am (Kd.R_lower ho0 (below_size (HB.out)))
 replace BK583:=(kmv hb BK583)
 replace HB:=am (below_step (HB.out) hb)
 (try clear hb)
 (try clear hb2)
 (try clear hk)
 (try clear hi)
 (try clear ho0)
 obtain ⟨Ao8,co8,eo8⟩:=Kd.R_slice HO586.out
 (first | subst eo8 | (injection eo8 with f1_ f2_ f3_;have f4_:=f1_.symm;have f5_:=f3_.symm;clear f1_ f2_ f3_;subst f4_;subst f5_))
 refine hK.out _ _ ⟨(blk_cell BK583.out 0).trans rfl,(blk_cell BK583.out 1).trans rfl⟩ (fun hHeld=>?_)
 clear hK K
 refine norm_ (a':=?_) ?_ ?_
 rotate_left
 ·show Act.put _ (some 7) _ = _
  simp only [Act.put,NRM]
  rfl
 refine one_ (i:=4) (N:=some 9) (ba 6 31) rfl rfl (by kernel_rfl) (by decide) (fun K hK=>?_)
 refine goes_ Tryz.func44 (by kernel_rfl) rfl #[.agg #[.slice A0_0 l0_0.length c0_0,.slice A0_1 l0_1.length c0_1],.slice Ao8 t584.length co8,.slice A1 l1.length c1] (by rfl) rfl rfl (by (try simp only [List.map_toArray,List.map_cons,List.map_nil]);first | done | rfl | (simp only [List.length_drop,List.length_take];rfl)) ?_
 with_reducible refine (q8_Moved.calls k _ _ l0_0 _ _ l0_1 _ _ t584 _ _ l1 t587 _ ?side1 ?side2 ?side3 ?side4 ?side5 ?side6 ?side7 ?side8 A4.out).mono ?_
 (case side1=>exact kC HR0_0.out HB.out)
 (case side2=>exact HC0_0.out)
 (case side3=>exact kC HR0_1.out HB.out)
 (case side4=>exact HC0_1.out)
 (case side5=>repeat (first | exact (Kd.R_reads' HO586.out).2.2 | (with_reducible refine Kd.C_alloc ?_ _) | (with_reducible refine Kd.C_drewN ?_ _) | (with_reducible refine Kd.C_drew ?_)))
 (case side6=>exact (Kd.R_reads' HO586.out).2.1)
 (case side7=>exact kC HR1.out HB.out)
 (case side8=>exact HC1.out)
 rintro e w9 ⟨v588,rfl,ho0,hb⟩
 refine ⟨_,rfl,?_⟩
 have HO589:=am (Kd.R_lower (Kd.R_new' ho0 (Kd.R_lt HO586.out)) (below_size (HB.out)))
 replace HO586:=am (Kd.R_elder' HO586.out (Kd.R_base ho0) hb)
 replace BK583:=(kmv hb BK583)
 replace HB:=am (below_step (HB.out) hb)
 (try clear hb)
 (try clear hb2)
 (try clear hk)
 (try clear hi)
 (try clear ho0)
 refine hK.out _ _ ⟨(blk_cell BK583.out 0).trans rfl,(blk_cell BK583.out 1).trans rfl⟩ (fun hHeld=>?_)
 clear hK K
 refine norm_ (a':=?_) ?_ ?_
 rotate_left
 ·show Act.put _ (some 9) _ = _
  simp only [Act.put,NRM]
  rfl
 refine pure_ (i:=5) (N:=some 4) (v:=?_) (a':=?_) (ba 6 63) rfl rfl (by kernel_rfl) (fun _ _ _ h=>h) (Or.inl ⟨by rfl,?_⟩) ?_ ?_
 rotate_left
 ·intro w'
  go_simp
  with_reducible rfl
 rotate_left
 ·simp only [Act.put,NRM]
  rfl
 refine done_ (by kernel_rfl) ?_
 try go_wp2
 go_ret
 exact ⟨_,by first | rfl | (simp [*]<;>rfl),by (with_reducible repeat (first | apply Kd.R_alloc | apply Kd.R_drewN | apply Kd.R_drew));exact Kd.R_mono HO589.out (fun _ hk=>trivial),HB.out⟩
def q8_Can.f (k : Nat) (l0_0 : List (S37)) (l0_1 : List (S65)) (l1 : List Int) : Option (Bool):=(q8_Rest.f k l0_0 l0_1 l1).bind fun t591=>((q8_Surely.f k l0_0 l0_1 t591).bind fun t594=>(some t594))
theorem q8_Can.calls (k : Nat) (A0_0 : Option Addr) (c0_0 : Nat) (l0_0 : List (S37)) (A0_1 : Option Addr) (c0_1 : Nat) (l0_1 : List (S65)) (A1 : Option Addr) (c1 : Nat) (l1 : List Int) (r : Bool) (w : World) (hr0_0 : Kd.C k37 w A0_0 l0_0.length l0_0) (hc0_0 : l0_0.length≤c0_0) (hr0_1 : Kd.C k65 w A0_1 l0_1.length l0_1) (hc0_1 : l0_1.length≤c0_1) (hr1 : Kd.C (Kd.int .i64) w A1 l1.length l1) (hc1 : l1.length≤c1) (h : q8_Can.f k l0_0 l0_1 l1 = some r) :
 Calls Tryz.prog 86 #[.agg #[.slice A0_0 l0_0.length c0_0,.slice A0_1 l0_1.length c0_1],.slice A1 l1.length c1] w fun e w'=>e = .returned (.bool r)∧Below w.heap.size w w':=by
 have hu25:=Tryz.underlying25
 have HR0_0:=am hr0_0
 have HC0_0:=am hc0_0
 clear hr0_0 hc0_0
 have HR0_1:=am hr0_1
 have HC0_1:=am hc0_1
 clear hr0_1 hc0_1
 have HR1:=am hr1
 have HC1:=am hc1
 clear hr1 hc1
 have HB:=am (Below.refl w.heap.size w)
 have H : ((q8_Rest.f k l0_0 l0_1 l1).bind fun t591=>((q8_Surely.f k l0_0 l0_1 t591).bind fun t594=>(some t594))) = some r:=h
 clear h
 replace H:=obm H
 obtain ⟨t591,A30,H⟩:=H
 replace H : ((q8_Surely.f k l0_0 l0_1 t591).bind fun t594=>(some t594)) = some r:=H
 have A3:=am A30
 clear A30
 replace H:=obm H
 obtain ⟨t594,A40,H⟩:=H
 replace H : (some t594) = some r:=H
 have A4:=am A40
 clear A40
 obtain rfl:=Option.some.inj H
 go_enter Tryz.func86,Tryz.ntmps86
 try go_wp2_with (first | ((refine ga_dst (N:=2) rfl ?_);refine box_event rfl (N:=2) rfl (cs:=#[.slice A0_0 l0_0.length c0_0,.slice A0_1 l0_1.length c0_1]) (t:=25) ?hr ?_;(case hr=>go_simp;try rfl);intro gb590 hg w5 hbox hb;have BK590:=am (hbox);have GW590:=am (ge_new (HB.out) hg);have GE590:=am (ge_new (HB.out) hg);replace HB:=am (below_step (HB.out) hb);clear hb hbox hg))
 replace BK590:=am (blk_drew BK590.out)
 replace HB:=am (below_drew1 HB.out)
 refine start_ (n:=6) (S:=fun w'=>w'.cell? ⟨gb590,0,none⟩ = some (.slice A0_0 l0_0.length c0_0)∧w'.cell? ⟨gb590,1,none⟩ = some (.slice A0_1 l0_1.length c0_1)) (ds:=[]) (ba 6 0) (by kernel_rfl) rfl rfl ⟨(blk_cell BK590.out 0).trans rfl,(blk_cell BK590.out 1).trans rfl⟩ (fun hHeld=>?_)
 generalize w5.drew = w6 at BK590 HB hHeld ⊢
 refine pure_ (i:=2) (N:=some 7) (v:=?_) (a':=?_) (ba 6 4) rfl rfl (by kernel_rfl) (fun _ _ _ h=>h) (Or.inl ⟨by rfl,?_⟩) ?_ ?_
 rotate_left
 ·intro w'
  go_simp
  with_reducible rfl
 rotate_left
 ·simp only [Act.put,NRM]
  rfl
 refine take_ (i:=0) (N:=some 5) (v:=?_) (a':=?_) (ba 6 5) rfl rfl (by kernel_rfl) (fun _ _ _ h=>h) (Or.inl ⟨by rfl,?_⟩) hHeld ?_ ?_
 rotate_left
 ·rintro w' ⟨s0,s1⟩
  go_simp
  with_reducible rfl
 rotate_left
 ·simp only [Act.put,NRM]
  rfl
 refine take_ (i:=1) (N:=some 6) (v:=?_) (a':=?_) (ba 6 7) rfl rfl (by kernel_rfl) (fun _ _ _ h=>h) (Or.inl ⟨by rfl,?_⟩) hHeld ?_ ?_
 rotate_left
 ·rintro w' ⟨s0,s1⟩
  go_simp
  with_reducible rfl
 rotate_left
 ·simp only [Act.put,NRM]
  rfl
 refine one_ (i:=3) (N:=some 8) (ba 6 15) rfl rfl (by kernel_rfl) (by decide) (fun K hK=>?_)
 refine goes_ Tryz.func87 (by kernel_rfl) rfl #[.agg #[.slice A0_0 l0_0.length c0_0,.slice A0_1 l0_1.length c0_1],.slice A1 l1.length c1] (by rfl) rfl rfl (by (try simp only [List.map_toArray,List.map_cons,List.map_nil]);first | done | rfl | (simp only [List.length_drop,List.length_take];rfl)) ?_
 with_reducible refine (q8_Rest.calls k _ _ l0_0 _ _ l0_1 _ _ l1 t591 _ ?side1 ?side2 ?side3 ?side4 ?side5 ?side6 A3.out).mono ?_
 (case side1=>exact kC HR0_0.out HB.out)
 (case side2=>exact HC0_0.out)
 (case side3=>exact kC HR0_1.out HB.out)
 (case side4=>exact HC0_1.out)
 (case side5=>exact kC HR1.out HB.out)
 (case side6=>exact HC1.out)
 rintro e w7 ⟨v592,rfl,ho0,hb⟩
 refine ⟨_,rfl,?_⟩
 have HO593:=am (Kd.R_lower ho0 (below_size (HB.out)))
 replace BK590:=(kmv hb BK590)
 replace HB:=am (below_step (HB.out) hb)
 (try clear hb)
 (try clear hb2)
 (try clear hk)
 (try clear hi)
 (try clear ho0)
 obtain ⟨Ao8,co8,eo8⟩:=Kd.R_slice HO593.out
 (first | subst eo8 | (injection eo8 with f1_ f2_ f3_;have f4_:=f1_.symm;have f5_:=f3_.symm;clear f1_ f2_ f3_;subst f4_;subst f5_))
 refine hK.out _ _ ⟨(blk_cell BK590.out 0).trans rfl,(blk_cell BK590.out 1).trans rfl⟩ (fun hHeld=>?_)
 clear hK K
 refine norm_ (a':=?_) ?_ ?_
 rotate_left
 ·show Act.put _ (some 8) _ = _
  simp only [Act.put,NRM]
  rfl
 refine one_ (i:=4) (N:=some 9) (ba 6 31) rfl rfl (by kernel_rfl) (by decide) (fun K hK=>?_)
 refine goes_ Tryz.func31 (by kernel_rfl) rfl #[.agg #[.slice A0_0 l0_0.length c0_0,.slice A0_1 l0_1.length c0_1],.slice Ao8 t591.length co8] (by rfl) rfl rfl (by (try simp only [List.map_toArray,List.map_cons,List.map_nil]);first | done | rfl | (simp only [List.length_drop,List.length_take];rfl)) ?_
 with_reducible refine (q8_Surely.calls k _ _ l0_0 _ _ l0_1 _ _ t591 t594 _ ?side1 ?side2 ?side3 ?side4 ?side5 ?side6 A4.out).mono ?_
 (case side1=>exact kC HR0_0.out HB.out)
 (case side2=>exact HC0_0.out)
 (case side3=>exact kC HR0_1.out HB.out)
 (case side4=>exact HC0_1.out)
 (case side5=>repeat (first | exact (Kd.R_reads' HO593.out).2.2 | (with_reducible refine Kd.C_alloc ?_ _) | (with_reducible refine Kd.C_drewN ?_ _) | (with_reducible refine Kd.C_drew ?_)))
 (case side6=>exact (Kd.R_reads' HO593.out).2.1)
 rintro e w9 ⟨rfl,hb⟩
 refine ⟨_,rfl,?_⟩
 replace HO593:=am (Kd.R_below HO593.out hb)
 replace BK590:=(kmv hb BK590)
 replace HB:=am (below_step (HB.out) hb)
 (try clear hb)
 (try clear hb2)
 (try clear hk)
 (try clear hi)
 refine hK.out _ _ ⟨(blk_cell BK590.out 0).trans rfl,(blk_cell BK590.out 1).trans rfl⟩ (fun hHeld=>?_)
 clear hK K
 refine norm_ (a':=?_) ?_ ?_
 rotate_left
 ·show Act.put _ (some 9) _ = _
  simp only [Act.put,NRM]
  rfl
 refine pure_ (i:=5) (N:=some 4) (v:=?_) (a':=?_) (ba 6 63) rfl rfl (by kernel_rfl) (fun _ _ _ h=>h) (Or.inl ⟨by rfl,?_⟩) ?_ ?_
 rotate_left
 ·intro w'
  go_simp
  with_reducible rfl
 rotate_left
 ·simp only [Act.put,NRM]
  rfl
 refine done_ (by kernel_rfl) ?_
 try go_wp2
 go_ret
 exact ⟨by first | rfl | (simp [*]<;>rfl),HB.out⟩
end Go.Proofs.YtclkbedbocnpkaaGreatDoor.C
namespace Go.Proofs.YtclkbedbocnpkaaGreatDoor.C
open Go Go.RowKit Go.Proofs.YtclkbedbocnpkaaGreatDoorW.PrintWords Go.Proofs.YtclkbedbocnpkaaGreatDoorW.PrintLast Go.Proofs.YtclkbedbocnpkaaGreatDoorW.PrintMore
set_option linter.unusedVariables false
set_option linter.unusedSimpArgs false
set_option maxHeartbeats 16000000
set_option maxRecDepth 100000
section
variable {pts : List Pt} {ch : List Ch}
theorem gateAt_nat {i : Nat} {x : Ch} (h : ch[i]? = some x) : gateAt ch (i : Int) = x.f3:=by
 obtain ⟨hl,he⟩:=List.getElem?_eq_some_iff.1 h
 have hd : ch.drop i = x :: ch.drop (i + 1):=by rw [← he];exact List.drop_eq_getElem_cons hl
 unfold gateAt
 rw [rdT_nat ch i x _ hd,decide_eq_true (by omega)];rfl
theorem gatesFrom_mem : ∀ {l : List Ch} {i c : Int},c ∈ gatesFrom i l↔∃ (j : Nat) (x : Ch),l[j]? = some x∧x.f3 = true∧c = i + (j : Int)
 | [],i,c=>by simp [gatesFrom]
 | y :: l,i,c=>by
  have ih:=gatesFrom_mem (l:=l) (i:=i + 1) (c:=c)
  unfold gatesFrom
  have key : (∃ (j : Nat) (x : Ch),(y :: l)[j]? = some x∧x.f3 = true∧c = i + (j : Int))↔(y.f3 = true∧c = i)∨∃ (j : Nat) (x : Ch),l[j]? = some x∧x.f3 = true∧c = i + 1 + (j : Int):=by
   constructor
   ·rintro ⟨j,x,h1,h2,h3⟩
    cases j with
    | zero=>simp at h1;subst h1;exact .inl ⟨h2,by omega⟩
    | succ j=>exact .inr ⟨j,x,by simpa using h1,h2,by omega⟩
   ·rintro (⟨h1,h2⟩ | ⟨j,x,h1,h2,h3⟩)
    ·exact ⟨0,y,rfl,h1,by omega⟩
    ·exact ⟨j + 1,x,by simpa using h1,h2,by omega⟩
  rw [key,← ih]
  split
  ·rename_i hy;rw [List.mem_cons];simp [hy]
  ·rename_i hy;simp [hy]
theorem mem_gates {c : Int} : c ∈ gatesL ch↔gateAt ch c = true:=by
 unfold gatesL
 rw [gatesFrom_mem]
 constructor
 ·rintro ⟨j,x,h1,h2,rfl⟩
  rw [Int.zero_add,gateAt_nat h1];exact h2
 ·intro h
  have h':=h
  unfold gateAt at h'
  simp only [Bool.and_eq_true,decide_eq_true_eq] at h'
  obtain ⟨⟨h0,h1⟩,_⟩:=h'
  obtain ⟨n,rfl⟩ : ∃ n : Nat,c = (n : Int):=⟨c.toNat,by omega⟩
  have hl : n < ch.length:=by omega
  have hx : ch[n]? = some ch[n]:=List.getElem?_eq_getElem hl
  exact ⟨n,ch[n],hx,by rw [← gateAt_nat hx];exact h,by omega⟩
theorem gatesFrom_sorted : ∀ (l : List Ch) (i : Int),(gatesFrom i l).Pairwise (· < ·)
 | [],i=>List.Pairwise.nil
 | y :: l,i=>by
  unfold gatesFrom
  split
  ·refine List.Pairwise.cons (fun c hc=>?_) (gatesFrom_sorted l (i + 1))
   obtain ⟨j,_,_,_,rfl⟩:=gatesFrom_mem.1 hc
   omega
  ·exact gatesFrom_sorted l (i + 1)
theorem gatesL_sorted : (gatesL ch).Pairwise (· < ·):=gatesFrom_sorted ch 0
theorem gatesFrom_len' : ∀ (l : List Ch) (i : Int),(gatesFrom i l).length≤l.length
 | [],i=>by simp [gatesFrom]
 | y :: l,i=>by
  unfold gatesFrom
  have:=gatesFrom_len' l (i + 1)
  split<;>simp<;>omega
theorem gatesL_len : (gatesL ch).length≤ch.length:=gatesFrom_len' ch 0
theorem someS_iff {l : List Int} : someS ch l = true↔(∀ c ∈ l,gateAt ch c = true)∧l.Pairwise (· < ·):=by
 unfold someS
 rw [allFrom_iff]
 constructor
 ·intro h
  have h1 : ∀ j,j < l.length→gateAt ch (l.getD j 0) = true∧(j = 0∨l.getD (j - 1) 0 < l.getD j 0):=fun j hj=>by
   have:=h j (Nat.zero_le _) (by omega)
   simpa using this
  have h2 : ∀ d i,i + d + 1 < l.length→l.getD i 0 < l.getD (i + d + 1) 0:=by
   intro d
   induction d with
   | zero =>
    intro i hi
    have:=(h1 (i + 1) (by omega)).2
    rcases this with h | h
    ·omega
    ·exact h
   | succ d ih =>
    intro i hi
    have a:=ih i (by omega)
    have:=(h1 (i + (d + 1) + 1) (by omega)).2
    rcases this with h | h
    ·omega
    ·rw [show i + (d + 1) + 1 - 1 = i + d + 1 by omega] at h;omega
  refine ⟨fun c hc=>?_,?_⟩
  ·obtain ⟨j,hj,rfl⟩:=List.mem_iff_getElem.1 hc
   have:=(h1 j hj).1
   rwa [List.getD_eq_getElem?_getD,List.getElem?_eq_getElem hj] at this
  ·rw [List.pairwise_iff_getElem]
   intro i j hi hj hij
   have:=h2 (j - i - 1) i (by omega)
   rw [show i + (j - i - 1) + 1 = j by omega] at this
   rwa [List.getD_eq_getElem?_getD,List.getElem?_eq_getElem hi,List.getD_eq_getElem?_getD,List.getElem?_eq_getElem hj] at this
 ·rintro ⟨h1,h2⟩ j _ hj
  have hj' : j < l.length:=by omega
  rw [List.pairwise_iff_getElem] at h2
  have a : gateAt ch (l.getD j 0) = true:=by
   rw [List.getD_eq_getElem?_getD,List.getElem?_eq_getElem hj']
   exact h1 _ (List.getElem_mem hj')
  rw [a,Bool.true_and,Bool.or_eq_true]
  by_cases h0 : j = 0
  ·exact .inl (decide_eq_true h0)
  ·refine .inr (decide_eq_true ?_)
   rw [List.getD_eq_getElem?_getD,List.getD_eq_getElem?_getD,List.getElem?_eq_getElem hj',List.getElem?_eq_getElem (show j - 1 < l.length by omega)]
   exact h2 (j - 1) j (by omega) hj' (by omega)
def numFilt (Q : Int→Bool) : Int→Nat→List Int
 | _,0=>[]
 | i,n + 1=>if Q i = true then i :: numFilt Q (i + 1) n else numFilt Q (i + 1) n
theorem filt_gates (Q : Int→Bool) : ∀ (l : List Ch) (i : Int),(∀ (j : Nat) (x : Ch),l[j]? = some x→x.f3 = false→Q (i + (j : Int)) = false)→(gatesFrom i l).filter Q = numFilt Q i l.length
 | [],i,_=>rfl
 | y :: l,i,h=>by
  have ih:=filt_gates Q l (i + 1) fun j x h1 h2=>by
   have:=h (j + 1) x (by simpa using h1) h2
   rwa [show i + ((j + 1 : Nat) : Int) = i + 1 + (j : Int) by omega] at this
  unfold gatesFrom
  show _ = (if Q i = true then i :: numFilt Q (i + 1) l.length else numFilt Q (i + 1) l.length)
  by_cases hy : y.f3 = true
  ·rw [if_pos hy,List.filter_cons,ih]
  ·have:=h 0 y rfl (by simpa using hy)
   rw [if_neg hy,if_neg (by rw [show i + ((0 : Nat) : Int) = i by omega] at this;simp [this]),ih]
def movedQ (a b : List Int) (c : Int) : Bool:=decide (c ∈ a) != decide (c ∈ b)
def movedS (ch : List Ch) (a b : List Int) : List Int:=(gatesL ch).filter (movedQ a b)
theorem moved_go {a b G : List Int} (ha : a.length≤1000) (hb : b.length≤1000) (hG : G.length≤1000) : ∀ (rest : List Int) (k i : Nat) (acc : List Int),G.drop i = rest→acc.length≤i→rest.length + 1001 < k→
 ga_moved.l0 k a b acc G (G.length : Int) (i : Int) = some (acc ++ rest.filter (movedQ a b))
 | _,0,_,_,_,_,hk=>by omega
 | [],k + 1,i,acc,hd,_,_=>by
  have : G.length≤i:=by have:=congrArg List.length hd;simp at this;omega
  unfold ga_moved.l0
  rw [if_neg (by omega)];simp
 | x :: rest,k + 1,i,acc,hd,hacc,hk=>by
  obtain ⟨hd2,hlt⟩:=drop_succ hd
  have ih:=fun acc h=>moved_go ha hb hG rest k (i + 1) acc hd2 h (by simp at hk;omega)
  unfold ga_moved.l0
  rw [if_pos (by omega),if_pos (by omega),if_pos (by omega),getD_of_drop hd,contains_eq ha x (by omega),contains_eq hb x (by omega),wr (by omega) (by omega),show (i : Int) + 1 = ((i + 1 : Nat) : Int) from rfl]
  simp only [Option.bind_some]
  rw [List.filter_cons]
  by_cases hq : movedQ a b x = true
  ·rw [if_pos hq,if_pos (by exact hq),if_pos (by omega),ih _ (by simp;omega)];simp
  ·rw [if_neg hq,if_neg (by exact hq),ih _ (by omega)]
theorem moved_eq (hc : ch.length≤1000) {a b : List Int} (ha : a.length≤1000) (hb : b.length≤1000) {k : Nat} (hk : 3000≤k) : ga_moved.f k pts ch a b = some (movedS ch a b):=by
 have:=gatesL_len (ch:=ch)
 unfold ga_moved.f
 rw [gates_eq hc (by omega)]
 simp only [Option.bind_some]
 exact moved_go ha hb (by omega) _ k 0 [] rfl (by simp) (by omega)
theorem rMoved_go (hc : ch.length≤1000) {a b : List Int} (ha : a.length≤1000) (hb : b.length≤1000) : ∀ (d k i : Nat) (acc : List Int),i + d = ch.length→acc.length≤i→d + 1001 < k→
 q8_Moved.l0 k a b acc (i : Int) pts ch = some (acc ++ numFilt (movedQ a b) (i : Int) d)
 | _,0,_,_,_,_,hk=>by omega
 | 0,k + 1,i,acc,hd,_,_=>by
  unfold q8_Moved.l0
  rw [if_neg (by omega)];simp [numFilt]
 | d + 1,k + 1,i,acc,hd,hacc,hk=>by
  have ih:=fun acc h=>rMoved_go hc ha hb d k (i + 1) acc (by omega) h (by omega)
  unfold q8_Moved.l0
  rw [if_pos (by omega),listed_eq ha (i : Int) (by omega),listed_eq hb (i : Int) (by omega),wr (by omega) (by omega),show (i : Int) + 1 = ((i + 1 : Nat) : Int) from rfl]
  simp only [Option.bind_some]
  unfold numFilt
  by_cases hq : movedQ a b (i : Int) = true
  ·rw [if_pos hq,if_pos (by exact hq),if_pos (by omega),ih _ (by simp;omega)];simp
  ·rw [if_neg hq,if_neg (by exact hq),ih _ (by omega)];rfl
theorem rMoved_eq (hc : ch.length≤1000) {a b : List Int} (ha : a.length≤1000) (hb : b.length≤1000) (hga : ∀ c ∈ a,gateAt ch c = true) (hgb : ∀ c ∈ b,gateAt ch c = true) {k : Nat} (hk : 3000≤k) : q8_Moved.f k pts ch a b = some (movedS ch a b):=by
 unfold q8_Moved.f
 rw [show (0 : Int) = ((0 : Nat) : Int) from rfl,rMoved_go hc ha hb ch.length k 0 [] (by omega) (by simp) (by omega),List.nil_append]
 congr 1
 refine (filt_gates (movedQ a b) ch 0 fun j x h1 h2=>?_).symm
 rw [Int.zero_add]
 have hn : ¬ gateAt ch (j : Int) = true:=by rw [gateAt_nat h1,h2];simp
 unfold movedQ
 rw [decide_eq_false fun h=>hn (hga _ h),decide_eq_false fun h=>hn (hgb _ h)];rfl
theorem movedS_some (a b : List Int) : someS ch (movedS ch a b) = true:=
 someS_iff.2 ⟨fun c hc=>mem_gates.1 (List.mem_filter.1 hc).1,gatesL_sorted.filter _⟩
theorem movedS_len (a b : List Int) : (movedS ch a b).length≤ch.length:=Nat.le_trans (List.length_filter_le _ _) gatesL_len
def restS (ch : List Ch) (l : List Int) : List Int:=movedS ch (gatesL ch) l
theorem rest_eq (hc : ch.length≤1000) {l : List Int} (hl : l.length≤1000) {k : Nat} (hk : 3000≤k) : ga_rest.f k pts ch l = some (restS ch l):=by
 have:=gatesL_len (ch:=ch)
 unfold ga_rest.f
 rw [gates_eq hc (by omega)]
 simp only [Option.bind_some]
 rw [moved_eq hc (by omega) hl hk];rfl
theorem rRest_eq (hc : ch.length≤1000) {l : List Int} (hl : l.length≤1000) (hg : ∀ c ∈ l,gateAt ch c = true) {k : Nat} (hk : 3000≤k) : q8_Rest.f k pts ch l = some (restS ch l):=by
 have:=gatesL_len (ch:=ch)
 unfold q8_Rest.f
 rw [rGates_eq hc (by omega)]
 simp only [Option.bind_some]
 rw [rMoved_eq hc (by omega) hl (fun c hc=>mem_gates.1 hc) hg hk];rfl
def canS (pts : List Pt) (ch : List Ch) (l : List Int) : Bool:=(cutS pts ch (restS ch l) false).isNone
theorem can_eq (h : netS pts ch = true) {l : List Int} (hl : l.length≤1000) {k : Nat} (hk : 3000≤k) : ga_can.f k pts ch l = some (canS pts ch l):=by
 obtain ⟨h1,h2,h3,h4,_⟩:=netS_iff.1 h
 have:=movedS_len (ch:=ch) (gatesL ch) l
 unfold ga_can.f
 rw [rest_eq (by omega) hl hk]
 simp only [Option.bind_some]
 rw [surely_eq h (by unfold restS;omega) (by omega)];rfl
theorem rCan_eq (h : netS pts ch = true) {l : List Int} (hl : l.length≤1000) (hg : ∀ c ∈ l,gateAt ch c = true) {k : Nat} (hk : 120000≤k) : q8_Can.f k pts ch l = some (canS pts ch l):=by
 obtain ⟨h1,h2,h3,h4,_⟩:=netS_iff.1 h
 have:=movedS_len (ch:=ch) (gatesL ch) l
 unfold q8_Can.f
 rw [rRest_eq (by omega) hl hg (by omega)]
 simp only [Option.bind_some]
 rw [rSurely_eq h (by unfold restS;omega) hk];rfl
end
end Go.Proofs.YtclkbedbocnpkaaGreatDoor.C
namespace Go.Proofs.YtclkbedbocnpkaaGreatDoor.C
open Go.RowKit Go.Proofs.YtclkbedbocnpkaaGreatDoorW.PrintWords Go.Proofs.YtclkbedbocnpkaaGreatDoorW.PrintLast Go.Proofs.YtclkbedbocnpkaaGreatDoorW.PrintMore
set_option linter.unusedVariables false
set_option linter.unusedSimpArgs false
set_option maxHeartbeats 16000000
set_option maxRecDepth 100000
def ga_Proof.j0 : Nat→List Int→Bool→List (S37)→List (S65)→Option (List Int × Int)
 | 0,_,_,_,_=>none
 | k + 1,x1,x14,x190000,x190001=>if x14 = true then (some (([] : List Int),2)) else ((ga_rest.f k x190000 x190001 x1).bind fun t192=>((ga_Cut.f k x190000 x190001 t192).bind fun bt195=>(some (bt195.1,bt195.2))))
def ga_Proof.f (k : Nat) (l0_0 : List (S37)) (l0_1 : List (S65)) (l1 : List Int) : Option (List Int × Int):=(ga_isNet.f k l0_0 l0_1).bind fun t190=>(if t190 = true then ((ga_areGates.f k l0_0 l0_1 l1).bind fun t191=>(ga_Proof.j0 k l1 (!t191) l0_0 l0_1)) else (ga_Proof.j0 k l1 true l0_0 l0_1))
def ga_Proof.T3 : Bool × List (List Nat × List Nat):=(true,[([],[]),([],[]),([],[]),([1,2],[1,2]),([0,3,3],[0,3]),([4],[4]),([4],[4]),([5,4,0,1,2,3,4,5,6],[5]),([6,7,0,1,2,3,4,5,6,7],[6])])
def ga_Proof.B3 : List Nat:=[0,0,0,6,15,31,31,127,255]
theorem ga_Proof.tab3 : rtab .any (opsOf Tryz.f38 3) = ga_Proof.T3:=by kernel_rfl
theorem ga_Proof.bits3 : waitsOk ga_Proof.T3.2 ga_Proof.B3 = true:=by kernel_rfl
theorem ga_Proof.calls (k : Nat) (A0_0 : Option Addr) (c0_0 : Nat) (l0_0 : List (S37)) (A0_1 : Option Addr) (c0_1 : Nat) (l0_1 : List (S65)) (A1 : Option Addr) (c1 : Nat) (l1 : List Int) (r1 : List Int) (r2 : Int) (w : World) (hr0_0 : Kd.C k37 w A0_0 l0_0.length l0_0) (hc0_0 : l0_0.length≤c0_0) (hr0_1 : Kd.C k65 w A0_1 l0_1.length l0_1) (hc0_1 : l0_1.length≤c0_1) (hr1 : Kd.C (Kd.int .i64) w A1 l1.length l1) (hc1 : l1.length≤c1) (h : ga_Proof.f k l0_0 l0_1 l1 = some (r1,r2)) :
 Calls Tryz.prog 38 #[.agg #[.slice A0_0 l0_0.length c0_0,.slice A0_1 l0_1.length c0_1],.slice A1 l1.length c1] w fun e w'=>∃ v0_ : Value,e = .returned (.tuple #[v0_,.int .i64 r2])∧Kd.R (Kd.int .i64) 3 w' w.heap.size (fun _=>True) v0_ r1∧Below w.heap.size w w':=by
 have hu25:=Tryz.underlying25
 have HR0_0:=am hr0_0
 have HC0_0:=am hc0_0
 clear hr0_0 hc0_0
 have HR0_1:=am hr0_1
 have HC0_1:=am hc0_1
 clear hr0_1 hc0_1
 have HR1:=am hr1
 have HC1:=am hc1
 clear hr1 hc1
 have HB:=am (Below.refl w.heap.size w)
 have H : ((ga_isNet.f k l0_0 l0_1).bind fun t190=>(if t190 = true then ((ga_areGates.f k l0_0 l0_1 l1).bind fun t191=>(ga_Proof.j0 k l1 (!t191) l0_0 l0_1)) else (ga_Proof.j0 k l1 true l0_0 l0_1))) = some (r1,r2):=h
 clear h
 have HC3:=am H
 clear H
 go_enter Tryz.func38,Tryz.ntmps38
 go_upto_region 1 with (first | ((refine ga_dst (N:=2) rfl ?_);refine box_event rfl (N:=2) rfl (cs:=#[.slice A0_0 l0_0.length c0_0,.slice A0_1 l0_1.length c0_1]) (t:=25) ?hr ?_;(case hr=>go_simp;try rfl);intro gb189 hg w4 hbox hb;have BK189:=am (hbox);have GW189:=am (ge_new (HB.out) hg);have GE189:=am (ge_new (HB.out) hg);replace HB:=am (below_step (HB.out) hb);clear hb hbox hg))
 (try simp only [Act.put,List.setIfInBounds_toArray,List.set_cons_zero,List.set_cons_succ])
 go_cut [14] (fun v14 wc=>∃ (kq : Nat) (x14_2 : Bool),v14 = .bool x14_2∧Aside0 (ga_Proof.j0 kq l1 x14_2 l0_0 l0_1 = some (r1,r2))∧Aside0 (kq≤k)∧Aside0 (wc.heap[gb189]? = some (.cells #[(.slice A0_0 l0_0.length c0_0),(.slice A0_1 l0_1.length c0_1)] 25 (0,0)))∧Aside0 (Below w.heap.size w wc))
 case first =>
  have H:=HC3.out
  clear HC3
  replace H:=obm H
  obtain ⟨t190,A50,H⟩:=H
  replace H : (if t190 = true then ((ga_areGates.f k l0_0 l0_1 l1).bind fun t191=>(ga_Proof.j0 k l1 (!t191) l0_0 l0_1)) else (ga_Proof.j0 k l1 true l0_0 l0_1)) = some (r1,r2):=H
  have A5:=am A50
  clear A50
  by_cases c6 : t190 = true
  case neg =>
   replace c6:=Bool.eq_false_iff.mpr c6
   subst c6
   replace H : (ga_Proof.j0 k l1 true l0_0 l0_1) = some (r1,r2):=by rw [if_neg (show ¬ (false = true) by decide)] at H;exact H
   replace H':=am H
   obtain ⟨hcz12_0,hcz12_1⟩:=cO2 BK189.out
   go_wp2_with (first | ((with_reducible refine ga_callee (f:=55) rfl ?_);refine goesL_ (some 7) rfl rfl Tryz.func55 (by kernel_rfl) rfl #[.agg #[.slice A0_0 l0_0.length c0_0,.slice A0_1 l0_1.length c0_1]] rfl (by (try simp only [List.map_toArray,List.map_cons,List.map_nil]);first | done | rfl | (simp only [List.length_drop,List.length_take];rfl)) ?_;(refine (ga_isNet.calls k _ _ l0_0 _ _ l0_1 false _ ?side1 ?side2 ?side3 ?side4 A5.out).mono ?_);(case side1=>exact kC HR0_0.out HB.out);(case side2=>exact HC0_0.out);(case side3=>exact kC HR0_1.out HB.out);(case side4=>exact HC0_1.out);rintro e w13 ⟨rfl,hb⟩;refine ⟨_,rfl,?_⟩;replace BK189:=(kmv hb BK189);replace HB:=am (below_step (HB.out) hb);(try clear hb);(try clear hb2);(try clear hk);(try clear hi)))
   go_meet
   case rel=>exact ⟨_,(true),(by first | rfl | (simp;done) | (simp [*];done)),H',⟨by first | omega | exact Nat.le_refl _⟩,⟨BK189.out⟩,⟨HB.out⟩⟩
  subst c6
  replace H : ((ga_areGates.f k l0_0 l0_1 l1).bind fun t191=>(ga_Proof.j0 k l1 (!t191) l0_0 l0_1)) = some (r1,r2):=by rw [if_pos rfl] at H;exact H
  replace H:=obm H
  obtain ⟨t191,A70,H⟩:=H
  replace H : (ga_Proof.j0 k l1 (!t191) l0_0 l0_1) = some (r1,r2):=H
  have A7:=am A70
  clear A70
  replace H':=am H
  obtain ⟨hcz8_0,hcz8_1⟩:=cO2 BK189.out
  go_wp2_with (first | ((with_reducible refine ga_callee (f:=55) rfl ?_);refine goesL_ (some 7) rfl rfl Tryz.func55 (by kernel_rfl) rfl #[.agg #[.slice A0_0 l0_0.length c0_0,.slice A0_1 l0_1.length c0_1]] rfl (by (try simp only [List.map_toArray,List.map_cons,List.map_nil]);first | done | rfl | (simp only [List.length_drop,List.length_take];rfl)) ?_;(refine (ga_isNet.calls k _ _ l0_0 _ _ l0_1 true _ ?side1 ?side2 ?side3 ?side4 A5.out).mono ?_);(case side1=>exact kC HR0_0.out HB.out);(case side2=>exact HC0_0.out);(case side3=>exact kC HR0_1.out HB.out);(case side4=>exact HC0_1.out);rintro e w9 ⟨rfl,hb⟩;refine ⟨_,rfl,?_⟩;replace BK189:=(kmv hb BK189);replace HB:=am (below_step (HB.out) hb);(try clear hb);(try clear hb2);(try clear hk);(try clear hi);obtain ⟨hcz10_0,hcz10_1⟩:=cO2 BK189.out) | (go_at_call 56;(refine (ga_areGates.calls k _ _ l0_0 _ _ l0_1 _ _ l1 t191 _ ?side1 ?side2 ?side3 ?side4 ?side5 ?side6 A7.out).mono ?_);(case side1=>exact kC HR0_0.out HB.out);(case side2=>exact HC0_0.out);(case side3=>exact kC HR0_1.out HB.out);(case side4=>exact HC0_1.out);(case side5=>exact kC HR1.out HB.out);(case side6=>exact HC1.out);rintro e w11 ⟨rfl,hb⟩;replace BK189:=(kmv hb BK189);replace HB:=am (below_step (HB.out) hb);(try clear hb);(try clear hb2);(try clear hk);(try clear hi)))
  go_meet
  case rel=>exact ⟨_,(!t191),(by first | rfl | (simp;done) | (simp [*];done)),H',⟨by first | omega | exact Nat.le_refl _⟩,⟨BK189.out⟩,⟨HB.out⟩⟩
 case rest =>
  clear HC3
  obtain ⟨kq,x14_2,rfl,HA,HJ2,BK189,HB⟩:=hcut
  cases kq with
  | zero=>exact absurd HA.out (by simp [ga_Proof.j0])
  | succ kj2 =>
   have H:=HA.out
   clear HA
   simp only [ga_Proof.j0] at H
   by_cases c14 : x14_2 = true
   ·subst c14
    replace H : (some (([] : List Int),2)) = some (r1,r2):=by rw [if_pos rfl] at H;exact H
    simp only [Option.some.injEq,Prod.mk.injEq] at H
    obtain ⟨rfl,rfl⟩:=H
    go_wp2
    go_ret2
    exact ⟨_,by first | rfl | (simp [*]<;>rfl),by first | exact Kd.R_nil _ _ _ _ _ | exact Kd.N_nil _ _ _ _ _ | exact Kd.V_nil _ _ _ _ _ | exact Kd.Q_nil _ _ _ _ _ | exact Kd.S_nil _ _ _ _ _,HB.out⟩
   ·replace c14:=Bool.eq_false_iff.mpr c14
    subst c14
    replace H : ((ga_rest.f kj2 l0_0 l0_1 l1).bind fun t192=>((ga_Cut.f kj2 l0_0 l0_1 t192).bind fun bt195=>(some (bt195.1,bt195.2)))) = some (r1,r2):=by rw [if_neg (show ¬ (false = true) by decide)] at H;exact H
    replace H:=obm H
    obtain ⟨t192,A150,H⟩:=H
    replace H : ((ga_Cut.f kj2 l0_0 l0_1 t192).bind fun bt195=>(some (bt195.1,bt195.2))) = some (r1,r2):=H
    have A15:=am A150
    clear A150
    replace H:=obm H
    obtain ⟨⟨t195,t198⟩,A160,H⟩:=H
    replace H : (some (t195,t198)) = some (r1,r2):=H
    have A16:=am A160
    clear A160
    simp only [Option.some.injEq,Prod.mk.injEq] at H
    obtain ⟨rfl,rfl⟩:=H
    try go_wp2
    replace BK189:=am (blk_drew BK189.out)
    replace HB:=am (below_drew1 HB.out)
    refine start_ (n:=9) (S:=fun w'=>w'.cell? ⟨gb189,0,none⟩ = some (.slice A0_0 l0_0.length c0_0)∧w'.cell? ⟨gb189,1,none⟩ = some (.slice A0_1 l0_1.length c0_1)) (ds:=[]) (ba 9 0) (by kernel_rfl) rfl rfl ⟨(blk_cell BK189.out 0).trans rfl,(blk_cell BK189.out 1).trans rfl⟩ (fun hHeld=>?_);refine with_tabW ga_Proof.tab3 ga_Proof.bits3 (fun HT_ HW_=>?_)
    generalize wc.drew = w17 at BK189 HB hHeld ⊢
    refine pure_ (i:=2) (N:=some 17) (v:=?_) (a':=?_) (ba 9 4) rfl rfl (any_of HT_.out (by kernel_rfl)) (fun _ _ _ h=>h) (Or.inl ⟨by rfl,?_⟩) ?_ ?_
    rotate_left
    ·intro w'
     go_simp
     with_reducible rfl
    rotate_left
    ·simp only [Act.put,NRM]
     rfl
    refine take_ (i:=0) (N:=some 15) (v:=?_) (a':=?_) (ba 9 5) rfl rfl (take_ofW HT_.out HW_.out (by kernel_rfl)) (fun _ _ _ h=>h) (Or.inl ⟨by rfl,?_⟩) hHeld ?_ ?_
    rotate_left
    ·rintro w' ⟨s0,s1⟩
     go_simp
     with_reducible rfl
    rotate_left
    ·simp only [Act.put,NRM]
     rfl
    refine take_ (i:=1) (N:=some 16) (v:=?_) (a':=?_) (ba 9 7) rfl rfl (take_ofW HT_.out HW_.out (by kernel_rfl)) (fun _ _ _ h=>h) (Or.inl ⟨by rfl,?_⟩) hHeld ?_ ?_
    rotate_left
    ·rintro w' ⟨s0,s1⟩
     go_simp
     with_reducible rfl
    rotate_left
    ·simp only [Act.put,NRM]
     rfl
    refine one_ (i:=3) (N:=some 18) (ba 9 15) rfl rfl (one_of HT_.out (by kernel_rfl)) (by decide) (fun K hK=>?_)
    refine goes_ Tryz.func84 (by kernel_rfl) rfl #[.agg #[.slice A0_0 l0_0.length c0_0,.slice A0_1 l0_1.length c0_1],.slice A1 l1.length c1] (by rfl) rfl rfl (by (try simp only [List.map_toArray,List.map_cons,List.map_nil]);first | done | rfl | (simp only [List.length_drop,List.length_take];rfl)) ?_
    with_reducible refine (ga_rest.calls kj2 _ _ l0_0 _ _ l0_1 _ _ l1 t192 _ ?side1 ?side2 ?side3 ?side4 ?side5 ?side6 A15.out).mono ?_
    (case side1=>exact kC HR0_0.out HB.out)
    (case side2=>exact HC0_0.out)
    (case side3=>exact kC HR0_1.out HB.out)
    (case side4=>exact HC0_1.out)
    (case side5=>exact kC HR1.out HB.out)
    (case side6=>exact HC1.out)
    rintro e w18 ⟨v193,rfl,ho0,hb⟩
    refine ⟨_,rfl,?_⟩
    have HO194:=am (Kd.R_lower ho0 (below_size (HB.out)))
    replace BK189:=(kmv hb BK189)
    replace HB:=am (below_step (HB.out) hb)
    (try clear hb)
    (try clear hb2)
    (try clear hk)
    (try clear hi)
    (try clear ho0)
    obtain ⟨Ao19,co19,eo19⟩:=Kd.R_slice HO194.out
    (first | subst eo19 | (injection eo19 with f1_ f2_ f3_;have f4_:=f1_.symm;have f5_:=f3_.symm;clear f1_ f2_ f3_;subst f4_;subst f5_))
    refine hK.out _ _ ⟨(blk_cell BK189.out 0).trans rfl,(blk_cell BK189.out 1).trans rfl⟩ (fun hHeld=>?_)
    clear hK K
    refine norm_ (a':=?_) ?_ ?_
    rotate_left
    ·show Act.put _ (some 18) _ = _
     simp only [Act.put,NRM]
     rfl
    refine one_ (i:=4) (N:=some 19) (ba 9 31) rfl rfl (one_of HT_.out (by kernel_rfl)) (by decide) (fun K hK=>?_)
    refine goes_ Tryz.func23 (by kernel_rfl) rfl #[.agg #[.slice A0_0 l0_0.length c0_0,.slice A0_1 l0_1.length c0_1],.slice Ao19 t192.length co19] (by rfl) rfl rfl (by (try simp only [List.map_toArray,List.map_cons,List.map_nil]);first | done | rfl | (simp only [List.length_drop,List.length_take];rfl)) ?_
    with_reducible refine (ga_Cut.calls kj2 _ _ l0_0 _ _ l0_1 _ _ t192 t195 t198 _ ?side1 ?side2 ?side3 ?side4 ?side5 ?side6 A16.out).mono ?_
    (case side1=>exact kC HR0_0.out HB.out)
    (case side2=>exact HC0_0.out)
    (case side3=>exact kC HR0_1.out HB.out)
    (case side4=>exact HC0_1.out)
    (case side5=>repeat (first | exact (Kd.R_reads' HO194.out).2.2 | (with_reducible refine Kd.C_alloc ?_ _) | (with_reducible refine Kd.C_drewN ?_ _) | (with_reducible refine Kd.C_drew ?_)))
    (case side6=>exact (Kd.R_reads' HO194.out).2.1)
    rintro e w20 ⟨v196,rfl,ho0,hb⟩
    refine ⟨_,rfl,?_⟩
    have HO197:=am (Kd.R_lower (Kd.R_new' ho0 (Kd.R_lt HO194.out)) (below_size (HB.out)))
    replace HO194:=am (Kd.R_elder' HO194.out (Kd.R_base ho0) hb)
    replace BK189:=(kmv hb BK189)
    replace HB:=am (below_step (HB.out) hb)
    (try clear hb)
    (try clear hb2)
    (try clear hk)
    (try clear hi)
    (try clear ho0)
    refine hK.out _ _ ⟨(blk_cell BK189.out 0).trans rfl,(blk_cell BK189.out 1).trans rfl⟩ (fun hHeld=>?_)
    clear hK K
    refine norm_ (a':=?_) ?_ ?_
    rotate_left
    ·show Act.put _ (some 19) _ = _
     simp only [Act.put,NRM]
     rfl
    refine pure_ (i:=5) (N:=some 20) (v:=?_) (a':=?_) (ba 9 63) rfl rfl (any_of HT_.out (by kernel_rfl)) (fun _ _ _ h=>h) (Or.inl ⟨by rfl,?_⟩) ?_ ?_
    rotate_left
    ·intro w'
     go_simp
     with_reducible rfl
    rotate_left
    ·simp only [Act.put,NRM]
     rfl
    refine pure_ (i:=6) (N:=some 21) (v:=?_) (a':=?_) (ba 9 127) rfl rfl (any_of HT_.out (by kernel_rfl)) (fun _ _ _ h=>h) (Or.inl ⟨by rfl,?_⟩) ?_ ?_
    rotate_left
    ·intro w'
     go_simp
     with_reducible rfl
    rotate_left
    ·simp only [Act.put,NRM]
     rfl
    refine pure_ (i:=7) (N:=some 4) (v:=?_) (a':=?_) (ba 9 255) rfl rfl (any_of HT_.out (by kernel_rfl)) (fun _ _ _ h=>h) (Or.inl ⟨by rfl,?_⟩) ?_ ?_
    rotate_left
    ·intro w'
     go_simp
     with_reducible rfl
    rotate_left
    ·simp only [Act.put,NRM]
     rfl
    refine pure_ (i:=8) (N:=some 5) (v:=?_) (a':=?_) (ba 9 511) rfl rfl (any_of HT_.out (by kernel_rfl)) (fun _ _ _ h=>h) (Or.inl ⟨by rfl,?_⟩) ?_ ?_
    rotate_left
    ·intro w'
     go_simp
     with_reducible rfl
    rotate_left
    ·simp only [Act.put,NRM]
     rfl
    refine done_ (done_of HT_.out (by kernel_rfl)) ?_
    try go_wp2
    go_ret2
    exact ⟨_,by first | rfl | (simp [*]<;>rfl),by (with_reducible repeat (first | apply Kd.R_alloc | apply Kd.R_drewN | apply Kd.R_drew));exact Kd.R_mono HO197.out (fun _ hk=>trivial),HB.out⟩
def ga_Vital.l0 : Nat→List Int→List Int→Int→Int→List (S37)→List (S65)→Option (List Int × Int)
 | 0,_,_,_,_,_,_=>none
 | k + 1,x4,x11,x12,x13,x205000,x205001=>if x13 < x12 then (if 0≤x13 then (if x13 < (x11.length : Int) then ((ga_can.f k x205000 x205001 (([rd x11 x13] : List Int))).bind fun t213=>(if t213 = true then (ga_Vital.l0 k x4 x11 x12 (wrap64 (x13 + 1)) x205000 x205001) else (if x4.length < 17592186044416 then (ga_Vital.l0 k (x4 ++ [rd x11 x13]) x11 x12 (wrap64 (x13 + 1)) x205000 x205001) else (none)))) else (none)) else (none)) else (some (x4,0))
def ga_Vital.f (k : Nat) (l0_0 : List (S37)) (l0_1 : List (S65)) : Option (List Int × Int):=(ga_isNet.f k l0_0 l0_1).bind fun t205=>(if t205 = true then ((ga_gates.f k l0_0 l0_1).bind fun t206=>(ga_Vital.l0 k ([] : List Int) t206 (t206.length : Int) 0 l0_0 l0_1)) else (some (([] : List Int),2)))
theorem ga_Vital.calls (k : Nat) (A0_0 : Option Addr) (c0_0 : Nat) (l0_0 : List (S37)) (A0_1 : Option Addr) (c0_1 : Nat) (l0_1 : List (S65)) (r1 : List Int) (r2 : Int) (w : World) (hr0_0 : Kd.C k37 w A0_0 l0_0.length l0_0) (hc0_0 : l0_0.length≤c0_0) (hr0_1 : Kd.C k65 w A0_1 l0_1.length l0_1) (hc0_1 : l0_1.length≤c0_1) (h : ga_Vital.f k l0_0 l0_1 = some (r1,r2)) :
 Calls Tryz.prog 39 #[.agg #[.slice A0_0 l0_0.length c0_0,.slice A0_1 l0_1.length c0_1]] w fun e w'=>∃ v0_ : Value,e = .returned (.tuple #[v0_,.int .i64 r2])∧Kd.R (Kd.int .i64) 3 w' w.heap.size (fun _=>True) v0_ r1∧Below w.heap.size w w':=by
 have hu25:=Tryz.underlying25
 have HR0_0:=am hr0_0
 have HC0_0:=am hc0_0
 clear hr0_0 hc0_0
 have HR0_1:=am hr0_1
 have HC0_1:=am hc0_1
 clear hr0_1 hc0_1
 have HB:=am (Below.refl w.heap.size w)
 have H : ((ga_isNet.f k l0_0 l0_1).bind fun t205=>(if t205 = true then ((ga_gates.f k l0_0 l0_1).bind fun t206=>(ga_Vital.l0 k ([] : List Int) t206 (t206.length : Int) 0 l0_0 l0_1)) else (some (([] : List Int),2)))) = some (r1,r2):=h
 clear h
 replace H:=obm H
 obtain ⟨t205,A20,H⟩:=H
 replace H : (if t205 = true then ((ga_gates.f k l0_0 l0_1).bind fun t206=>(ga_Vital.l0 k ([] : List Int) t206 (t206.length : Int) 0 l0_0 l0_1)) else (some (([] : List Int),2))) = some (r1,r2):=H
 have A2:=am A20
 clear A20
 by_cases c3 : t205 = true
 case neg =>
  replace c3:=Bool.eq_false_iff.mpr c3
  subst c3
  replace H : (some (([] : List Int),2)) = some (r1,r2):=by rw [if_neg (show ¬ (false = true) by decide)] at H;exact H
  simp only [Option.some.injEq,Prod.mk.injEq] at H
  obtain ⟨rfl,rfl⟩:=H
  go_enter Tryz.func39,Tryz.ntmps39
  go_wp2_with (first | ((refine ga_dst (N:=1) rfl ?_);refine box_event rfl (N:=1) rfl (cs:=#[.slice A0_0 l0_0.length c0_0,.slice A0_1 l0_1.length c0_1]) (t:=25) ?hr ?_;(case hr=>go_simp;try rfl);intro gb204 hg w28 hbox hb;have BK204:=am (hbox);have GW204:=am (ge_new (HB.out) hg);have GE204:=am (ge_new (HB.out) hg);replace HB:=am (below_step (HB.out) hb);clear hb hbox hg;obtain ⟨hcz29_0,hcz29_1⟩:=cO2 BK204.out) | ((with_reducible refine ga_callee (f:=55) rfl ?_);refine goesL_ (some 8) rfl rfl Tryz.func55 (by kernel_rfl) rfl #[.agg #[.slice A0_0 l0_0.length c0_0,.slice A0_1 l0_1.length c0_1]] rfl (by (try simp only [List.map_toArray,List.map_cons,List.map_nil]);first | done | rfl | (simp only [List.length_drop,List.length_take];rfl)) ?_;(refine (ga_isNet.calls k _ _ l0_0 _ _ l0_1 false _ ?side1 ?side2 ?side3 ?side4 A2.out).mono ?_);(case side1=>exact kC HR0_0.out HB.out);(case side2=>exact HC0_0.out);(case side3=>exact kC HR0_1.out HB.out);(case side4=>exact HC0_1.out);rintro e w30 ⟨rfl,hb⟩;refine ⟨_,rfl,?_⟩;replace BK204:=(kmv hb BK204);replace HB:=am (below_step (HB.out) hb);(try clear hb);(try clear hb2);(try clear hk);(try clear hi)))
  go_ret2
  exact ⟨_,by first | rfl | (simp [*]<;>rfl),by first | exact Kd.R_nil _ _ _ _ _ | exact Kd.N_nil _ _ _ _ _ | exact Kd.V_nil _ _ _ _ _ | exact Kd.Q_nil _ _ _ _ _ | exact Kd.S_nil _ _ _ _ _,HB.out⟩
 subst c3
 replace H : ((ga_gates.f k l0_0 l0_1).bind fun t206=>(ga_Vital.l0 k ([] : List Int) t206 (t206.length : Int) 0 l0_0 l0_1)) = some (r1,r2):=by rw [if_pos rfl] at H;exact H
 replace H:=obm H
 obtain ⟨t206,A40,H⟩:=H
 replace H : (ga_Vital.l0 k ([] : List Int) t206 (t206.length : Int) 0 l0_0 l0_1) = some (r1,r2):=H
 have A4:=am A40
 clear A40
 replace H':=am H
 go_enter Tryz.func39,Tryz.ntmps39
 go_wp2_with (first | ((refine ga_dst (N:=1) rfl ?_);refine box_event rfl (N:=1) rfl (cs:=#[.slice A0_0 l0_0.length c0_0,.slice A0_1 l0_1.length c0_1]) (t:=25) ?hr ?_;(case hr=>go_simp;try rfl);intro gb204 hg w5 hbox hb;have BK204:=am (hbox);have GW204:=am (ge_new (HB.out) hg);have GE204:=am (ge_new (HB.out) hg);replace HB:=am (below_step (HB.out) hb);clear hb hbox hg;obtain ⟨hcz6_0,hcz6_1⟩:=cO2 BK204.out) | ((with_reducible refine ga_callee (f:=55) rfl ?_);refine goesL_ (some 8) rfl rfl Tryz.func55 (by kernel_rfl) rfl #[.agg #[.slice A0_0 l0_0.length c0_0,.slice A0_1 l0_1.length c0_1]] rfl (by (try simp only [List.map_toArray,List.map_cons,List.map_nil]);first | done | rfl | (simp only [List.length_drop,List.length_take];rfl)) ?_;(refine (ga_isNet.calls k _ _ l0_0 _ _ l0_1 true _ ?side1 ?side2 ?side3 ?side4 A2.out).mono ?_);(case side1=>exact kC HR0_0.out HB.out);(case side2=>exact HC0_0.out);(case side3=>exact kC HR0_1.out HB.out);(case side4=>exact HC0_1.out);rintro e w7 ⟨rfl,hb⟩;refine ⟨_,rfl,?_⟩;replace BK204:=(kmv hb BK204);replace HB:=am (below_step (HB.out) hb);(try clear hb);(try clear hb2);(try clear hk);(try clear hi);obtain ⟨hcz8_0,hcz8_1⟩:=cO2 BK204.out) | ((with_reducible refine ga_callee (f:=76) rfl ?_);refine goesL_ (some 11) rfl rfl Tryz.func76 (by kernel_rfl) rfl #[.agg #[.slice A0_0 l0_0.length c0_0,.slice A0_1 l0_1.length c0_1]] rfl (by (try simp only [List.map_toArray,List.map_cons,List.map_nil]);first | done | rfl | (simp only [List.length_drop,List.length_take];rfl)) ?_;(refine (ga_gates.calls k _ _ l0_0 _ _ l0_1 t206 _ ?side1 ?side2 ?side3 ?side4 A4.out).mono ?_);(case side1=>exact kC HR0_0.out HB.out);(case side2=>exact HC0_0.out);(case side3=>exact kC HR0_1.out HB.out);(case side4=>exact HC0_1.out);rintro e w9 ⟨v207,rfl,ho0,hb⟩;refine ⟨_,rfl,?_⟩;have HO208:=am (Kd.R_lower ho0 (below_size (HB.out)));replace BK204:=(kmv hb BK204);replace HB:=am (below_step (HB.out) hb);(try clear hb);(try clear hb2);(try clear hk);(try clear hi);(try clear ho0);obtain ⟨Ao10,co10,eo10⟩:=Kd.R_slice HO208.out;subst eo10))
 go_loopg [4,13] k (fun kq v4 v13 w'=>∃ (x4_1 : List Int) (x13_1 : Int),v13 = .int .i64 x13_1∧Aside0 (ga_Vital.l0 kq x4_1 t206 (t206.length : Int) x13_1 l0_0 l0_1 = some (r1,r2))∧Aside0 (kq≤k)∧Aside0 (Kd.R (Kd.int .i64) 3 w' w.heap.size (fun k_=>some k_ ≠ ((.slice Ao10 t206.length co10) : Value).ownBlock) v4 x4_1)∧Aside0 (Kd.R (Kd.int .i64) 3 w' w.heap.size (fun k_=>some k_ ≠ (v4 : Value).ownBlock) (.slice Ao10 t206.length co10) t206)∧Aside0 (w'.heap[gb204]? = some (.cells #[(.slice A0_0 l0_0.length c0_0),(.slice A0_1 l0_1.length c0_1)] 25 (0,0)))∧Aside0 (Below w.heap.size w w'))
 case atStart=>exact ⟨(([] : List Int)),(0),(by first | rfl | (simp;done) | (simp [*];done)),H',⟨Nat.le_refl _⟩,⟨by first | exact Kd.R_nil _ _ _ _ _ | exact Kd.N_nil _ _ _ _ _ | exact Kd.V_nil _ _ _ _ _ | exact Kd.Q_nil _ _ _ _ _ | exact Kd.S_nil _ _ _ _ _⟩,⟨by (with_reducible repeat (first | apply Kd.R_alloc | apply Kd.R_drewN | apply Kd.R_drew));exact Kd.R_mono HO208.out (fun _ hk=>(by simp [Value.ownBlock]))⟩,⟨BK204.out⟩,⟨HB.out⟩⟩
 case round =>
  clear H'
  obtain ⟨x4_1,x13_1,rfl,HA,HK1,HO_4,HO_11,BK204,HB⟩:=hrel
  cases gk with
  | zero=>exact absurd HA.out (by simp [ga_Vital.l0])
  | succ k1 =>
   have H:=HA.out
   clear HA
   simp only [ga_Vital.l0] at H
   by_cases c11 : x13_1 < (t206.length : Int)
   case neg =>
    rw [if_neg c11] at H
    have c11b0 : decide (x13_1 < (t206.length : Int)) = false:=decide_eq_false c11
    clear c11
    simp only [Option.some.injEq,Prod.mk.injEq] at H
    obtain ⟨rfl,rfl⟩:=H
    go_wp2
    go_ret2
    exact ⟨_,by first | rfl | (simp [*]<;>rfl),by (with_reducible repeat (first | apply Kd.R_alloc | apply Kd.R_drewN | apply Kd.R_drew));exact Kd.R_mono HO_4.out (fun _ hk=>trivial),HB.out⟩
   rw [if_pos c11] at H
   have c11b0 : decide (x13_1 < (t206.length : Int)) = true:=decide_eq_true c11
   clear c11
   by_cases c12 : 0≤x13_1
   case neg =>
    rw [if_neg c12] at H
    exact absurd H (by simp)
   rw [if_pos c12] at H
   have c12b0 : decide (0≤x13_1) = true:=decide_eq_true c12
   clear c12
   by_cases c13 : x13_1 < (t206.length : Int)
   case neg =>
    rw [if_neg c13] at H
    exact absurd H (by simp)
   rw [if_pos c13] at H
   have c13b0 : decide (x13_1 < (t206.length : Int)) = true:=decide_eq_true c13
   clear c13
   obtain ⟨y210,hy210⟩ : ∃ y_ : List Int,y_ = (([rd t206 x13_1] : List Int)):=⟨_,rfl⟩
   replace H : ((ga_can.f k1 l0_0 l0_1 y210).bind fun t213=>(if t213 = true then (ga_Vital.l0 k1 x4_1 t206 (t206.length : Int) (wrap64 (x13_1 + 1)) l0_0 l0_1) else (if x4_1.length < 17592186044416 then (ga_Vital.l0 k1 (x4_1 ++ [rd t206 x13_1]) t206 (t206.length : Int) (wrap64 (x13_1 + 1)) l0_0 l0_1) else (none)))) = some (r1,r2):=by first | (rw [hy210];with_reducible exact H) | (have H2_:=(Option.bind_some _ _).symm.trans H;rw [hy210];with_reducible exact H2_) | (have H2_:=(Option.bind_some _ _).symm.trans H;with_reducible exact H2_) | with_reducible exact H | (rw [hy210];exact H) | exact H
   have Ny210:=am hy210
   clear hy210
   replace H:=obm H
   obtain ⟨t213,A140,H⟩:=H
   replace H : (if t213 = true then (ga_Vital.l0 k1 x4_1 t206 (t206.length : Int) (wrap64 (x13_1 + 1)) l0_0 l0_1) else (if x4_1.length < 17592186044416 then (ga_Vital.l0 k1 (x4_1 ++ [rd t206 x13_1]) t206 (t206.length : Int) (wrap64 (x13_1 + 1)) l0_0 l0_1) else (none))) = some (r1,r2):=H
   have A14:=am A140
   clear A140
   by_cases c15 : t213 = true
   ·subst c15
    replace H : (ga_Vital.l0 k1 x4_1 t206 (t206.length : Int) (wrap64 (x13_1 + 1)) l0_0 l0_1) = some (r1,r2):=by rw [if_pos rfl] at H;exact H
    replace H':=am H
    have p209 : 0≤(x13_1 : Int):=of_decide_eq_true (by assumption)
    have q209 : x13_1 < (t206.length : Int):=of_decide_eq_true (by assumption)
    obtain ⟨ad209,e209,hx209_0⟩:=Kd.at_int (Kd.R_reads' HO_11.out).2.2 x13_1 p209 q209
    cases e209
    replace p209:=eq_true p209
    replace q209:=eq_true q209
    obtain ⟨hcz16_0,hcz16_1⟩:=cO2 BK204.out
    go_wp2_with (first | ((refine ga_dst (N:=19) rfl ?_);refine Kd.R_lit (Kd.int .i64) _ 3 ?hg (N:=19) ?hd (xs:=([rd t206 x13_1] : List Int)) (inner:=[.int .i64 (rd t206 x13_1)]) (ok:=fun _=>True) (okp:=fun _=>True) ?hr ?hp (fun _ hk=>hk) trivial (Below.refl _ _) (Nat.le_refl _) (by simp) ?_;(case hd=>rfl);(case hg=>rfl);(case hr=>go_simp;try rfl);(case hp=>exact (Reps.one (show Kd.M (Kd.int .i64) _ _ _ (rd t206 x13_1) [.int .i64 (rd t206 x13_1)] from rfl) (Reps.none _ _)));intro v211 w17 ho18 hb hg_ hnew_;clear hg_ hnew_;(first | rw [← Ny210.out] at ho18 | (simp only [Int.reduceToNat] at ho18;rw [← Ny210.out] at ho18));have HO212:=am (Kd.R_lower (Kd.R_new' (Kd.R_new' ho18 (Kd.R_lt HO_4.out)) (Kd.R_lt HO_11.out)) (below_size (HB.out)));replace HO_4:=am (Kd.R_elder' HO_4.out (Kd.R_base ho18) hb);replace HO_11:=am (Kd.R_elder' HO_11.out (Kd.R_base ho18) hb);replace BK204:=(kmv hb BK204);replace HB:=am (below_step (HB.out) hb);clear hb ho18;obtain ⟨Ao19,co19,eo19⟩:=Kd.R_slice HO212.out;subst eo19) | ((with_reducible refine ga_callee (f:=85) rfl ?_);refine goesL_ (some 20) rfl rfl Tryz.func85 (by kernel_rfl) rfl #[.agg #[.slice A0_0 l0_0.length c0_0,.slice A0_1 l0_1.length c0_1],.slice Ao19 y210.length co19] rfl (by (try simp only [List.map_toArray,List.map_cons,List.map_nil]);first | done | rfl | (simp only [List.length_drop,List.length_take];rfl)) ?_;(refine (ga_can.calls k1 _ _ l0_0 _ _ l0_1 _ _ y210 true _ ?side1 ?side2 ?side3 ?side4 ?side5 ?side6 A14.out).mono ?_);(case side1=>exact kC HR0_0.out HB.out);(case side2=>exact HC0_0.out);(case side3=>exact kC HR0_1.out HB.out);(case side4=>exact HC0_1.out);(case side5=>repeat (first | exact (Kd.R_reads' HO212.out).2.2 | (with_reducible refine Kd.C_alloc ?_ _) | (with_reducible refine Kd.C_drewN ?_ _) | (with_reducible refine Kd.C_drew ?_)));(case side6=>exact (Kd.R_reads' HO212.out).2.1);rintro e w20 ⟨rfl,hb⟩;refine ⟨_,rfl,?_⟩;replace HO_4:=am (Kd.R_below HO_4.out hb);replace HO_11:=am (Kd.R_below HO_11.out hb);replace HO212:=am (Kd.R_below HO212.out hb);replace BK204:=(kmv hb BK204);replace HB:=am (below_step (HB.out) hb);(try clear hb);(try clear hb2);(try clear hk);(try clear hi)))
    go_roundg k1
    case measure=>have:=HK1.out;omega
    case rel=>exact ⟨(x4_1),(wrap64 (x13_1 + 1)),(by first | rfl | (simp;done) | (simp [*];done)),H',⟨by have:=HK1.out;omega⟩,⟨by (with_reducible repeat (first | apply Kd.R_alloc | apply Kd.R_drewN | apply Kd.R_drew));exact Kd.R_mono HO_4.out (fun _ hk=>hk.1)⟩,⟨by (with_reducible repeat (first | apply Kd.R_alloc | apply Kd.R_drewN | apply Kd.R_drew));exact Kd.R_mono HO_11.out (fun _ hk=>hk.1)⟩,⟨BK204.out⟩,⟨HB.out⟩⟩
   ·replace c15:=Bool.eq_false_iff.mpr c15
    subst c15
    replace H : (if x4_1.length < 17592186044416 then (ga_Vital.l0 k1 (x4_1 ++ [rd t206 x13_1]) t206 (t206.length : Int) (wrap64 (x13_1 + 1)) l0_0 l0_1) else (none)) = some (r1,r2):=by rw [if_neg (show ¬ (false = true) by decide)] at H;exact H
    by_cases c21 : x4_1.length < 17592186044416
    case neg =>
     rw [if_neg c21] at H
     exact absurd H (by simp)
    rw [if_pos c21] at H
    have LMc21:=am c21
    clear c21
    obtain ⟨y214,hy214⟩ : ∃ y_ : List Int,y_ = (x4_1 ++ [rd t206 x13_1]):=⟨_,rfl⟩
    replace H : (ga_Vital.l0 k1 y214 t206 (t206.length : Int) (wrap64 (x13_1 + 1)) l0_0 l0_1) = some (r1,r2):=by first | (rw [hy214];with_reducible exact H) | (have H2_:=(Option.bind_some _ _).symm.trans H;rw [hy214];with_reducible exact H2_) | (have H2_:=(Option.bind_some _ _).symm.trans H;with_reducible exact H2_) | with_reducible exact H | (rw [hy214];exact H) | exact H
    have Ny214:=am hy214
    clear hy214
    replace H':=am H
    have p209 : 0≤(x13_1 : Int):=of_decide_eq_true (by assumption)
    have q209 : x13_1 < (t206.length : Int):=of_decide_eq_true (by assumption)
    obtain ⟨ad209,e209,hx209_0⟩:=Kd.at_int (Kd.R_reads' HO_11.out).2.2 x13_1 p209 q209
    cases e209
    replace p209:=eq_true p209
    replace q209:=eq_true q209
    obtain ⟨hcz22_0,hcz22_1⟩:=cO2 BK204.out
    go_wp2_with (first | ((refine ga_dst (N:=19) rfl ?_);refine Kd.R_lit (Kd.int .i64) _ 3 ?hg (N:=19) ?hd (xs:=([rd t206 x13_1] : List Int)) (inner:=[.int .i64 (rd t206 x13_1)]) (ok:=fun _=>True) (okp:=fun _=>True) ?hr ?hp (fun _ hk=>hk) trivial (Below.refl _ _) (Nat.le_refl _) (by simp) ?_;(case hd=>rfl);(case hg=>rfl);(case hr=>go_simp;try rfl);(case hp=>exact (Reps.one (show Kd.M (Kd.int .i64) _ _ _ (rd t206 x13_1) [.int .i64 (rd t206 x13_1)] from rfl) (Reps.none _ _)));intro v211 w23 ho24 hb hg_ hnew_;clear hg_ hnew_;(first | rw [← Ny210.out] at ho24 | (simp only [Int.reduceToNat] at ho24;rw [← Ny210.out] at ho24));have HO212:=am (Kd.R_lower (Kd.R_new' (Kd.R_new' ho24 (Kd.R_lt HO_4.out)) (Kd.R_lt HO_11.out)) (below_size (HB.out)));replace HO_4:=am (Kd.R_elder' HO_4.out (Kd.R_base ho24) hb);replace HO_11:=am (Kd.R_elder' HO_11.out (Kd.R_base ho24) hb);replace BK204:=(kmv hb BK204);replace HB:=am (below_step (HB.out) hb);clear hb ho24;obtain ⟨Ao25,co25,eo25⟩:=Kd.R_slice HO212.out;subst eo25) | ((with_reducible refine ga_callee (f:=85) rfl ?_);refine goesL_ (some 20) rfl rfl Tryz.func85 (by kernel_rfl) rfl #[.agg #[.slice A0_0 l0_0.length c0_0,.slice A0_1 l0_1.length c0_1],.slice Ao25 y210.length co25] rfl (by (try simp only [List.map_toArray,List.map_cons,List.map_nil]);first | done | rfl | (simp only [List.length_drop,List.length_take];rfl)) ?_;(refine (ga_can.calls k1 _ _ l0_0 _ _ l0_1 _ _ y210 false _ ?side1 ?side2 ?side3 ?side4 ?side5 ?side6 A14.out).mono ?_);(case side1=>exact kC HR0_0.out HB.out);(case side2=>exact HC0_0.out);(case side3=>exact kC HR0_1.out HB.out);(case side4=>exact HC0_1.out);(case side5=>repeat (first | exact (Kd.R_reads' HO212.out).2.2 | (with_reducible refine Kd.C_alloc ?_ _) | (with_reducible refine Kd.C_drewN ?_ _) | (with_reducible refine Kd.C_drew ?_)));(case side6=>exact (Kd.R_reads' HO212.out).2.1);rintro e w26 ⟨rfl,hb⟩;refine ⟨_,rfl,?_⟩;replace HO_4:=am (Kd.R_below HO_4.out hb);replace HO_11:=am (Kd.R_below HO_11.out hb);replace HO212:=am (Kd.R_below HO212.out hb);replace BK204:=(kmv hb BK204);replace HB:=am (below_step (HB.out) hb);(try clear hb);(try clear hb2);(try clear hk);(try clear hi)) | ((with_reducible refine ga_builtin (b:=.append) (xs:=#[.tmp 22,.tmp 24]) rfl ?_);at_builtin;refine Kd.R_append (Kd.int .i64) (w0:=w) w.heap.size rfl (.tmp 22) (.tmp 24) 26 3 (.int .i64 0) 8 rfl Tryz.underlying26 info3 rfl (by decide) (by omega) u4 x4_1 (rd t206 x13_1) [.int .i64 (rd t206 x13_1)] (fun k_=>some k_ ≠ (.slice (some ad209) t206.length co10 : Value).ownBlock∧some k_ ≠ (.slice Ao25 y210.length co25 : Value).ownBlock) (fun _=>False) rfl rfl ?aP (fun _ hk=>hk.elim) ?aF ?aO ?aB ?aS ?aL ?_;(case aP=>exact rfl);(case aB=>exact (HB.out));(case aF=>exact (fun k_ hk=>⟨Kd.fresh' (Kd.R_lt HO_11.out) k_ hk,Kd.fresh' (Kd.R_lt HO212.out) k_ hk⟩));(case aO=>exact HO_4.out);(case aS=>exact (below_size (HB.out)));(case aL=>have:=LMc21.out;omega);intro v215 w27 ho hb hg hat;rw [← Ny214.out] at ho;have n0_:=am (Kd.R_after (ok:=(fun k_=>some k_ ≠ (.slice Ao25 y210.length co25 : Value).ownBlock)) (Kd.R_mono HO_11.out (fun _ hk=>⟨hk.2,hk.1⟩)) hg hat);have n1_:=am (blk_grown (g:=gb204) (o:=.cells #[.slice A0_0 l0_0.length c0_0,.slice A0_1 l0_1.length c0_1] 25 (0,0)) BK204.out hg (Kd.R_ne HO_4.out BK204.out (by decide)));have n2_:=am (Kd.R_after (ok:=(fun k_=>some k_ ≠ (.slice (some ad209) t206.length co10 : Value).ownBlock)) (Kd.R_mono HO212.out (fun _ hk=>⟨hk.2,hk.1.2⟩)) hg hat);have n3_:=am (hb);have n4_:=am (ho);clear HO_11;clear BK204;clear HO212;clear HB;clear HO_4;have HO_11:=n0_;have BK204:=n1_;have HO212:=n2_;have HB:=n3_;have HO216:=n4_;clear n0_ n1_ n2_ n3_ n4_;clear ho hb hg hat))
    go_roundg k1
    case measure=>have:=HK1.out;omega
    case rel=>exact ⟨(y214),(wrap64 (x13_1 + 1)),(by first | rfl | (simp;done) | (simp [*];done)),H',⟨by have:=HK1.out;omega⟩,⟨by (with_reducible repeat (first | apply Kd.R_alloc | apply Kd.R_drewN | apply Kd.R_drew));exact Kd.R_mono HO216.out (fun _ hk=>hk.1)⟩,⟨by (with_reducible repeat (first | apply Kd.R_alloc | apply Kd.R_drewN | apply Kd.R_drew));exact Kd.R_mono HO_11.out (fun _ hk=>hk.2)⟩,⟨BK204.out⟩,⟨HB.out⟩⟩
def q8_Proof.f (k : Nat) (l0_0 : List (S37)) (l0_1 : List (S65)) (l1 : List Int) : Option (List Int × Bool):=(q8_Rest.f k l0_0 l0_1 l1).bind fun t609=>((q8_Cut.f k l0_0 l0_1 t609 false).bind fun bt612=>(some (bt612.1,bt612.2)))
def q8_Proof.T1 : Bool × List (List Nat × List Nat):=(true,[([],[]),([],[]),([],[]),([1,2],[1,2]),([0,3,3],[0,3]),([4],[4]),([4],[4]),([5,4,0,1,2,3,4,5,6],[5]),([6,7,0,1,2,3,4,5,6,7],[6])])
def q8_Proof.B1 : List Nat:=[0,0,0,6,15,31,31,127,255]
theorem q8_Proof.tab1 : rtab .any (opsOf Tryz.f41 1) = q8_Proof.T1:=by kernel_rfl
theorem q8_Proof.bits1 : waitsOk q8_Proof.T1.2 q8_Proof.B1 = true:=by kernel_rfl
theorem q8_Proof.calls (k : Nat) (A0_0 : Option Addr) (c0_0 : Nat) (l0_0 : List (S37)) (A0_1 : Option Addr) (c0_1 : Nat) (l0_1 : List (S65)) (A1 : Option Addr) (c1 : Nat) (l1 : List Int) (r1 : List Int) (r2 : Bool) (w : World) (hr0_0 : Kd.C k37 w A0_0 l0_0.length l0_0) (hc0_0 : l0_0.length≤c0_0) (hr0_1 : Kd.C k65 w A0_1 l0_1.length l0_1) (hc0_1 : l0_1.length≤c0_1) (hr1 : Kd.C (Kd.int .i64) w A1 l1.length l1) (hc1 : l1.length≤c1) (h : q8_Proof.f k l0_0 l0_1 l1 = some (r1,r2)) :
 Calls Tryz.prog 41 #[.agg #[.slice A0_0 l0_0.length c0_0,.slice A0_1 l0_1.length c0_1],.slice A1 l1.length c1] w fun e w'=>∃ v0_ : Value,e = .returned (.tuple #[v0_,.bool r2])∧Kd.V (Kd.int .i64) 3 w' w.heap.size (fun k_=>(w.heap.size≤k_)) v0_ r1∧Below w.heap.size w w':=by
 have hu25:=Tryz.underlying25
 have HR0_0:=am hr0_0
 have HC0_0:=am hc0_0
 clear hr0_0 hc0_0
 have HR0_1:=am hr0_1
 have HC0_1:=am hc0_1
 clear hr0_1 hc0_1
 have HR1:=am hr1
 have HC1:=am hc1
 clear hr1 hc1
 have HB:=am (Below.refl w.heap.size w)
 have H : ((q8_Rest.f k l0_0 l0_1 l1).bind fun t609=>((q8_Cut.f k l0_0 l0_1 t609 false).bind fun bt612=>(some (bt612.1,bt612.2)))) = some (r1,r2):=h
 clear h
 replace H:=obm H
 obtain ⟨t609,A30,H⟩:=H
 replace H : ((q8_Cut.f k l0_0 l0_1 t609 false).bind fun bt612=>(some (bt612.1,bt612.2))) = some (r1,r2):=H
 have A3:=am A30
 clear A30
 replace H:=obm H
 obtain ⟨⟨t612,t615⟩,A40,H⟩:=H
 replace H : (some (t612,t615)) = some (r1,r2):=H
 have A4:=am A40
 clear A40
 simp only [Option.some.injEq,Prod.mk.injEq] at H
 obtain ⟨rfl,rfl⟩:=H
 go_enter Tryz.func41,Tryz.ntmps41
 try go_wp2_with (first | ((refine ga_dst (N:=2) rfl ?_);refine box_event rfl (N:=2) rfl (cs:=#[.slice A0_0 l0_0.length c0_0,.slice A0_1 l0_1.length c0_1]) (t:=25) ?hr ?_;(case hr=>go_simp;try rfl);intro gb608 hg w5 hbox hb;have BK608:=am (hbox);have GW608:=am (ge_new (HB.out) hg);have GE608:=am (ge_new (HB.out) hg);replace HB:=am (below_step (HB.out) hb);clear hb hbox hg))
 replace BK608:=am (blk_drew BK608.out)
 replace HB:=am (below_drew1 HB.out)
 refine start_ (n:=9) (S:=fun w'=>w'.cell? ⟨gb608,0,none⟩ = some (.slice A0_0 l0_0.length c0_0)∧w'.cell? ⟨gb608,1,none⟩ = some (.slice A0_1 l0_1.length c0_1)) (ds:=[]) (ba 9 0) (by kernel_rfl) rfl rfl ⟨(blk_cell BK608.out 0).trans rfl,(blk_cell BK608.out 1).trans rfl⟩ (fun hHeld=>?_);refine with_tabW q8_Proof.tab1 q8_Proof.bits1 (fun HT_ HW_=>?_)
 generalize w5.drew = w6 at BK608 HB hHeld ⊢
 refine pure_ (i:=2) (N:=some 8) (v:=?_) (a':=?_) (ba 9 4) rfl rfl (any_of HT_.out (by kernel_rfl)) (fun _ _ _ h=>h) (Or.inl ⟨by rfl,?_⟩) ?_ ?_
 rotate_left
 ·intro w'
  go_simp
  with_reducible rfl
 rotate_left
 ·simp only [Act.put,NRM]
  rfl
 refine take_ (i:=0) (N:=some 6) (v:=?_) (a':=?_) (ba 9 5) rfl rfl (take_ofW HT_.out HW_.out (by kernel_rfl)) (fun _ _ _ h=>h) (Or.inl ⟨by rfl,?_⟩) hHeld ?_ ?_
 rotate_left
 ·rintro w' ⟨s0,s1⟩
  go_simp
  with_reducible rfl
 rotate_left
 ·simp only [Act.put,NRM]
  rfl
 refine take_ (i:=1) (N:=some 7) (v:=?_) (a':=?_) (ba 9 7) rfl rfl (take_ofW HT_.out HW_.out (by kernel_rfl)) (fun _ _ _ h=>h) (Or.inl ⟨by rfl,?_⟩) hHeld ?_ ?_
 rotate_left
 ·rintro w' ⟨s0,s1⟩
  go_simp
  with_reducible rfl
 rotate_left
 ·simp only [Act.put,NRM]
  rfl
 refine one_ (i:=3) (N:=some 9) (ba 9 15) rfl rfl (one_of HT_.out (by kernel_rfl)) (by decide) (fun K hK=>?_)
 refine goes_ Tryz.func87 (by kernel_rfl) rfl #[.agg #[.slice A0_0 l0_0.length c0_0,.slice A0_1 l0_1.length c0_1],.slice A1 l1.length c1] (by rfl) rfl rfl (by (try simp only [List.map_toArray,List.map_cons,List.map_nil]);first | done | rfl | (simp only [List.length_drop,List.length_take];rfl)) ?_
 with_reducible refine (q8_Rest.calls k _ _ l0_0 _ _ l0_1 _ _ l1 t609 _ ?side1 ?side2 ?side3 ?side4 ?side5 ?side6 A3.out).mono ?_
 (case side1=>exact kC HR0_0.out HB.out)
 (case side2=>exact HC0_0.out)
 (case side3=>exact kC HR0_1.out HB.out)
 (case side4=>exact HC0_1.out)
 (case side5=>exact kC HR1.out HB.out)
 (case side6=>exact HC1.out)
 rintro e w7 ⟨v610,rfl,ho0,hb⟩
 refine ⟨_,rfl,?_⟩
 have HO611:=am (Kd.R_lower (Kd.R_newM (M:=fun k_=>(w.heap.size≤k_)) ho0 (below_size (HB.out)) (fun k_ h_=>h_)) (below_size (HB.out)))
 replace BK608:=(kmv hb BK608)
 replace HB:=am (below_step (HB.out) hb)
 (try clear hb)
 (try clear hb2)
 (try clear hk)
 (try clear hi)
 (try clear ho0)
 obtain ⟨Ao8,co8,eo8⟩:=Kd.R_slice HO611.out
 (first | subst eo8 | (injection eo8 with f1_ f2_ f3_;have f4_:=f1_.symm;have f5_:=f3_.symm;clear f1_ f2_ f3_;subst f4_;subst f5_))
 refine hK.out _ _ ⟨(blk_cell BK608.out 0).trans rfl,(blk_cell BK608.out 1).trans rfl⟩ (fun hHeld=>?_)
 clear hK K
 refine norm_ (a':=?_) ?_ ?_
 rotate_left
 ·show Act.put _ (some 9) _ = _
  simp only [Act.put,NRM]
  rfl
 refine one_ (i:=4) (N:=some 10) (ba 9 31) rfl rfl (one_of HT_.out (by kernel_rfl)) (by decide) (fun K hK=>?_)
 refine goes_ Tryz.func24 (by kernel_rfl) rfl #[.agg #[.slice A0_0 l0_0.length c0_0,.slice A0_1 l0_1.length c0_1],.slice Ao8 t609.length co8,.bool false] (by rfl) rfl rfl (by (try simp only [List.map_toArray,List.map_cons,List.map_nil]);first | done | rfl | (simp only [List.length_drop,List.length_take];rfl)) ?_
 with_reducible refine (q8_Cut.calls k _ _ l0_0 _ _ l0_1 _ _ t609 false t612 t615 _ ?side1 ?side2 ?side3 ?side4 ?side5 ?side6 A4.out).mono ?_
 (case side1=>exact kC HR0_0.out HB.out)
 (case side2=>exact HC0_0.out)
 (case side3=>exact kC HR0_1.out HB.out)
 (case side4=>exact HC0_1.out)
 (case side5=>repeat (first | exact (Kd.R_reads' HO611.out).2.2 | (with_reducible refine Kd.C_alloc ?_ _) | (with_reducible refine Kd.C_drewN ?_ _) | (with_reducible refine Kd.C_drew ?_)))
 (case side6=>exact (Kd.R_reads' HO611.out).2.1)
 rintro e w9 ⟨v613,rfl,ho0,hb⟩
 refine ⟨_,rfl,?_⟩
 have HO614:=am (Kd.V_lower (Kd.V_mono (ok':=fun k_=>(w.heap.size≤k_)∧some k_ ≠ (.slice Ao8 t609.length co8 : Value).ownBlock∧k_ ≠ gb608) ho0 (fun k_ hk_=>⟨(Nat.le_trans (below_size (HB.out)) hk_),(Kd.fresh' (Kd.R_lt HO611.out) k_ hk_),(Kd.freshB (g:=gb608) (o:=.cells #[.slice A0_0 l0_0.length c0_0,.slice A0_1 l0_1.length c0_1] 25 (0,0)) BK608.out k_ hk_)⟩)) (below_size (HB.out)))
 replace HO611:=am (Kd.R_below HO611.out hb)
 replace BK608:=(kmv hb BK608)
 replace HB:=am (below_step (HB.out) hb)
 (try clear hb)
 (try clear hb2)
 (try clear hk)
 (try clear hi)
 (try clear ho0)
 refine hK.out _ _ ⟨(blk_cell BK608.out 0).trans rfl,(blk_cell BK608.out 1).trans rfl⟩ (fun hHeld=>?_)
 clear hK K
 refine norm_ (a':=?_) ?_ ?_
 rotate_left
 ·show Act.put _ (some 10) _ = _
  simp only [Act.put,NRM]
  rfl
 refine pure_ (i:=5) (N:=some 11) (v:=?_) (a':=?_) (ba 9 63) rfl rfl (any_of HT_.out (by kernel_rfl)) (fun _ _ _ h=>h) (Or.inl ⟨by rfl,?_⟩) ?_ ?_
 rotate_left
 ·intro w'
  go_simp
  with_reducible rfl
 rotate_left
 ·simp only [Act.put,NRM]
  rfl
 refine pure_ (i:=6) (N:=some 12) (v:=?_) (a':=?_) (ba 9 127) rfl rfl (any_of HT_.out (by kernel_rfl)) (fun _ _ _ h=>h) (Or.inl ⟨by rfl,?_⟩) ?_ ?_
 rotate_left
 ·intro w'
  go_simp
  with_reducible rfl
 rotate_left
 ·simp only [Act.put,NRM]
  rfl
 refine pure_ (i:=7) (N:=some 4) (v:=?_) (a':=?_) (ba 9 255) rfl rfl (any_of HT_.out (by kernel_rfl)) (fun _ _ _ h=>h) (Or.inl ⟨by rfl,?_⟩) ?_ ?_
 rotate_left
 ·intro w'
  go_simp
  with_reducible rfl
 rotate_left
 ·simp only [Act.put,NRM]
  rfl
 refine pure_ (i:=8) (N:=some 5) (v:=?_) (a':=?_) (ba 9 511) rfl rfl (any_of HT_.out (by kernel_rfl)) (fun _ _ _ h=>h) (Or.inl ⟨by rfl,?_⟩) ?_ ?_
 rotate_left
 ·intro w'
  go_simp
  with_reducible rfl
 rotate_left
 ·simp only [Act.put,NRM]
  rfl
 refine done_ (done_of HT_.out (by kernel_rfl)) ?_
 try go_wp2
 go_ret2
 exact ⟨_,by first | rfl | (simp [*]<;>rfl),by (with_reducible repeat (first | apply Kd.V_alloc | apply Kd.V_drewN | apply Kd.V_drew));exact Kd.V_mono HO614.out (fun _ hk=>hk.1),HB.out⟩
def q8_Vital.l0 : Nat→List Int→List Int→Int→List (S37)→List (S65)→Option (List Int)
 | 0,_,_,_,_,_=>none
 | k + 1,x3,x4,x5,x596000,x596001=>if x5 < (x4.length : Int) then (if 0≤x5 then ((q8_Can.f k x596000 x596001 (([rd x4 x5] : List Int))).bind fun t603=>(if t603 = true then (q8_Vital.l0 k x3 x4 (wrap64 (x5 + 1)) x596000 x596001) else (if x3.length < 17592186044416 then (q8_Vital.l0 k (x3 ++ [rd x4 x5]) x4 (wrap64 (x5 + 1)) x596000 x596001) else (none)))) else (none)) else (some x3)
def q8_Vital.f (k : Nat) (l0_0 : List (S37)) (l0_1 : List (S65)) : Option (List Int):=(q8_Gates.f k l0_0 l0_1).bind fun t596=>(q8_Vital.l0 k ([] : List Int) t596 0 l0_0 l0_1)
def q8_Vital.T6 : Bool × List (List Nat × List Nat):=(true,[([],[]),([],[]),([],[]),([1,2],[1,2]),([3],[3]),([4],[4]),([0,5],[0,5]),([6],[6])])
def q8_Vital.B6 : List Nat:=[0,0,0,6,14,30,63,127]
theorem q8_Vital.tab6 : rtab .any (opsOf Tryz.f40 6) = q8_Vital.T6:=by kernel_rfl
theorem q8_Vital.bits6 : waitsOk q8_Vital.T6.2 q8_Vital.B6 = true:=by kernel_rfl
theorem q8_Vital.calls (k : Nat) (A0_0 : Option Addr) (c0_0 : Nat) (l0_0 : List (S37)) (A0_1 : Option Addr) (c0_1 : Nat) (l0_1 : List (S65)) (r : List Int) (w : World) (hr0_0 : Kd.C k37 w A0_0 l0_0.length l0_0) (hc0_0 : l0_0.length≤c0_0) (hr0_1 : Kd.C k65 w A0_1 l0_1.length l0_1) (hc0_1 : l0_1.length≤c0_1) (h : q8_Vital.f k l0_0 l0_1 = some r) :
 Calls Tryz.prog 40 #[.agg #[.slice A0_0 l0_0.length c0_0,.slice A0_1 l0_1.length c0_1]] w fun e w'=>∃ v0_ : Value,e = .returned (v0_)∧Kd.R (Kd.int .i64) 3 w' w.heap.size (fun _=>True) v0_ r∧Below w.heap.size w w':=by
 have hu25:=Tryz.underlying25
 have HR0_0:=am hr0_0
 have HC0_0:=am hc0_0
 clear hr0_0 hc0_0
 have HR0_1:=am hr0_1
 have HC0_1:=am hc0_1
 clear hr0_1 hc0_1
 have HB:=am (Below.refl w.heap.size w)
 have H : ((q8_Gates.f k l0_0 l0_1).bind fun t596=>(q8_Vital.l0 k ([] : List Int) t596 0 l0_0 l0_1)) = some r:=h
 clear h
 replace H:=obm H
 obtain ⟨t596,A20,H⟩:=H
 replace H : (q8_Vital.l0 k ([] : List Int) t596 0 l0_0 l0_1) = some r:=H
 have A2:=am A20
 clear A20
 replace H':=am H
 go_enter Tryz.func40,Tryz.ntmps40
 go_wp2_with (first | ((refine ga_dst (N:=1) rfl ?_);refine box_event rfl (N:=1) rfl (cs:=#[.slice A0_0 l0_0.length c0_0,.slice A0_1 l0_1.length c0_1]) (t:=25) ?hr ?_;(case hr=>go_simp;try rfl);intro gb595 hg w3 hbox hb;have BK595:=am (hbox);have GW595:=am (ge_new (HB.out) hg);have GE595:=am (ge_new (HB.out) hg);replace HB:=am (below_step (HB.out) hb);clear hb hbox hg;obtain ⟨hcz4_0,hcz4_1⟩:=cO2 BK595.out) | ((with_reducible refine ga_callee (f:=82) rfl ?_);refine goesL_ (some 7) rfl rfl Tryz.func82 (by kernel_rfl) rfl #[.agg #[.slice A0_0 l0_0.length c0_0,.slice A0_1 l0_1.length c0_1]] rfl (by (try simp only [List.map_toArray,List.map_cons,List.map_nil]);first | done | rfl | (simp only [List.length_drop,List.length_take];rfl)) ?_;(refine (q8_Gates.calls k _ _ l0_0 _ _ l0_1 t596 _ ?side1 ?side2 ?side3 ?side4 A2.out).mono ?_);(case side1=>exact kC HR0_0.out HB.out);(case side2=>exact HC0_0.out);(case side3=>exact kC HR0_1.out HB.out);(case side4=>exact HC0_1.out);rintro e w5 ⟨v597,rfl,ho0,hb⟩;refine ⟨_,rfl,?_⟩;have HO598:=am (Kd.R_lower ho0 (below_size (HB.out)));replace BK595:=(kmv hb BK595);replace HB:=am (below_step (HB.out) hb);(try clear hb);(try clear hb2);(try clear hk);(try clear hi);(try clear ho0)))
 go_loopg [3,5] k (fun kq v3 v5 w'=>∃ (x3_1 : List Int) (x5_1 : Int),v5 = .int .i64 x5_1∧Aside0 (q8_Vital.l0 kq x3_1 t596 x5_1 l0_0 l0_1 = some r)∧Aside0 (kq≤k)∧Aside0 (Kd.R (Kd.int .i64) 3 w' w.heap.size (fun k_=>some k_ ≠ (v597 : Value).ownBlock) v3 x3_1)∧Aside0 (Kd.R (Kd.int .i64) 3 w' w.heap.size (fun k_=>some k_ ≠ (v3 : Value).ownBlock) v597 t596)∧Aside0 (w'.heap[gb595]? = some (.cells #[(.slice A0_0 l0_0.length c0_0),(.slice A0_1 l0_1.length c0_1)] 25 (0,0)))∧Aside0 (Below w.heap.size w w'))
 case atStart=>exact ⟨(([] : List Int)),(0),(by first | rfl | (simp;done) | (simp [*];done)),H',⟨Nat.le_refl _⟩,⟨by first | exact Kd.R_nil _ _ _ _ _ | exact Kd.N_nil _ _ _ _ _ | exact Kd.V_nil _ _ _ _ _ | exact Kd.Q_nil _ _ _ _ _ | exact Kd.S_nil _ _ _ _ _⟩,⟨by (with_reducible repeat (first | apply Kd.R_alloc | apply Kd.R_drewN | apply Kd.R_drew));exact Kd.R_mono HO598.out (fun _ hk=>(by simp [Value.ownBlock]))⟩,⟨BK595.out⟩,⟨HB.out⟩⟩
 case round =>
  clear H'
  obtain ⟨x3_1,x5_1,rfl,HA,HK1,HO_3,HO_4,BK595,HB⟩:=hrel
  cases gk with
  | zero=>exact absurd HA.out (by simp [q8_Vital.l0])
  | succ k1 =>
   have H:=HA.out
   clear HA
   simp only [q8_Vital.l0] at H
   by_cases c6 : x5_1 < (t596.length : Int)
   case neg =>
    rw [if_neg c6] at H
    have c6b0 : decide (x5_1 < (t596.length : Int)) = false:=decide_eq_false c6
    clear c6
    obtain rfl:=Option.some.inj H
    obtain ⟨Ao24,co24,eo24⟩:=Kd.R_slice HO_4.out
    subst eo24
    go_wp2
    go_ret
    exact ⟨_,by first | rfl | (simp [*]<;>rfl),by (with_reducible repeat (first | apply Kd.R_alloc | apply Kd.R_drewN | apply Kd.R_drew));exact Kd.R_mono HO_3.out (fun _ hk=>trivial),HB.out⟩
   rw [if_pos c6] at H
   have c6b0 : decide (x5_1 < (t596.length : Int)) = true:=decide_eq_true c6
   clear c6
   by_cases c7 : 0≤x5_1
   case neg =>
    rw [if_neg c7] at H
    exact absurd H (by simp)
   rw [if_pos c7] at H
   have c7b0 : decide (0≤x5_1) = true:=decide_eq_true c7
   clear c7
   obtain ⟨y600,hy600⟩ : ∃ y_ : List Int,y_ = (([rd t596 x5_1] : List Int)):=⟨_,rfl⟩
   replace H : ((q8_Can.f k1 l0_0 l0_1 y600).bind fun t603=>(if t603 = true then (q8_Vital.l0 k1 x3_1 t596 (wrap64 (x5_1 + 1)) l0_0 l0_1) else (if x3_1.length < 17592186044416 then (q8_Vital.l0 k1 (x3_1 ++ [rd t596 x5_1]) t596 (wrap64 (x5_1 + 1)) l0_0 l0_1) else (none)))) = some r:=by first | (rw [hy600];with_reducible exact H) | (have H2_:=(Option.bind_some _ _).symm.trans H;rw [hy600];with_reducible exact H2_) | (have H2_:=(Option.bind_some _ _).symm.trans H;with_reducible exact H2_) | with_reducible exact H | (rw [hy600];exact H) | exact H
   have Ny600:=am hy600
   clear hy600
   replace H:=obm H
   obtain ⟨t603,A80,H⟩:=H
   replace H : (if t603 = true then (q8_Vital.l0 k1 x3_1 t596 (wrap64 (x5_1 + 1)) l0_0 l0_1) else (if x3_1.length < 17592186044416 then (q8_Vital.l0 k1 (x3_1 ++ [rd t596 x5_1]) t596 (wrap64 (x5_1 + 1)) l0_0 l0_1) else (none))) = some r:=H
   have A8:=am A80
   clear A80
   by_cases c9 : t603 = true
   ·subst c9
    replace H : (q8_Vital.l0 k1 x3_1 t596 (wrap64 (x5_1 + 1)) l0_0 l0_1) = some r:=by rw [if_pos rfl] at H;exact H
    replace H':=am H
    obtain ⟨Ao10,co10,eo10⟩:=Kd.R_slice HO_4.out
    subst eo10
    try go_wp2
    replace HO_3:=am (Kd.R_drew HO_3.out)
    replace HO_4:=am (Kd.R_drew HO_4.out)
    replace BK595:=am (blk_drew BK595.out)
    replace HB:=am (below_drew1 HB.out)
    have p599 : 0≤(x5_1 : Int):=of_decide_eq_true (by assumption)
    have q599 : x5_1 < (t596.length : Int):=of_decide_eq_true (by assumption)
    obtain ⟨ad599,e599,hx599_0⟩:=Kd.at_int (Kd.R_reads' HO_4.out).2.2 x5_1 p599 q599
    cases e599
    replace p599:=eq_true p599
    replace q599:=eq_true q599
    refine start_ (n:=8) (S:=fun w'=>w'.cell? ⟨gb595,0,none⟩ = some (.slice A0_0 l0_0.length c0_0)∧w'.cell? ⟨gb595,1,none⟩ = some (.slice A0_1 l0_1.length c0_1)∧w'.cell? (ad599.add (x5_1).toNat) = some (.int .i64 (rd t596 x5_1))) (ds:=[]) (ba 8 0) (by kernel_rfl) rfl rfl ⟨(blk_cell BK595.out 0).trans rfl,(blk_cell BK595.out 1).trans rfl,hx599_0⟩ (fun hHeld=>?_);refine with_tabW q8_Vital.tab6 q8_Vital.bits6 (fun HT_ HW_=>?_)
    generalize wr.drew = w11 at HO_3 HO_4 BK595 HB hx599_0 hHeld ⊢
    refine pure_ (i:=1) (N:=some 15) (v:=?_) (a':=?_) (ba 8 2) rfl rfl (any_of HT_.out (by kernel_rfl)) (fun _ _ _ h=>h) (Or.inl ⟨by rfl,?_⟩) ?_ ?_
    rotate_left
    ·intro w'
     go_simp
     with_reducible rfl
    rotate_left
    ·simp only [Act.put,NRM]
     rfl
    refine pure_ (i:=2) (N:=some 16) (v:=?_) (a':=?_) (ba 8 6) rfl rfl (any_of HT_.out (by kernel_rfl)) (fun _ _ _ h=>h) (Or.inl ⟨by rfl,?_⟩) ?_ ?_
    rotate_left
    ·intro w'
     go_simp
     with_reducible rfl
    rotate_left
    ·simp only [Act.put,NRM]
     rfl
    refine pure_ (i:=3) (N:=some 17) (v:=?_) (a':=?_) (ba 8 14) rfl rfl (any_of HT_.out (by kernel_rfl)) (fun _ _ _ h=>h) (Or.inl ⟨by rfl,?_⟩) ?_ ?_
    rotate_left
    ·intro w'
     go_simp
     with_reducible rfl
    rotate_left
    ·simp only [Act.put,NRM]
     rfl
    refine take_ (i:=0) (N:=some 14) (v:=?_) (a':=?_) (ba 8 15) rfl rfl (take_ofW HT_.out HW_.out (by kernel_rfl)) (fun _ _ _ h=>h) (Or.inl ⟨by rfl,?_⟩) hHeld ?_ ?_
    rotate_left
    ·rintro w' ⟨s0,s1,s2⟩
     go_simp
     with_reducible rfl
    rotate_left
    ·simp only [Act.put,NRM]
     rfl
    refine take_ (i:=4) (N:=some 18) (v:=?_) (a':=?_) (ba 8 31) rfl rfl (take_ofW HT_.out HW_.out (by kernel_rfl)) (fun _ _ _ h=>h) (Or.inl ⟨by rfl,?_⟩) hHeld ?_ ?_
    rotate_left
    ·rintro w' ⟨s0,s1,s2⟩
     go_simp
     with_reducible rfl
    rotate_left
    ·simp only [Act.put,NRM]
     rfl
    refine one_ (i:=5) (N:=some 19) (ba 8 63) rfl rfl (one_of HT_.out (by kernel_rfl)) (by decide) (fun K hK=>?_)
    refine Kd.R_lit_step (Kd.int .i64) _ 3 ?hg (N:=19) ?hd (xs:=([rd t596 x5_1] : List Int)) (inner:=[.int .i64 (rd t596 x5_1)]) (ok:=fun _=>True) (okp:=fun _=>True) ?hr ?hp (fun _ hk=>hk) trivial (Below.refl _ _) (Nat.le_refl _) (by simp) ?_;(case hd=>rfl);(case hg=>rfl);(case hr=>go_simp;try rfl);(case hp=>exact (Reps.one (show Kd.M (Kd.int .i64) _ _ _ (rd t596 x5_1) [.int .i64 (rd t596 x5_1)] from rfl) (Reps.none _ _)))
    intro v601 w12 ho13 hb hg_ hnew_
    have HS2_:=(hb.cell (World.block_lt_of_cell? _ _ (hHeld.2.2))).trans (hHeld.2.2)
    clear hg_ hnew_
    (first | rw [← Ny600.out] at ho13 | (simp only [Int.reduceToNat] at ho13;rw [← Ny600.out] at ho13))
    have HO602:=am (Kd.R_lower (Kd.R_new' (Kd.R_new' ho13 (Kd.R_lt HO_3.out)) (Kd.R_lt HO_4.out)) (below_size (HB.out)))
    replace HO_3:=am (Kd.R_elder' HO_3.out (Kd.R_base ho13) hb)
    replace HO_4:=am (Kd.R_elder' HO_4.out (Kd.R_base ho13) hb)
    replace BK595:=(kmv hb BK595)
    replace HB:=am (below_step (HB.out) hb)
    clear hb ho13
    obtain ⟨Ao14,co14,eo14⟩:=Kd.R_slice HO602.out
    (first | subst eo14 | (injection eo14 with f1_ f2_ f3_;have f4_:=f1_.symm;have f5_:=f3_.symm;clear f1_ f2_ f3_;subst f4_;subst f5_))
    refine hK.out _ _ ⟨(blk_cell BK595.out 0).trans rfl,(blk_cell BK595.out 1).trans rfl,HS2_⟩ (fun hHeld=>?_)
    clear hK K
    refine norm_ (a':=?_) ?_ ?_
    rotate_left
    ·show Act.put _ (some 19) _ = _
     simp only [Act.put,NRM]
     rfl
    refine one_ (i:=6) (N:=some 20) (ba 8 127) rfl rfl (one_of HT_.out (by kernel_rfl)) (by decide) (fun K hK=>?_)
    refine goes_ Tryz.func86 (by kernel_rfl) rfl #[.agg #[.slice A0_0 l0_0.length c0_0,.slice A0_1 l0_1.length c0_1],.slice Ao14 y600.length co14] (by rfl) rfl rfl (by (try simp only [List.map_toArray,List.map_cons,List.map_nil]);first | done | rfl | (simp only [List.length_drop,List.length_take];rfl)) ?_
    with_reducible refine (q8_Can.calls k1 _ _ l0_0 _ _ l0_1 _ _ y600 true _ ?side1 ?side2 ?side3 ?side4 ?side5 ?side6 A8.out).mono ?_
    (case side1=>exact kC HR0_0.out HB.out)
    (case side2=>exact HC0_0.out)
    (case side3=>exact kC HR0_1.out HB.out)
    (case side4=>exact HC0_1.out)
    (case side5=>repeat (first | exact (Kd.R_reads' HO602.out).2.2 | (with_reducible refine Kd.C_alloc ?_ _) | (with_reducible refine Kd.C_drewN ?_ _) | (with_reducible refine Kd.C_drew ?_)))
    (case side6=>exact (Kd.R_reads' HO602.out).2.1)
    rintro e w15 ⟨rfl,hb⟩
    have HS2_:=(hb.cell (World.block_lt_of_cell? _ _ (hHeld.2.2))).trans (hHeld.2.2)
    refine ⟨_,rfl,?_⟩
    replace HO_3:=am (Kd.R_below HO_3.out hb)
    replace HO_4:=am (Kd.R_below HO_4.out hb)
    replace HO602:=am (Kd.R_below HO602.out hb)
    replace BK595:=(kmv hb BK595)
    replace HB:=am (below_step (HB.out) hb)
    (try clear hb)
    (try clear hb2)
    (try clear hk)
    (try clear hi)
    refine hK.out _ _ ⟨(blk_cell BK595.out 0).trans rfl,(blk_cell BK595.out 1).trans rfl,HS2_⟩ (fun hHeld=>?_)
    clear hK K
    refine norm_ (a':=?_) ?_ ?_
    rotate_left
    ·show Act.put _ (some 20) _ = _
     simp only [Act.put,NRM]
     rfl
    refine pure_ (i:=7) (N:=some 21) (v:=?_) (a':=?_) (ba 8 255) rfl rfl (any_of HT_.out (by kernel_rfl)) (fun _ _ _ h=>h) (Or.inl ⟨by rfl,?_⟩) ?_ ?_
    rotate_left
    ·intro w'
     go_simp
     with_reducible rfl
    rotate_left
    ·simp only [Act.put,NRM]
     rfl
    refine done_ (done_of HT_.out (by kernel_rfl)) ?_
    try go_wp2
    go_roundg k1
    case measure=>have:=HK1.out;omega
    case rel=>exact ⟨(x3_1),(wrap64 (x5_1 + 1)),(by first | rfl | (simp;done) | (simp [*];done)),H',⟨by have:=HK1.out;omega⟩,⟨by (with_reducible repeat (first | apply Kd.R_alloc | apply Kd.R_drewN | apply Kd.R_drew));exact Kd.R_mono HO_3.out (fun _ hk=>hk.1)⟩,⟨by (with_reducible repeat (first | apply Kd.R_alloc | apply Kd.R_drewN | apply Kd.R_drew));exact Kd.R_mono HO_4.out (fun _ hk=>hk.1)⟩,⟨BK595.out⟩,⟨HB.out⟩⟩
   ·replace c9:=Bool.eq_false_iff.mpr c9
    subst c9
    replace H : (if x3_1.length < 17592186044416 then (q8_Vital.l0 k1 (x3_1 ++ [rd t596 x5_1]) t596 (wrap64 (x5_1 + 1)) l0_0 l0_1) else (none)) = some r:=by rw [if_neg (show ¬ (false = true) by decide)] at H;exact H
    by_cases c16 : x3_1.length < 17592186044416
    case neg =>
     rw [if_neg c16] at H
     exact absurd H (by simp)
    rw [if_pos c16] at H
    have LMc16:=am c16
    clear c16
    obtain ⟨y605,hy605⟩ : ∃ y_ : List Int,y_ = (x3_1 ++ [rd t596 x5_1]):=⟨_,rfl⟩
    replace H : (q8_Vital.l0 k1 y605 t596 (wrap64 (x5_1 + 1)) l0_0 l0_1) = some r:=by first | (rw [hy605];with_reducible exact H) | (have H2_:=(Option.bind_some _ _).symm.trans H;rw [hy605];with_reducible exact H2_) | (have H2_:=(Option.bind_some _ _).symm.trans H;with_reducible exact H2_) | with_reducible exact H | (rw [hy605];exact H) | exact H
    have Ny605:=am hy605
    clear hy605
    replace H':=am H
    obtain ⟨Ao17,co17,eo17⟩:=Kd.R_slice HO_4.out
    subst eo17
    try go_wp2
    replace HO_3:=am (Kd.R_drew HO_3.out)
    replace HO_4:=am (Kd.R_drew HO_4.out)
    replace BK595:=am (blk_drew BK595.out)
    replace HB:=am (below_drew1 HB.out)
    have p599 : 0≤(x5_1 : Int):=of_decide_eq_true (by assumption)
    have q599 : x5_1 < (t596.length : Int):=of_decide_eq_true (by assumption)
    obtain ⟨ad599,e599,hx599_0⟩:=Kd.at_int (Kd.R_reads' HO_4.out).2.2 x5_1 p599 q599
    cases e599
    replace p599:=eq_true p599
    replace q599:=eq_true q599
    refine start_ (n:=8) (S:=fun w'=>w'.cell? ⟨gb595,0,none⟩ = some (.slice A0_0 l0_0.length c0_0)∧w'.cell? ⟨gb595,1,none⟩ = some (.slice A0_1 l0_1.length c0_1)∧w'.cell? (ad599.add (x5_1).toNat) = some (.int .i64 (rd t596 x5_1))) (ds:=[]) (ba 8 0) (by kernel_rfl) rfl rfl ⟨(blk_cell BK595.out 0).trans rfl,(blk_cell BK595.out 1).trans rfl,hx599_0⟩ (fun hHeld=>?_);refine with_tabW q8_Vital.tab6 q8_Vital.bits6 (fun HT_ HW_=>?_)
    generalize wr.drew = w18 at HO_3 HO_4 BK595 HB hx599_0 hHeld ⊢
    refine pure_ (i:=1) (N:=some 15) (v:=?_) (a':=?_) (ba 8 2) rfl rfl (any_of HT_.out (by kernel_rfl)) (fun _ _ _ h=>h) (Or.inl ⟨by rfl,?_⟩) ?_ ?_
    rotate_left
    ·intro w'
     go_simp
     with_reducible rfl
    rotate_left
    ·simp only [Act.put,NRM]
     rfl
    refine pure_ (i:=2) (N:=some 16) (v:=?_) (a':=?_) (ba 8 6) rfl rfl (any_of HT_.out (by kernel_rfl)) (fun _ _ _ h=>h) (Or.inl ⟨by rfl,?_⟩) ?_ ?_
    rotate_left
    ·intro w'
     go_simp
     with_reducible rfl
    rotate_left
    ·simp only [Act.put,NRM]
     rfl
    refine pure_ (i:=3) (N:=some 17) (v:=?_) (a':=?_) (ba 8 14) rfl rfl (any_of HT_.out (by kernel_rfl)) (fun _ _ _ h=>h) (Or.inl ⟨by rfl,?_⟩) ?_ ?_
    rotate_left
    ·intro w'
     go_simp
     with_reducible rfl
    rotate_left
    ·simp only [Act.put,NRM]
     rfl
    refine take_ (i:=0) (N:=some 14) (v:=?_) (a':=?_) (ba 8 15) rfl rfl (take_ofW HT_.out HW_.out (by kernel_rfl)) (fun _ _ _ h=>h) (Or.inl ⟨by rfl,?_⟩) hHeld ?_ ?_
    rotate_left
    ·rintro w' ⟨s0,s1,s2⟩
     go_simp
     with_reducible rfl
    rotate_left
    ·simp only [Act.put,NRM]
     rfl
    refine take_ (i:=4) (N:=some 18) (v:=?_) (a':=?_) (ba 8 31) rfl rfl (take_ofW HT_.out HW_.out (by kernel_rfl)) (fun _ _ _ h=>h) (Or.inl ⟨by rfl,?_⟩) hHeld ?_ ?_
    rotate_left
    ·rintro w' ⟨s0,s1,s2⟩
     go_simp
     with_reducible rfl
    rotate_left
    ·simp only [Act.put,NRM]
     rfl
    refine one_ (i:=5) (N:=some 19) (ba 8 63) rfl rfl (one_of HT_.out (by kernel_rfl)) (by decide) (fun K hK=>?_)
    refine Kd.R_lit_step (Kd.int .i64) _ 3 ?hg (N:=19) ?hd (xs:=([rd t596 x5_1] : List Int)) (inner:=[.int .i64 (rd t596 x5_1)]) (ok:=fun _=>True) (okp:=fun _=>True) ?hr ?hp (fun _ hk=>hk) trivial (Below.refl _ _) (Nat.le_refl _) (by simp) ?_;(case hd=>rfl);(case hg=>rfl);(case hr=>go_simp;try rfl);(case hp=>exact (Reps.one (show Kd.M (Kd.int .i64) _ _ _ (rd t596 x5_1) [.int .i64 (rd t596 x5_1)] from rfl) (Reps.none _ _)))
    intro v601 w19 ho20 hb hg_ hnew_
    have HS2_:=(hb.cell (World.block_lt_of_cell? _ _ (hHeld.2.2))).trans (hHeld.2.2)
    clear hg_ hnew_
    (first | rw [← Ny600.out] at ho20 | (simp only [Int.reduceToNat] at ho20;rw [← Ny600.out] at ho20))
    have HO602:=am (Kd.R_lower (Kd.R_new' (Kd.R_new' ho20 (Kd.R_lt HO_3.out)) (Kd.R_lt HO_4.out)) (below_size (HB.out)))
    replace HO_3:=am (Kd.R_elder' HO_3.out (Kd.R_base ho20) hb)
    replace HO_4:=am (Kd.R_elder' HO_4.out (Kd.R_base ho20) hb)
    replace BK595:=(kmv hb BK595)
    replace HB:=am (below_step (HB.out) hb)
    clear hb ho20
    obtain ⟨Ao21,co21,eo21⟩:=Kd.R_slice HO602.out
    (first | subst eo21 | (injection eo21 with f1_ f2_ f3_;have f4_:=f1_.symm;have f5_:=f3_.symm;clear f1_ f2_ f3_;subst f4_;subst f5_))
    refine hK.out _ _ ⟨(blk_cell BK595.out 0).trans rfl,(blk_cell BK595.out 1).trans rfl,HS2_⟩ (fun hHeld=>?_)
    clear hK K
    refine norm_ (a':=?_) ?_ ?_
    rotate_left
    ·show Act.put _ (some 19) _ = _
     simp only [Act.put,NRM]
     rfl
    refine one_ (i:=6) (N:=some 20) (ba 8 127) rfl rfl (one_of HT_.out (by kernel_rfl)) (by decide) (fun K hK=>?_)
    refine goes_ Tryz.func86 (by kernel_rfl) rfl #[.agg #[.slice A0_0 l0_0.length c0_0,.slice A0_1 l0_1.length c0_1],.slice Ao21 y600.length co21] (by rfl) rfl rfl (by (try simp only [List.map_toArray,List.map_cons,List.map_nil]);first | done | rfl | (simp only [List.length_drop,List.length_take];rfl)) ?_
    with_reducible refine (q8_Can.calls k1 _ _ l0_0 _ _ l0_1 _ _ y600 false _ ?side1 ?side2 ?side3 ?side4 ?side5 ?side6 A8.out).mono ?_
    (case side1=>exact kC HR0_0.out HB.out)
    (case side2=>exact HC0_0.out)
    (case side3=>exact kC HR0_1.out HB.out)
    (case side4=>exact HC0_1.out)
    (case side5=>repeat (first | exact (Kd.R_reads' HO602.out).2.2 | (with_reducible refine Kd.C_alloc ?_ _) | (with_reducible refine Kd.C_drewN ?_ _) | (with_reducible refine Kd.C_drew ?_)))
    (case side6=>exact (Kd.R_reads' HO602.out).2.1)
    rintro e w22 ⟨rfl,hb⟩
    have HS2_:=(hb.cell (World.block_lt_of_cell? _ _ (hHeld.2.2))).trans (hHeld.2.2)
    refine ⟨_,rfl,?_⟩
    replace HO_3:=am (Kd.R_below HO_3.out hb)
    replace HO_4:=am (Kd.R_below HO_4.out hb)
    replace HO602:=am (Kd.R_below HO602.out hb)
    replace BK595:=(kmv hb BK595)
    replace HB:=am (below_step (HB.out) hb)
    (try clear hb)
    (try clear hb2)
    (try clear hk)
    (try clear hi)
    refine hK.out _ _ ⟨(blk_cell BK595.out 0).trans rfl,(blk_cell BK595.out 1).trans rfl,HS2_⟩ (fun hHeld=>?_)
    clear hK K
    refine norm_ (a':=?_) ?_ ?_
    rotate_left
    ·show Act.put _ (some 20) _ = _
     simp only [Act.put,NRM]
     rfl
    refine pure_ (i:=7) (N:=some 21) (v:=?_) (a':=?_) (ba 8 255) rfl rfl (any_of HT_.out (by kernel_rfl)) (fun _ _ _ h=>h) (Or.inl ⟨by rfl,?_⟩) ?_ ?_
    rotate_left
    ·intro w'
     go_simp
     with_reducible rfl
    rotate_left
    ·simp only [Act.put,NRM]
     rfl
    refine done_ (done_of HT_.out (by kernel_rfl)) ?_
    have p604 : 0≤(x5_1 : Int):=of_decide_eq_true (by assumption)
    have q604 : x5_1 < (t596.length : Int):=of_decide_eq_true (by assumption)
    obtain ⟨ad604,e604,hx604_0⟩:=Kd.at_int (Kd.R_reads' HO_4.out).2.2 x5_1 p604 q604
    obtain rfl : ad599 = ad604:=(by injection e604)
    replace p604:=eq_true p604
    replace q604:=eq_true q604
    try go_wp2_with (first | ((with_reducible refine ga_builtin (b:=.append) (xs:=#[.tmp 22,.tmp 27]) rfl ?_);at_builtin;refine Kd.R_append (Kd.int .i64) (w0:=w) w.heap.size rfl (.tmp 22) (.tmp 27) 26 3 (.int .i64 0) 8 rfl Tryz.underlying26 info3 rfl (by decide) (by omega) u3 x3_1 (rd t596 x5_1) [.int .i64 (rd t596 x5_1)] (fun k_=>some k_ ≠ (.slice (some ad599) t596.length co17 : Value).ownBlock∧some k_ ≠ (.slice Ao21 y600.length co21 : Value).ownBlock) (fun _=>False) rfl rfl ?aP (fun _ hk=>hk.elim) ?aF ?aO ?aB ?aS ?aL ?_;(case aP=>exact rfl);(case aB=>exact (HB.out));(case aF=>exact (fun k_ hk=>⟨Kd.fresh' (Kd.R_lt HO_4.out) k_ hk,Kd.fresh' (Kd.R_lt HO602.out) k_ hk⟩));(case aO=>exact HO_3.out);(case aS=>exact (below_size (HB.out)));(case aL=>have:=LMc16.out;omega);intro v606 w23 ho hb hg hat;rw [← Ny605.out] at ho;have n0_:=am (Kd.R_after (ok:=(fun k_=>some k_ ≠ (.slice Ao21 y600.length co21 : Value).ownBlock)) (Kd.R_mono HO_4.out (fun _ hk=>⟨hk.2,hk.1⟩)) hg hat);have n1_:=am (blk_grown (g:=gb595) (o:=.cells #[.slice A0_0 l0_0.length c0_0,.slice A0_1 l0_1.length c0_1] 25 (0,0)) BK595.out hg (Kd.R_ne HO_3.out BK595.out (by decide)));have n2_:=am (Kd.R_after (ok:=(fun k_=>some k_ ≠ (.slice (some ad599) t596.length co17 : Value).ownBlock)) (Kd.R_mono HO602.out (fun _ hk=>⟨hk.2,hk.1.2⟩)) hg hat);have n3_:=am (hb);have n4_:=am (ho);clear HO_4;clear BK595;clear HO602;clear HB;clear HO_3;have HO_4:=n0_;have BK595:=n1_;have HO602:=n2_;have HB:=n3_;have HO607:=n4_;clear n0_ n1_ n2_ n3_ n4_;clear ho hb hg hat))
    go_roundg k1
    case measure=>have:=HK1.out;omega
    case rel=>exact ⟨(y605),(wrap64 (x5_1 + 1)),(by first | rfl | (simp;done) | (simp [*];done)),H',⟨by have:=HK1.out;omega⟩,⟨by (with_reducible repeat (first | apply Kd.R_alloc | apply Kd.R_drewN | apply Kd.R_drew));exact Kd.R_mono HO607.out (fun _ hk=>hk.1)⟩,⟨by (with_reducible repeat (first | apply Kd.R_alloc | apply Kd.R_drewN | apply Kd.R_drew));exact Kd.R_mono HO_4.out (fun _ hk=>hk.2)⟩,⟨BK595.out⟩,⟨HB.out⟩⟩
end Go.Proofs.YtclkbedbocnpkaaGreatDoor.C

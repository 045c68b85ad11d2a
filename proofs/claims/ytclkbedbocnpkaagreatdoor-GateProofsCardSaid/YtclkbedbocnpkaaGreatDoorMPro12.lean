/- A part of the proof: the walks of the functions that it reaches. TIGHT. -/
import Derived.Test.YtclkbedbocnpkaaGreatDoorMPro11
import Derived.Test.YtclkbedbocnpkaaGreatDoorMPro6
set_option linter.unusedVariables false
set_option linter.unusedSimpArgs false
namespace Go.Proofs.YtclkbedbocnpkaaGreatDoor.C
open Go.RowKit Go.Proofs.YtclkbedbocnpkaaGreatDoorW.PrintWords Go.Proofs.YtclkbedbocnpkaaGreatDoorW.PrintLast Go.Proofs.YtclkbedbocnpkaaGreatDoorW.PrintMore
set_option linter.unusedVariables false
set_option linter.unusedSimpArgs false
set_option maxHeartbeats 16000000
set_option maxRecDepth 100000
def q8_Cut.l0 : Nat→List Int→Bool→List (List Int)→Int→List (S37)→List (S65)→Option (List Int × Bool)
 | 0,_,_,_,_,_,_=>none
 | k + 1,x1,x2,x8,x9,x381000,x381001=>if x9 < (x8.length : Int) then (if 0≤x9 then ((q8_Short.f k x381000 x381001 x1 (rd_L1 x8 x9) x2).bind fun t388=>(if t388 > 0 then (some (rd_L1 x8 x9,true)) else (q8_Cut.l0 k x1 x2 x8 (wrap64 (x9 + 1)) x381000 x381001))) else (none)) else (some (([] : List Int),false))
def q8_Cut.f (k : Nat) (l0_0 : List (S37)) (l0_1 : List (S65)) (l1 : List Int) (a2 : Bool) : Option (List Int × Bool):=(q8_numbers.f k (l0_0.length : Int)).bind fun t381=>((q8_Shortest.f k t381).bind fun t384=>(q8_Cut.l0 k l1 a2 t384 0 l0_0 l0_1))
def q8_Cut.T5 : Bool × List (List Nat × List Nat):=(true,[([],[]),([],[]),([],[]),([],[]),([2,3],[2,3]),([4],[4]),([],[]),([0,1,5,6],[0,1,5,6]),([7],[7])])
def q8_Cut.B5 : List Nat:=[0,0,0,0,12,28,0,127,255]
theorem q8_Cut.tab5 : rtab .any (opsOf Tryz.f24 5) = q8_Cut.T5:=by kernel_rfl
theorem q8_Cut.bits5 : waitsOk q8_Cut.T5.2 q8_Cut.B5 = true:=by kernel_rfl
theorem q8_Cut.calls (k : Nat) (A0_0 : Option Addr) (c0_0 : Nat) (l0_0 : List (S37)) (A0_1 : Option Addr) (c0_1 : Nat) (l0_1 : List (S65)) (A1 : Option Addr) (c1 : Nat) (l1 : List Int) (a2 : Bool) (r1 : List Int) (r2 : Bool) (w : World) (hr0_0 : Kd.C k37 w A0_0 l0_0.length l0_0) (hc0_0 : l0_0.length≤c0_0) (hr0_1 : Kd.C k65 w A0_1 l0_1.length l0_1) (hc0_1 : l0_1.length≤c0_1) (hr1 : Kd.C (Kd.int .i64) w A1 l1.length l1) (hc1 : l1.length≤c1) (h : q8_Cut.f k l0_0 l0_1 l1 a2 = some (r1,r2)) :
 Calls Tryz.prog 24 #[.agg #[.slice A0_0 l0_0.length c0_0,.slice A0_1 l0_1.length c0_1],.slice A1 l1.length c1,.bool a2] w fun e w'=>∃ v0_ : Value,e = .returned (.tuple #[v0_,.bool r2])∧Kd.V (Kd.int .i64) 3 w' w.heap.size (fun k_=>(w.heap.size≤k_)) v0_ r1∧Below w.heap.size w w':=by
 have hu25:=Tryz.underlying25
 have HR0_0:=am hr0_0
 have HC0_0:=am hc0_0
 clear hr0_0 hc0_0
 have HR0_1:=am hr0_1
 have HC0_1:=am hc0_1
 clear hr0_1 hc0_1
 have HR1:=am hr1
 have HC1:=am hc1
 clear hr1 hc1
 have HB:=am (Below.refl w.heap.size w)
 have H : ((q8_numbers.f k (l0_0.length : Int)).bind fun t381=>((q8_Shortest.f k t381).bind fun t384=>(q8_Cut.l0 k l1 a2 t384 0 l0_0 l0_1))) = some (r1,r2):=h
 clear h
 replace H:=obm H
 obtain ⟨t381,A40,H⟩:=H
 replace H : ((q8_Shortest.f k t381).bind fun t384=>(q8_Cut.l0 k l1 a2 t384 0 l0_0 l0_1)) = some (r1,r2):=H
 have A4:=am A40
 clear A40
 replace H:=obm H
 obtain ⟨t384,A50,H⟩:=H
 replace H : (q8_Cut.l0 k l1 a2 t384 0 l0_0 l0_1) = some (r1,r2):=H
 have A5:=am A50
 clear A50
 replace H':=am H
 go_enter Tryz.func24,Tryz.ntmps24
 go_wp2_with (first | ((refine ga_dst (N:=3) rfl ?_);refine box_event rfl (N:=3) rfl (cs:=#[.slice A0_0 l0_0.length c0_0,.slice A0_1 l0_1.length c0_1]) (t:=25) ?hr ?_;(case hr=>go_simp;try rfl);intro gb380 hg w6 hbox hb;have BK380:=am (hbox);have GW380:=am (ge_new (HB.out) hg);have GE380:=am (ge_new (HB.out) hg);replace HB:=am (below_step (HB.out) hb);clear hb hbox hg;obtain ⟨hcz7_0,hcz7_1⟩:=cO2 BK380.out) | ((with_reducible refine ga_callee (f:=68) rfl ?_);refine goesL_ (some 13) rfl rfl Tryz.func68 (by kernel_rfl) rfl #[.int .i64 (l0_0.length : Int)] rfl (by (try simp only [List.map_toArray,List.map_cons,List.map_nil]);first | done | rfl | (simp only [List.length_drop,List.length_take];rfl)) ?_;(refine (q8_numbers.calls k (l0_0.length : Int) t381 _ A4.out).mono ?_);rintro e w8 ⟨v382,rfl,ho0,hb⟩;refine ⟨_,rfl,?_⟩;have HO383:=am (Kd.R_lower (Kd.R_newM (M:=fun k_=>(w.heap.size≤k_)) ho0 (below_size (HB.out)) (fun k_ h_=>h_)) (below_size (HB.out)));replace BK380:=(kmv hb BK380);replace HB:=am (below_step (HB.out) hb);(try clear hb);(try clear hb2);(try clear hk);(try clear hi);(try clear ho0);obtain ⟨Ao9,co9,eo9⟩:=Kd.R_slice HO383.out;subst eo9) | ((with_reducible refine ga_callee (f:=67) rfl ?_);refine goesL_ (some 14) rfl rfl Tryz.func67 (by kernel_rfl) rfl #[.slice Ao9 t381.length co9] rfl (by (try simp only [List.map_toArray,List.map_cons,List.map_nil]);first | done | rfl | (simp only [List.length_drop,List.length_take];rfl)) ?_;(refine (q8_Shortest.calls k _ _ t381 t384 _ ?side1 ?side2 A5.out).mono ?_);(case side1=>repeat (first | exact (Kd.R_reads' HO383.out).2.2 | (with_reducible refine Kd.C_alloc ?_ _) | (with_reducible refine Kd.C_drewN ?_ _) | (with_reducible refine Kd.C_drew ?_)));(case side2=>exact (Kd.R_reads' HO383.out).2.1);rintro e w10 ⟨v385,rfl,ho0,hb⟩;refine ⟨_,rfl,?_⟩;have HO386:=am (Kd.N_lower (Kd.N_mono (ok':=fun k_=>(w.heap.size≤k_)∧some k_ ≠ (.slice Ao9 t381.length co9 : Value).ownBlock∧k_ ≠ gb380) ho0 (fun k_ hk_=>⟨(Nat.le_trans (below_size (HB.out)) hk_),(Kd.fresh' (Kd.R_lt HO383.out) k_ hk_),(Kd.freshB (g:=gb380) (o:=.cells #[.slice A0_0 l0_0.length c0_0,.slice A0_1 l0_1.length c0_1] 25 (0,0)) BK380.out k_ hk_)⟩)) (below_size (HB.out)));replace HO383:=am (Kd.R_below HO383.out hb);replace BK380:=(kmv hb BK380);replace HB:=am (below_step (HB.out) hb);(try clear hb);(try clear hb2);(try clear hk);(try clear hi);(try clear ho0)))
 go_loopg [9] k (fun kq v9 w'=>∃ (x9_1 : Int),v9 = .int .i64 x9_1∧Aside0 (q8_Cut.l0 kq l1 a2 t384 x9_1 l0_0 l0_1 = some (r1,r2))∧Aside0 (kq≤k)∧Aside0 (Kd.N (Kd.slice 3 (Kd.int .i64)) 26 w' w.heap.size (fun k_=>(w.heap.size≤k_)∧k_ ≠ gb380) v385 t384)∧Aside0 (w'.heap[gb380]? = some (.cells #[(.slice A0_0 l0_0.length c0_0),(.slice A0_1 l0_1.length c0_1)] 25 (0,0)))∧Aside0 (Below w.heap.size w w'))
 case atStart=>exact ⟨(0),(by first | rfl | (simp;done) | (simp [*];done)),H',⟨Nat.le_refl _⟩,⟨by (with_reducible repeat (first | apply Kd.N_alloc | apply Kd.N_drewN | apply Kd.N_drew));exact Kd.N_mono HO386.out (fun _ hk=>⟨hk.1,hk.2.2⟩)⟩,⟨BK380.out⟩,⟨HB.out⟩⟩
 case round =>
  clear H'
  obtain ⟨x9_1,rfl,HA,HK1,HO_8,BK380,HB⟩:=hrel
  cases gk with
  | zero=>exact absurd HA.out (by simp [q8_Cut.l0])
  | succ k1 =>
   have H:=HA.out
   clear HA
   simp only [q8_Cut.l0] at H
   by_cases c11 : x9_1 < (t384.length : Int)
   case neg =>
    rw [if_neg c11] at H
    have c11b0 : decide (x9_1 < (t384.length : Int)) = false:=decide_eq_false c11
    clear c11
    simp only [Option.some.injEq,Prod.mk.injEq] at H
    obtain ⟨rfl,rfl⟩:=H
    obtain ⟨Ao21,co21,eo21⟩:=Kd.N_slice HO_8.out
    subst eo21
    go_wp2
    go_ret2
    exact ⟨_,by first | rfl | (simp [*]<;>rfl),(by first | exact Kd.V_nil _ _ _ _ _ | exact Kd.R_V (by first | exact Kd.R_nil _ _ _ _ _ | exact Kd.N_nil _ _ _ _ _ | exact Kd.V_nil _ _ _ _ _ | exact Kd.Q_nil _ _ _ _ _ | exact Kd.S_nil _ _ _ _ _)),HB.out⟩
   rw [if_pos c11] at H
   have c11b0 : decide (x9_1 < (t384.length : Int)) = true:=decide_eq_true c11
   clear c11
   by_cases c12 : 0≤x9_1
   case neg =>
    rw [if_neg c12] at H
    exact absurd H (by simp)
   rw [if_pos c12] at H
   have c12b0 : decide (0≤x9_1) = true:=decide_eq_true c12
   clear c12
   replace H:=obm H
   obtain ⟨t388,A130,H⟩:=H
   replace H : (if t388 > 0 then (some (rd_L1 t384 x9_1,true)) else (q8_Cut.l0 k1 l1 a2 t384 (wrap64 (x9_1 + 1)) l0_0 l0_1)) = some (r1,r2):=H
   have A13:=am A130
   clear A130
   by_cases c14 : t388 > 0
   case neg =>
    rw [if_neg c14] at H
    have c14b0 : decide (0 < t388) = false:=decide_eq_false c14
    clear c14
    replace H':=am H
    obtain ⟨Ao18,co18,eo18⟩:=Kd.N_slice HO_8.out
    subst eo18
    try go_wp2
    replace HO_8:=am (Kd.N_drew HO_8.out)
    replace BK380:=am (blk_drew BK380.out)
    replace HB:=am (below_drew1 HB.out)
    have p387 : 0≤(x9_1 : Int):=of_decide_eq_true (by assumption)
    have q387 : x9_1 < (t384.length : Int):=of_decide_eq_true (by assumption)
    obtain ⟨ad387,A387_0,c387_0,e387,hx387_0,hl387_0,hi387_0⟩:=at_L1 (Kd.N_reads' HO_8.out).2.2 x9_1 p387 q387
    cases e387
    obtain ⟨ce387,hce387,hMe387,hcc387⟩:=Kd.N_get HO_8.out [] x9_1 p387 (by first | exact q387 | exact of_decide_eq_true (by assumption) | (have e_:=(Kd.N_reads' HO_8.out).1;omega))
    obtain ⟨ua387_0,uc387_0,rfl,ul387_0,ge387_0⟩:=Kd.FK_slice_open hMe387
    have hv387_0:=hcc387 0 _ rfl
    rw [Nat.add_zero,show ((Kd.slice 3 (Kd.int .i64))).sz = 1 from rfl,Nat.mul_one] at hv387_0
    replace hv387_0:=Option.some.inj (hv387_0.symm.trans hx387_0)
    injection hv387_0 with hva_ hvn_ hvc_
    rw [hva_] at ge387_0
    rw [hvc_] at ul387_0
    have HL387_0:=am (show Kd.V (Kd.int .i64) 3 _ w.heap.size _ _ (rd_L1 t384 x9_1) from Kd.V_mk ul387_0 ge387_0)
    clear hva_ hvn_ hvc_ ge387_0 ul387_0
    clear hcc387 hce387
    have HR387_0:=am hi387_0
    have HC387_0:=am hl387_0
    clear hi387_0 hl387_0
    replace p387:=eq_true p387
    replace q387:=eq_true q387
    refine start_ (n:=9) (S:=fun w'=>w'.cell? ⟨gb380,0,none⟩ = some (.slice A0_0 l0_0.length c0_0)∧w'.cell? ⟨gb380,1,none⟩ = some (.slice A0_1 l0_1.length c0_1)∧w'.cell? (ad387.add (x9_1).toNat) = some (.slice A387_0 (rd_L1 t384 x9_1).length c387_0)) (ds:=[]) (ba 9 0) (by kernel_rfl) rfl rfl ⟨(blk_cell BK380.out 0).trans rfl,(blk_cell BK380.out 1).trans rfl,hx387_0⟩ (fun hHeld=>?_);refine with_tabW q8_Cut.tab5 q8_Cut.bits5 (fun HT_ HW_=>?_)
    generalize wr.drew = w19 at HO_8 BK380 HB HL387_0 HR387_0 hx387_0 hHeld ⊢
    refine pure_ (i:=1) (N:=some 22) (v:=?_) (a':=?_) (ba 9 2) rfl rfl (any_of HT_.out (by kernel_rfl)) (fun _ _ _ h=>h) (Or.inl ⟨by rfl,?_⟩) ?_ ?_
    rotate_left
    ·intro w'
     go_simp
     with_reducible rfl
    rotate_left
    ·simp only [Act.put,NRM]
     rfl
    refine pure_ (i:=2) (N:=some 23) (v:=?_) (a':=?_) (ba 9 6) rfl rfl (any_of HT_.out (by kernel_rfl)) (fun _ _ _ h=>h) (Or.inl ⟨by rfl,?_⟩) ?_ ?_
    rotate_left
    ·intro w'
     go_simp
     with_reducible rfl
    rotate_left
    ·simp only [Act.put,NRM]
     rfl
    refine pure_ (i:=3) (N:=some 24) (v:=?_) (a':=?_) (ba 9 14) rfl rfl (any_of HT_.out (by kernel_rfl)) (fun _ _ _ h=>h) (Or.inl ⟨by rfl,?_⟩) ?_ ?_
    rotate_left
    ·intro w'
     go_simp
     with_reducible rfl
    rotate_left
    ·simp only [Act.put,NRM]
     rfl
    refine pure_ (i:=4) (N:=some 25) (v:=?_) (a':=?_) (ba 9 30) rfl rfl (any_of HT_.out (by kernel_rfl)) (fun _ _ _ h=>h) (Or.inl ⟨by rfl,?_⟩) ?_ ?_
    rotate_left
    ·intro w'
     go_simp
     with_reducible rfl
    rotate_left
    ·simp only [Act.put,NRM]
     rfl
    refine pure_ (i:=6) (N:=some 27) (v:=?_) (a':=?_) (ba 9 94) rfl rfl (any_of HT_.out (by kernel_rfl)) (fun _ _ _ h=>h) (Or.inl ⟨by rfl,?_⟩) ?_ ?_
    rotate_left
    ·intro w'
     go_simp
     with_reducible rfl
    rotate_left
    ·simp only [Act.put,NRM]
     rfl
    refine take_ (i:=0) (N:=some 21) (v:=?_) (a':=?_) (ba 9 95) rfl rfl (take_ofW HT_.out HW_.out (by kernel_rfl)) (fun _ _ _ h=>h) (Or.inl ⟨by rfl,?_⟩) hHeld ?_ ?_
    rotate_left
    ·rintro w' ⟨s0,s1,s2⟩
     go_simp
     with_reducible rfl
    rotate_left
    ·simp only [Act.put,NRM]
     rfl
    refine take_ (i:=5) (N:=some 26) (v:=?_) (a':=?_) (ba 9 127) rfl rfl (take_ofW HT_.out HW_.out (by kernel_rfl)) (fun _ _ _ h=>h) (Or.inl ⟨by rfl,?_⟩) hHeld ?_ ?_
    rotate_left
    ·rintro w' ⟨s0,s1,s2⟩
     go_simp
     with_reducible rfl
    rotate_left
    ·simp only [Act.put,NRM]
     rfl
    refine one_ (i:=7) (N:=some 28) (ba 9 255) rfl rfl (one_of HT_.out (by kernel_rfl)) (by decide) (fun K hK=>?_)
    refine goes_ Tryz.func27 (by kernel_rfl) rfl #[.agg #[.slice A0_0 l0_0.length c0_0,.slice A0_1 l0_1.length c0_1],.slice A1 l1.length c1,.slice A387_0 (rd_L1 t384 x9_1).length c387_0,.bool a2] (by rfl) rfl rfl (by (try simp only [List.map_toArray,List.map_cons,List.map_nil]);first | done | rfl | (simp only [List.length_drop,List.length_take];rfl)) ?_
    with_reducible refine (q8_Short.calls k1 _ _ l0_0 _ _ l0_1 _ _ l1 _ _ (rd_L1 t384 x9_1) a2 t388 _ ?side1 ?side2 ?side3 ?side4 ?side5 ?side6 ?side7 ?side8 A13.out).mono ?_
    (case side1=>exact kC HR0_0.out HB.out)
    (case side2=>exact HC0_0.out)
    (case side3=>exact kC HR0_1.out HB.out)
    (case side4=>exact HC0_1.out)
    (case side5=>exact kC HR1.out HB.out)
    (case side6=>exact HC1.out)
    (case side7=>repeat (first | exact (by repeat (first | (with_reducible exact HR387_0.out) | (with_reducible refine Kd.C_alloc ?_ _) | (with_reducible refine Kd.C_drewN ?_ _) | (with_reducible refine Kd.C_drew ?_) | exact HR387_0.out)) | (with_reducible refine Kd.C_alloc ?_ _) | (with_reducible refine Kd.C_drewN ?_ _) | (with_reducible refine Kd.C_drew ?_)))
    (case side8=>exact HC387_0.out)
    rintro e w20 ⟨rfl,hb⟩
    have HS2_:=(hb.cell (World.block_lt_of_cell? _ _ (hHeld.2.2))).trans (hHeld.2.2)
    refine ⟨_,rfl,?_⟩
    replace HO_8:=am (Kd.N_below HO_8.out hb)
    replace HL387_0:=am (Kd.V_below HL387_0.out hb)
    replace BK380:=(kmv hb BK380)
    replace HR387_0:=am (kC (by repeat (first | (with_reducible exact HR387_0.out) | (with_reducible refine Kd.C_alloc ?_ _) | (with_reducible refine Kd.C_drewN ?_ _) | (with_reducible refine Kd.C_drew ?_) | exact HR387_0.out)) hb)
    replace HB:=am (below_step (HB.out) hb)
    (try clear hb)
    (try clear hb2)
    (try clear hk)
    (try clear hi)
    refine hK.out _ _ ⟨(blk_cell BK380.out 0).trans rfl,(blk_cell BK380.out 1).trans rfl,HS2_⟩ (fun hHeld=>?_)
    clear hK K
    refine norm_ (a':=?_) ?_ ?_
    rotate_left
    ·show Act.put _ (some 28) _ = _
     simp only [Act.put,NRM]
     rfl
    refine pure_ (i:=8) (N:=some 29) (v:=?_) (a':=?_) (ba 9 511) rfl rfl (any_of HT_.out (by kernel_rfl)) (fun _ _ _ h=>h) (Or.inl ⟨by rfl,?_⟩) ?_ ?_
    rotate_left
    ·intro w'
     go_simp
     with_reducible rfl
    rotate_left
    ·simp only [Act.put,NRM]
     rfl
    refine done_ (done_of HT_.out (by kernel_rfl)) ?_
    try go_wp2
    go_roundg k1
    case measure=>have:=HK1.out;omega
    case rel=>exact ⟨(wrap64 (x9_1 + 1)),(by first | rfl | (simp;done) | (simp [*];done)),H',⟨by have:=HK1.out;omega⟩,⟨by (with_reducible repeat (first | apply Kd.N_alloc | apply Kd.N_drewN | apply Kd.N_drew));exact HO_8.out⟩,⟨BK380.out⟩,⟨HB.out⟩⟩
   rw [if_pos c14] at H
   have c14b0 : decide (0 < t388) = true:=decide_eq_true c14
   clear c14
   simp only [Option.some.injEq,Prod.mk.injEq] at H
   obtain ⟨rfl,rfl⟩:=H
   obtain ⟨Ao15,co15,eo15⟩:=Kd.N_slice HO_8.out
   subst eo15
   try go_wp2
   replace HO_8:=am (Kd.N_drew HO_8.out)
   replace BK380:=am (blk_drew BK380.out)
   replace HB:=am (below_drew1 HB.out)
   have p387 : 0≤(x9_1 : Int):=of_decide_eq_true (by assumption)
   have q387 : x9_1 < (t384.length : Int):=of_decide_eq_true (by assumption)
   obtain ⟨ad387,A387_0,c387_0,e387,hx387_0,hl387_0,hi387_0⟩:=at_L1 (Kd.N_reads' HO_8.out).2.2 x9_1 p387 q387
   cases e387
   obtain ⟨ce387,hce387,hMe387,hcc387⟩:=Kd.N_get HO_8.out [] x9_1 p387 (by first | exact q387 | exact of_decide_eq_true (by assumption) | (have e_:=(Kd.N_reads' HO_8.out).1;omega))
   obtain ⟨ua387_0,uc387_0,rfl,ul387_0,ge387_0⟩:=Kd.FK_slice_open hMe387
   have hv387_0:=hcc387 0 _ rfl
   rw [Nat.add_zero,show ((Kd.slice 3 (Kd.int .i64))).sz = 1 from rfl,Nat.mul_one] at hv387_0
   replace hv387_0:=Option.some.inj (hv387_0.symm.trans hx387_0)
   injection hv387_0 with hva_ hvn_ hvc_
   rw [hva_] at ge387_0
   rw [hvc_] at ul387_0
   have HL387_0:=am (show Kd.V (Kd.int .i64) 3 _ w.heap.size _ _ (rd_L1 t384 x9_1) from Kd.V_mk ul387_0 ge387_0)
   clear hva_ hvn_ hvc_ ge387_0 ul387_0
   clear hcc387 hce387
   have HR387_0:=am hi387_0
   have HC387_0:=am hl387_0
   clear hi387_0 hl387_0
   replace p387:=eq_true p387
   replace q387:=eq_true q387
   refine start_ (n:=9) (S:=fun w'=>w'.cell? ⟨gb380,0,none⟩ = some (.slice A0_0 l0_0.length c0_0)∧w'.cell? ⟨gb380,1,none⟩ = some (.slice A0_1 l0_1.length c0_1)∧w'.cell? (ad387.add (x9_1).toNat) = some (.slice A387_0 (rd_L1 t384 x9_1).length c387_0)) (ds:=[]) (ba 9 0) (by kernel_rfl) rfl rfl ⟨(blk_cell BK380.out 0).trans rfl,(blk_cell BK380.out 1).trans rfl,hx387_0⟩ (fun hHeld=>?_);refine with_tabW q8_Cut.tab5 q8_Cut.bits5 (fun HT_ HW_=>?_)
   generalize wr.drew = w16 at HO_8 BK380 HB HL387_0 HR387_0 hx387_0 hHeld ⊢
   refine pure_ (i:=1) (N:=some 22) (v:=?_) (a':=?_) (ba 9 2) rfl rfl (any_of HT_.out (by kernel_rfl)) (fun _ _ _ h=>h) (Or.inl ⟨by rfl,?_⟩) ?_ ?_
   rotate_left
   ·intro w'
    go_simp
    with_reducible rfl
   rotate_left
   ·simp only [Act.put,NRM]
    rfl
   refine pure_ (i:=2) (N:=some 23) (v:=?_) (a':=?_) (ba 9 6) rfl rfl (any_of HT_.out (by kernel_rfl)) (fun _ _ _ h=>h) (Or.inl ⟨by rfl,?_⟩) ?_ ?_
   rotate_left
   ·intro w'
    go_simp
    with_reducible rfl
   rotate_left
   ·simp only [Act.put,NRM]
    rfl
   refine pure_ (i:=3) (N:=some 24) (v:=?_) (a':=?_) (ba 9 14) rfl rfl (any_of HT_.out (by kernel_rfl)) (fun _ _ _ h=>h) (Or.inl ⟨by rfl,?_⟩) ?_ ?_
   rotate_left
   ·intro w'
    go_simp
    with_reducible rfl
   rotate_left
   ·simp only [Act.put,NRM]
    rfl
   refine pure_ (i:=4) (N:=some 25) (v:=?_) (a':=?_) (ba 9 30) rfl rfl (any_of HT_.out (by kernel_rfl)) (fun _ _ _ h=>h) (Or.inl ⟨by rfl,?_⟩) ?_ ?_
   rotate_left
   ·intro w'
    go_simp
    with_reducible rfl
   rotate_left
   ·simp only [Act.put,NRM]
    rfl
   refine pure_ (i:=6) (N:=some 27) (v:=?_) (a':=?_) (ba 9 94) rfl rfl (any_of HT_.out (by kernel_rfl)) (fun _ _ _ h=>h) (Or.inl ⟨by rfl,?_⟩) ?_ ?_
   rotate_left
   ·intro w'
    go_simp
    with_reducible rfl
   rotate_left
   ·simp only [Act.put,NRM]
    rfl
   refine take_ (i:=0) (N:=some 21) (v:=?_) (a':=?_) (ba 9 95) rfl rfl (take_ofW HT_.out HW_.out (by kernel_rfl)) (fun _ _ _ h=>h) (Or.inl ⟨by rfl,?_⟩) hHeld ?_ ?_
   rotate_left
   ·rintro w' ⟨s0,s1,s2⟩
    go_simp
    with_reducible rfl
   rotate_left
   ·simp only [Act.put,NRM]
    rfl
   refine take_ (i:=5) (N:=some 26) (v:=?_) (a':=?_) (ba 9 127) rfl rfl (take_ofW HT_.out HW_.out (by kernel_rfl)) (fun _ _ _ h=>h) (Or.inl ⟨by rfl,?_⟩) hHeld ?_ ?_
   rotate_left
   ·rintro w' ⟨s0,s1,s2⟩
    go_simp
    with_reducible rfl
   rotate_left
   ·simp only [Act.put,NRM]
    rfl
   refine one_ (i:=7) (N:=some 28) (ba 9 255) rfl rfl (one_of HT_.out (by kernel_rfl)) (by decide) (fun K hK=>?_)
   refine goes_ Tryz.func27 (by kernel_rfl) rfl #[.agg #[.slice A0_0 l0_0.length c0_0,.slice A0_1 l0_1.length c0_1],.slice A1 l1.length c1,.slice A387_0 (rd_L1 t384 x9_1).length c387_0,.bool a2] (by rfl) rfl rfl (by (try simp only [List.map_toArray,List.map_cons,List.map_nil]);first | done | rfl | (simp only [List.length_drop,List.length_take];rfl)) ?_
   with_reducible refine (q8_Short.calls k1 _ _ l0_0 _ _ l0_1 _ _ l1 _ _ (rd_L1 t384 x9_1) a2 t388 _ ?side1 ?side2 ?side3 ?side4 ?side5 ?side6 ?side7 ?side8 A13.out).mono ?_
   (case side1=>exact kC HR0_0.out HB.out)
   (case side2=>exact HC0_0.out)
   (case side3=>exact kC HR0_1.out HB.out)
   (case side4=>exact HC0_1.out)
   (case side5=>exact kC HR1.out HB.out)
   (case side6=>exact HC1.out)
   (case side7=>repeat (first | exact (by repeat (first | (with_reducible exact HR387_0.out) | (with_reducible refine Kd.C_alloc ?_ _) | (with_reducible refine Kd.C_drewN ?_ _) | (with_reducible refine Kd.C_drew ?_) | exact HR387_0.out)) | (with_reducible refine Kd.C_alloc ?_ _) | (with_reducible refine Kd.C_drewN ?_ _) | (with_reducible refine Kd.C_drew ?_)))
   (case side8=>exact HC387_0.out)
   rintro e w17 ⟨rfl,hb⟩
   have HS2_:=(hb.cell (World.block_lt_of_cell? _ _ (hHeld.2.2))).trans (hHeld.2.2)
   refine ⟨_,rfl,?_⟩
   replace HO_8:=am (Kd.N_below HO_8.out hb)
   replace HL387_0:=am (Kd.V_below HL387_0.out hb)
   replace BK380:=(kmv hb BK380)
   replace HR387_0:=am (kC (by repeat (first | (with_reducible exact HR387_0.out) | (with_reducible refine Kd.C_alloc ?_ _) | (with_reducible refine Kd.C_drewN ?_ _) | (with_reducible refine Kd.C_drew ?_) | exact HR387_0.out)) hb)
   replace HB:=am (below_step (HB.out) hb)
   (try clear hb)
   (try clear hb2)
   (try clear hk)
   (try clear hi)
   refine hK.out _ _ ⟨(blk_cell BK380.out 0).trans rfl,(blk_cell BK380.out 1).trans rfl,HS2_⟩ (fun hHeld=>?_)
   clear hK K
   refine norm_ (a':=?_) ?_ ?_
   rotate_left
   ·show Act.put _ (some 28) _ = _
    simp only [Act.put,NRM]
    rfl
   refine pure_ (i:=8) (N:=some 29) (v:=?_) (a':=?_) (ba 9 511) rfl rfl (any_of HT_.out (by kernel_rfl)) (fun _ _ _ h=>h) (Or.inl ⟨by rfl,?_⟩) ?_ ?_
   rotate_left
   ·intro w'
    go_simp
    with_reducible rfl
   rotate_left
   ·simp only [Act.put,NRM]
    rfl
   refine done_ (done_of HT_.out (by kernel_rfl)) ?_
   have p389 : 0≤(x9_1 : Int):=of_decide_eq_true (by assumption)
   have q389 : x9_1 < (t384.length : Int):=of_decide_eq_true (by assumption)
   obtain ⟨ad389,A389_0,c389_0,e389,hx389_0,hl389_0,hi389_0⟩:=at_L1 (Kd.N_reads' HO_8.out).2.2 x9_1 p389 q389
   obtain rfl : ad387 = ad389:=(by injection e389)
   obtain ⟨ce389,hce389,hMe389,hcc389⟩:=Kd.N_get HO_8.out [] x9_1 p389 (by first | exact q389 | exact of_decide_eq_true (by assumption) | (have e_:=(Kd.N_reads' HO_8.out).1;omega))
   obtain ⟨ua389_0,uc389_0,rfl,ul389_0,ge389_0⟩:=Kd.FK_slice_open hMe389
   have hv389_0:=hcc389 0 _ rfl
   rw [Nat.add_zero,show ((Kd.slice 3 (Kd.int .i64))).sz = 1 from rfl,Nat.mul_one] at hv389_0
   replace hv389_0:=Option.some.inj (hv389_0.symm.trans hx389_0)
   injection hv389_0 with hva_ hvn_ hvc_
   rw [hva_] at ge389_0
   rw [hvc_] at ul389_0
   have HL389_0:=am (show Kd.V (Kd.int .i64) 3 _ w.heap.size _ _ (rd_L1 t384 x9_1) from Kd.V_mk ul389_0 ge389_0)
   clear hva_ hvn_ hvc_ ge389_0 ul389_0
   clear hcc389 hce389
   have HR389_0:=am hi389_0
   have HC389_0:=am hl389_0
   clear hi389_0 hl389_0
   replace p389:=eq_true p389
   replace q389:=eq_true q389
   try go_wp2
   go_ret2
   exact ⟨_,by first | rfl | (simp [*]<;>rfl),by (with_reducible repeat (first | apply Kd.V_alloc | apply Kd.V_drewN | apply Kd.V_drew));first | (exact Kd.V_mono HL389_0.out (fun _ hk=>hk.1.1)) | (exact Kd.V_mono HL387_0.out (fun _ hk=>hk.1.1)),HB.out⟩
section
variable {pts : List Pt} {ch : List Ch}
theorem rShort_l1 {op S : List Int} (ho : op.length≤1000) (hS : S.length≤1000) (hc : ch.length≤1000) : ∀ (rest : List Ch) (k i : Nat) (acc : Int),ch.drop i = rest→(∀ c ∈ rest,0≤c.f2∧c.f2≤10000)→-10000000 + 10000 * (rest.length : Int)≤acc→acc≤10000000→rest.length + op.length + S.length < k→
 q8_Short.l1 k op S acc (i : Int) pts ch = some (acc - brings op S (i : Int) rest)
 | _,0,_,_,_,_,_,_,hk=>by omega
 | [],k + 1,i,acc,hd,_,_,_,_=>by
  have : ch.length≤i:=by have:=congrArg List.length hd;simp at this;omega
  unfold q8_Short.l1
  rw [if_neg (by omega)];simp [brings]
 | x :: rest,k + 1,i,acc,hd,hcs,h0,h1,hk=>by
  obtain ⟨hd2,hlt⟩:=drop_succ hd
  have hx:=hcs x List.mem_cons_self
  simp only [List.length_cons] at h0 hk
  have ih:=fun acc a b=>rShort_l1 ho hS hc rest k (i + 1) acc hd2 (fun z hz=>hcs z (List.mem_cons_of_mem _ hz)) a b (by omega)
  unfold q8_Short.l1 brings
  rw [if_pos (by omega),if_pos (by omega),open_eq ho (by omega) hd,rdT_nat ch i x rest hd,listed_eq hS _ (by omega),listed_eq hS _ (by omega),wr (x:=(i : Int) + 1) (by omega) (by omega),show (i : Int) + 1 = ((i + 1 : Nat) : Int) from rfl]
  simp only [Option.bind_some,decide_eq_true_eq]
  by_cases h3 : openC op x (i : Int) = true
  ·rw [if_pos h3]
   by_cases h4 : x.f1 ∈ S
   ·rw [if_pos h4]
    by_cases h5 : x.f0 ∈ S
    ·rw [if_pos h5,if_neg (fun e=>e.2.2 h5),ih _ (by omega) (by omega)];congr 1;omega
    ·rw [if_neg h5,if_pos ⟨h3,h4,h5⟩,wr (by omega) (by omega),ih _ (by omega) (by omega)];congr 1;omega
   ·rw [if_neg h4,if_neg (fun e=>h4 e.2.1),ih _ (by omega) (by omega)];congr 1;omega
  ·rw [if_neg h3,if_neg (fun e=>h3 e.1),ih _ (by omega) (by omega)];congr 1;omega
theorem getD_of_drop {l : List Int} {i : Nat} {x : Int} {rest : List Int} (hd : l.drop i = x :: rest) : rd l (i : Int) = x:=by
 have:=congrArg (fun z=>z[0]?) hd
 show l.getD i 0 = x
 rw [List.getD_eq_getElem?_getD,show l[i]? = some x by simpa using this];rfl
theorem rShort_l0 (hpt : pts.all ptS = true) (hch : ch.all (chS pts.length) = true) {op S : List Int} (ho : op.length≤1000) (hS : S.length≤1000) (hc : ch.length≤20) (hi : Bool) : ∀ (rest : List Int) (k i : Nat) (acc : Int),S.drop i = rest→(∀ p ∈ rest,0≤p∧p < (pts.length : Int))→-5000000 + 10000 * (rest.length : Int)≤acc→acc + 10000 * (rest.length : Int)≤5000000→rest.length + ch.length + op.length + S.length + 1 < k→
 q8_Short.l0 k op S hi acc (i : Int) pts ch = some (acc + (rest.map fun p=>lackP hi (rd_T37 pts p)).sum - brings op S 0 ch)
 | _,0,_,_,_,_,_,_,hk=>by omega
 | [],k + 1,i,acc,hd,_,h0,h1,hk=>by
  have : S.length≤i:=by have:=congrArg List.length hd;simp at this;omega
  unfold q8_Short.l0
  simp only [List.length_nil] at h0 h1 hk
  rw [if_neg (by omega),show (0 : Int) = ((0 : Nat) : Int) from rfl,rShort_l1 ho hS (show ch.length≤1000 by omega) ch k 0 acc rfl (fun c hcm=>(chS_iff.1 (List.all_eq_true.1 hch c hcm)).2.2.2) (by omega) (by omega) (by omega)]
  simp
 | x :: rest,k + 1,i,acc,hd,hps,h0,h1,hk=>by
  obtain ⟨hd2,hlt⟩:=drop_succ hd
  obtain ⟨p0,p1⟩:=hps x List.mem_cons_self
  have hb:=lack_bd hpt hi p0 p1
  have hpp:=ptS_iff.1 (pt_in hpt p0 p1)
  simp only [List.length_cons] at h0 h1 hk
  have ih:=fun acc a b=>rShort_l0 hpt hch ho hS hc hi rest k (i + 1) acc hd2 (fun z hz=>hps z (List.mem_cons_of_mem _ hz)) a b (by omega)
  unfold q8_Short.l0
  rw [if_pos (by omega),if_pos (by omega),getD_of_drop hd,if_pos p0,if_pos p1,wr (x:=(i : Int) + 1) (by omega) (by omega),show (i : Int) + 1 = ((i + 1 : Nat) : Int) from rfl,List.map_cons,List.sum_cons]
  generalize rd_T37 pts x = q at hb hpp ⊢
  cases hi with
  | true =>
   rw [show lackP true q = q.f1 - q.f0.f1 from rfl] at hb ⊢
   simp only [if_true]
   rw [wr (x:=acc + q.f1) (by omega) (by omega),wr (x:=acc + q.f1 - q.f0.f0) (by omega) (by omega),wr (x:=q.f0.f1 - q.f0.f0) (by omega) (by omega),wr (by omega) (by omega),ih _ (by omega) (by omega)]
   congr 1;omega
  | false =>
   rw [show lackP false q = q.f1 - q.f0.f0 from rfl] at hb ⊢
   simp only [Bool.false_eq_true,if_false]
   rw [wr (x:=acc + q.f1) (by omega) (by omega),wr (by omega) (by omega),ih _ (by omega) (by omega)]
   congr 1;omega
theorem rShort_eq (hpt : pts.all ptS = true) (hch : ch.all (chS pts.length) = true) (hc : ch.length≤20) {op S : List Int} (ho : op.length≤20) (hS : okPts pts.length S) (hi : Bool) {k : Nat} (hk : 100≤k) : q8_Short.f k pts ch op S hi = some (shortS pts ch op S hi):=by
 have:=rShort_l0 hpt hch (show op.length≤1000 by omega) (show S.length≤1000 by have:=hS.1;omega) hc hi S k 0 0 rfl hS.2 (by have:=hS.1;omega) (by have:=hS.1;omega) (by have:=hS.1;omega)
 rw [Int.zero_add] at this
 exact this
theorem partsOf_now : ∀ (rest now : List Int) (m : Nat),partsOf rest now m = (partsOf rest [] m).map (now ++ ·)
 | [],now,0=>by simp [partsOf]
 | _ :: _,now,0=>by simp [partsOf]
 | [],now,m + 1=>by simp [partsOf]
 | x :: rest,now,m + 1=>by
  unfold partsOf
  rw [partsOf_now rest (now ++ [x]) m,partsOf_now rest now (m + 1),partsOf_now rest ([] ++ [x]) m,List.map_append,List.map_map]
  congr 1
  refine List.map_congr_left fun l _=>?_
  simp
theorem partsOf_none : ∀ (rest now : List Int) (m : Nat),rest.length < m→partsOf rest now m = []
 | _,_,0,h=>by omega
 | [],_,m + 1,_=>by unfold partsOf;rfl
 | x :: rest,now,m + 1,h=>by
  unfold partsOf
  simp at h
  rw [partsOf_none rest _ m (by omega),partsOf_none rest now (m + 1) (by omega)];rfl
theorem partsOf_len : ∀ (rest now : List Int) (m : Nat),(partsOf rest now m).length≤2 ^ rest.length
 | [],_,0=>by simp [partsOf]
 | _ :: _,_,0=>by simp only [partsOf,List.length_singleton];exact Nat.one_le_two_pow
 | [],_,m + 1=>by simp [partsOf]
 | x :: rest,now,m + 1=>by
  unfold partsOf
  rw [List.length_append,List.length_cons,Nat.pow_succ]
  have h1:=partsOf_len rest (now ++ [x]) m
  have h2:=partsOf_len rest now (m + 1)
  omega
theorem partsOf_mem : ∀ (rest now : List Int) (m : Nat) (l : List Int),l ∈ partsOf rest now m→∃ s,l = now ++ s∧s.length = m∧∀ z ∈ s,z ∈ rest
 | [],now,0,l,h=>by simp only [partsOf,List.mem_singleton] at h;exact ⟨[],by simp [h],rfl,by simp⟩
 | _ :: _,now,0,l,h=>by simp only [partsOf,List.mem_singleton] at h;exact ⟨[],by simp [h],rfl,by simp⟩
 | [],now,m + 1,l,h=>by simp [partsOf] at h
 | x :: rest,now,m + 1,l,h=>by
  unfold partsOf at h
  rcases List.mem_append.1 h with h | h
  ·obtain ⟨s,h1,h2,h3⟩:=partsOf_mem rest (now ++ [x]) m l h
   refine ⟨x :: s,by rw [h1];simp,by simp [h2],fun z hz=>?_⟩
   rcases List.mem_cons.1 hz with rfl | hz
   ·exact List.mem_cons_self
   ·exact List.mem_cons_of_mem _ (h3 z hz)
  ·obtain ⟨s,h1,h2,h3⟩:=partsOf_mem rest now (m + 1) l h
   exact ⟨s,h1,h2,fun z hz=>List.mem_cons_of_mem _ (h3 z hz)⟩
theorem rl_nat (l : List (List Int)) (i : Nat) (x : List Int) (rest : List (List Int)) (h : l.drop i = x :: rest) : rd_L1 l (i : Int) = x:=by
 have h2 : l[i]? = some x:=by
  have:=congrArg (fun z=>z[0]?) h
  simpa using this
 show l.getD i _ = x
 rw [List.getD_eq_getElem?_getD,h2];rfl
theorem lists_l1 {x0 : List Int} {x1 : Int} {i : Nat} (hi : i < x0.length) (h0 : x0.length≤20) {T : List (List Int)} (hT : T.length≤10000) (hTl : ∀ t ∈ T,t.length≤100) {r : Option (List (List Int))} {N : Nat} :
 ∀ (rest : List (List Int)) (k j : Nat) (out : List (List Int)),T.drop j = rest→out.length + rest.length≤1000000→N + rest.length < k→
  (∀ k',N≤k'→q8_Lists.l0 k' x0 x1 (out ++ rest.map (x0.getD i 0 :: ·)) (wrap64 ((i : Int) + 1)) = r)→
  q8_Lists.l1 k x0 x1 out (i : Int) T (j : Int) = r
 | _,0,_,_,_,_,hk,_=>by omega
 | [],k + 1,j,out,hd,_,hk,h=>by
  have : T.length≤j:=by have:=congrArg List.length hd;simp at this;omega
  unfold q8_Lists.l1
  rw [if_neg (by omega)]
  have:=h k (by simp at hk;omega)
  simpa using this
 | t :: rest,k + 1,j,out,hd,ho,hk,h=>by
  obtain ⟨hd2,hlt⟩:=drop_succ hd
  have ht : t.length≤100:=hTl t (by
   have : t ∈ T.drop j:=by rw [hd];exact List.mem_cons_self
   exact List.mem_of_mem_drop this)
  simp only [List.length_cons] at ho hk
  unfold q8_Lists.l1
  rw [if_pos (by omega),if_pos (by omega),if_pos (by omega)]
  simp only [Option.bind_some]
  rw [if_pos (by omega),rl_nat T j t rest hd,if_pos (by simp;omega),if_pos (by omega),wr (x:=(j : Int) + 1) (by omega) (by omega),show (j : Int) + 1 = ((j + 1 : Nat) : Int) from rfl]
  refine lists_l1 (N:=N) hi h0 hT hTl rest k (j + 1) _ hd2 (by simp;omega) (by omega) fun k' hk'=>?_
  have:=h k' hk'
  rw [← this]
  congr 1
  simp [rd]
theorem pow_le20 {n : Nat} (h : n≤9) : 2 ^ n≤512:=Nat.pow_le_pow_right (by decide) h
theorem lists_eq : ∀ (m : Nat) (l : List Int),m≤20→l.length≤9→∀ k,10000 * (m + 1)≤k→q8_Lists.f k l (m : Int) = some (partsOf l [] m)
 | 0,l,hm20,hl,k,hk=>by
  obtain ⟨k,rfl⟩ : ∃ k',k = k' + 1:=⟨k - 1,by omega⟩
  unfold q8_Lists.f
  rw [if_pos (show ((0 : Nat) : Int) = 0 from rfl)]
  cases l<;>rfl
 | m + 1,l,hm20,hl,k,hk=>by
  obtain ⟨k,rfl⟩ : ∃ k',k = k' + 1:=⟨k - 1,by omega⟩
  have key : ∀ (d i k : Nat) (out : List (List Int)),i + d = l.length→out.length≤600 * (10 - d)→10000 * (m + 1) + 600 * (d + 1)≤k→q8_Lists.l0 k l ((m + 1 : Nat) : Int) out (i : Int) = some (out ++ partsOf (l.drop i) [] (m + 1)):=by
   intro d
   induction d with
   | zero =>
    intro i k out hi ho hk
    obtain ⟨k,rfl⟩ : ∃ k',k = k' + 1:=⟨k - 1,by omega⟩
    unfold q8_Lists.l0
    rw [partsOf_none _ _ _ (by simp;omega)]
    rw [wr (by omega) (by omega),if_neg (by omega)];simp
   | succ d ih =>
    intro i k out hi ho hk
    obtain ⟨k,rfl⟩ : ∃ k',k = k' + 1:=⟨k - 1,by omega⟩
    unfold q8_Lists.l0
    by_cases hm : i + (m + 1)≤l.length
    ·rw [wr (by omega) (by omega),if_pos (by omega),wr (x:=(i : Int) + 1) (by omega) (by omega),if_pos (by omega),if_pos (by omega),wr (x:=((m + 1 : Nat) : Int) - 1) (by omega) (by omega),show ((m + 1 : Nat) : Int) - 1 = (m : Int) by omega,show ((i : Int) + 1).toNat = i + 1 by omega]
     rw [lists_eq m (l.drop (i + 1)) (by omega) (by simp;omega) k (by omega)]
     simp only [Option.bind_some]
     have hlen:=partsOf_len (l.drop (i + 1)) [] m
     have h512 : 2 ^ (l.drop (i + 1)).length≤512:=pow_le20 (by simp;omega)
     have hcons : l.drop i = l.getD i 0 :: l.drop (i + 1):=by rw [List.drop_eq_getElem_cons (show i < l.length by omega),List.getD_eq_getElem?_getD,List.getElem?_eq_getElem (show i < l.length by omega)];rfl
     refine lists_l1 (N:=10000 * (m + 1) + 600 * (d + 1)) (by omega) (by omega) (by omega) (fun t ht=>?_) (partsOf (l.drop (i + 1)) [] m) k 0 out rfl (by omega) (by omega) fun k' hk'=>?_
     ·obtain ⟨s,e1,hs,_⟩:=partsOf_mem _ _ _ _ ht
      rw [e1,List.nil_append];omega
     ·rw [wr (by omega) (by omega),show (i : Int) + 1 = ((i + 1 : Nat) : Int) from rfl,ih (i + 1) k' _ (by omega) (by simp;omega) (by omega),hcons]
      conv=>rhs;unfold partsOf
      rw [partsOf_now (l.drop (i + 1)) ([] ++ [l.getD i 0]) m,List.append_assoc]
      rfl
    ·rw [partsOf_none _ _ _ (by simp;omega)]
     rw [wr (by omega) (by omega),if_neg (by omega)];simp
  unfold q8_Lists.f
  rw [if_neg (by omega),show (0 : Int) = ((0 : Nat) : Int) from rfl,key l.length 0 k [] (by omega) (by simp) (by omega)]
  simp
end
section
variable {pts : List Pt} {ch : List Ch}
theorem uptoOf_len (xs : List Int) (h : xs.length≤9) : ∀ k,(uptoOf xs k).length≤512 * k
 | 0=>by simp [uptoOf]
 | k + 1=>by
  unfold uptoOf
  rw [List.length_append]
  have h1:=uptoOf_len xs h k
  have h2:=partsOf_len xs [] k
  have h3:=pow_le20 h
  omega
theorem shortest_go {xs : List Int} (hx : xs.length≤9) : ∀ (d k i : Nat),i + d = xs.length + 1→110000 + d≤k→q8_Shortest.l0 k xs (uptoOf xs i) (i : Int) = some (shortestOf xs)
 | _,0,_,_,hk=>by omega
 | 0,k + 1,i,hi,_=>by
  unfold q8_Shortest.l0
  rw [if_neg (by omega),show i = xs.length + 1 by omega];rfl
 | d + 1,k + 1,i,hi,hk=>by
  have ih:=shortest_go hx d k (i + 1) (by omega) (by omega)
  unfold q8_Shortest.l0
  rw [if_pos (by omega),lists_eq i xs (by omega) hx k (by omega)]
  simp only [Option.bind_some]
  have h1:=uptoOf_len xs hx i
  have h2:=partsOf_len xs [] i
  have h3:=pow_le20 hx
  rw [if_pos (by omega),wr (by omega) (by omega),show (i : Int) + 1 = ((i + 1 : Nat) : Int) from rfl]
  exact ih
theorem rShortest_eq {xs : List Int} (hx : xs.length≤9) {k : Nat} (hk : 120000≤k) : q8_Shortest.f k xs = some (shortestOf xs):=shortest_go hx (xs.length + 1) k 0 (by omega) (by omega)
def numsL (n : Nat) : List Int:=(List.range n).map Int.ofNat
theorem numsL_succ (n : Nat) : numsL (n + 1) = numsL n ++ [(n : Int)]:=by unfold numsL;rw [List.range_succ,List.map_append];rfl
theorem numsL_len (n : Nat) : (numsL n).length = n:=by simp [numsL]
theorem numsL_mem {n : Nat} {x : Int} : x ∈ numsL n↔0≤x∧x < (n : Int):=by
 unfold numsL
 rw [List.mem_map]
 constructor
 ·rintro ⟨a,h,rfl⟩;have:=List.mem_range.1 h;simp;omega
 ·rintro ⟨h0,h1⟩;exact ⟨x.toNat,List.mem_range.2 (by omega),by simp;omega⟩
theorem numbers_go {n : Nat} (hn : n≤1000) : ∀ (d k i : Nat),i + d = n→d < k→q8_numbers.l0 k (n : Int) (numsL i) (i : Int) = some (numsL n)
 | _,0,_,_,hk=>by omega
 | 0,k + 1,i,hi,_=>by
  unfold q8_numbers.l0
  rw [if_neg (by omega),show i = n by omega]
 | d + 1,k + 1,i,hi,hk=>by
  have ih:=numbers_go hn d k (i + 1) (by omega) (by omega)
  unfold q8_numbers.l0
  rw [if_pos (by omega),if_pos (by rw [numsL_len];omega),wr (by omega) (by omega),show (i : Int) + 1 = ((i + 1 : Nat) : Int) from rfl,← numsL_succ]
  exact ih
theorem numbers_eq {n : Nat} (hn : n≤1000) {k : Nat} (hk : n < k) : q8_numbers.f k (n : Int) = some (numsL n):=numbers_go hn n k 0 (by omega) hk
theorem points_go {n : Nat} (hn : n≤1000) : ∀ (d k i : Nat),i + d = n→d < k→ga_points.l0 k (numsL i) (n : Int) (i : Int) = some (numsL n)
 | _,0,_,_,hk=>by omega
 | 0,k + 1,i,hi,_=>by
  unfold ga_points.l0
  rw [if_neg (by omega),show i = n by omega]
 | d + 1,k + 1,i,hi,hk=>by
  have ih:=points_go hn d k (i + 1) (by omega) (by omega)
  unfold ga_points.l0
  rw [if_pos (by omega),if_pos (by rw [numsL_len];omega),wr (by omega) (by omega),show (i : Int) + 1 = ((i + 1 : Nat) : Int) from rfl,← numsL_succ]
  exact ih
theorem points_eq (hp : pts.length≤1000) {k : Nat} (hk : pts.length < k) : ga_points.f k pts ch = some (numsL pts.length):=points_go hp pts.length k 0 (by omega) hk
theorem uptoOf_mem {xs : List Int} : ∀ {k : Nat} {l : List Int},l ∈ uptoOf xs k→l.length < k∧∀ z ∈ l,z ∈ xs
 | 0,_,h=>by simp [uptoOf] at h
 | k + 1,l,h=>by
  unfold uptoOf at h
  rcases List.mem_append.1 h with h | h
  ·obtain ⟨h1,h2⟩:=uptoOf_mem h;exact ⟨by omega,h2⟩
  ·obtain ⟨s,h1,h2,h3⟩:=partsOf_mem _ _ _ _ h
   rw [List.nil_append] at h1
   subst h1
   exact ⟨by omega,h3⟩
theorem ok_shortest {n : Nat} (hn : n≤9) {S : List Int} (h : S ∈ shortestOf (numsL n)) : okPts n S:=by
 obtain ⟨h1,h2⟩:=uptoOf_mem h
 rw [numsL_len] at h1
 exact ⟨by omega,fun p hp=>numsL_mem.1 (h2 p hp)⟩
theorem firstM_find {q : List Int→Option Bool} {p : List Int→Bool} : ∀ {L : List (List Int)},(∀ l ∈ L,q l = some (p l))→firstM q L = some (L.find? p)
 | [],_=>rfl
 | x :: L,h=>by
  unfold firstM
  rw [h x List.mem_cons_self,firstM_find (fun y hy=>h y (List.mem_cons_of_mem _ hy)),List.find?_cons]
  simp only [Option.bind_some]
  cases p x<;>rfl
theorem firstT_find {q : List Int→Option Bool} {p : List Int→Bool} {L : List (List Int)} (h : ∀ l ∈ L,q l = some (p l)) : firstT q L = some (L.find? p):=by
 unfold firstT
 rw [if_pos,firstM_find h]
 rw [List.all_eq_true]
 intro l hl
 rw [h l hl];rfl
def cutP (pts : List Pt) (ch : List Ch) (op : List Int) (hi : Bool) (S : List Int) : Bool:=decide (0 < shortS pts ch op S hi)
def cutS (pts : List Pt) (ch : List Ch) (op : List Int) (hi : Bool) : Option (List Int):=(shortestOf (numsL pts.length)).find? (cutP pts ch op hi)
theorem netS_iff : netS pts ch = true↔(1≤pts.length∧pts.length≤7)∧ch.length≤10∧pts.all ptS = true∧ch.all (chS pts.length) = true∧(gatesL ch).length≤7:=by
 unfold netS
 simp only [Bool.and_eq_true,decide_eq_true_eq]
theorem cutH_eq (h : netS pts ch = true) {op : List Int} (ho : op.length≤20) (hi : Bool) {k : Nat} (hk : 100≤k) : cutH.f k pts ch op hi = some (firstV (cutS pts ch op hi)):=by
 obtain ⟨h1,h2,h3,h4,_⟩:=netS_iff.1 h
 unfold cutH.f
 rw [points_eq (by omega) (by omega)]
 simp only [Option.bind_some]
 rw [if_pos (by rw [numsL_len];omega),firstT_find (p:=cutP pts ch op hi) (fun S hS=>by
  unfold cutq.f
  rw [cSort_eq h3 h4 (by omega) (by omega) (ok_shortest (by omega) hS) hi (by omega) hk];rfl)]
 rfl
theorem cut0_eq (h : netS pts ch = true) {op : List Int} (ho : op.length≤20) {k : Nat} (hk : 100≤k) : gs_cut.f k pts ch op 0 = some (firstV (cutS pts ch op false)):=by
 unfold gs_cut.f
 rw [if_pos rfl,cutH_eq h ho false hk]
theorem rCut_go (h3 : pts.all ptS = true) (h4 : ch.all (chS pts.length) = true) (hc : ch.length≤20) {op : List Int} (ho : op.length≤20) (hi : Bool) {L : List (List Int)} (hL : ∀ S ∈ L,okPts pts.length S) (hLl : L.length≤100000) : ∀ (rest : List (List Int)) (k i : Nat),L.drop i = rest→rest.length + 100 < k→
 q8_Cut.l0 k op hi L (i : Int) pts ch = some (firstV (rest.find? (cutP pts ch op hi)))
 | _,0,_,_,hk=>by omega
 | [],k + 1,i,hd,_=>by
  have : L.length≤i:=by have:=congrArg List.length hd;simp at this;omega
  unfold q8_Cut.l0
  rw [if_neg (by omega)];rfl
 | S :: rest,k + 1,i,hd,hk=>by
  obtain ⟨hd2,hlt⟩:=drop_succ hd
  have hS : S ∈ L:=by
   have : S ∈ L.drop i:=by rw [hd];exact List.mem_cons_self
   exact List.mem_of_mem_drop this
  have ih:=rCut_go h3 h4 hc ho hi hL hLl rest k (i + 1) hd2 (by simp at hk;omega)
  unfold q8_Cut.l0
  rw [if_pos (by omega),if_pos (by omega),rl_nat L i S rest hd,rShort_eq h3 h4 hc ho (hL S hS) hi (by simp at hk;omega),wr (by omega) (by omega),show (i : Int) + 1 = ((i + 1 : Nat) : Int) from rfl,ih,List.find?_cons]
  simp only [Option.bind_some]
  by_cases hp : 0 < shortS pts ch op S hi
  ·rw [if_pos hp,show cutP pts ch op hi S = true from decide_eq_true hp];rfl
  ·rw [if_neg hp,show cutP pts ch op hi S = false from decide_eq_false hp]
theorem rCut_eq (h : netS pts ch = true) {op : List Int} (ho : op.length≤20) (hi : Bool) {k : Nat} (hk : 120000≤k) : q8_Cut.f k pts ch op hi = some (firstV (cutS pts ch op hi)):=by
 obtain ⟨h1,h2,h3,h4,_⟩:=netS_iff.1 h
 unfold q8_Cut.f
 rw [numbers_eq (by omega) (by omega)]
 simp only [Option.bind_some]
 rw [rShortest_eq (by rw [numsL_len];omega) hk]
 simp only [Option.bind_some]
 have hlen : (shortestOf (numsL pts.length)).length≤512 * 8:=by
  have:=uptoOf_len (numsL pts.length) (by rw [numsL_len];omega) ((numsL pts.length).length + 1)
  rw [numsL_len] at this
  unfold shortestOf
  rw [numsL_len]
  omega
 rw [show (0 : Int) = ((0 : Nat) : Int) from rfl,rCut_go h3 h4 (by omega) ho hi (L:=shortestOf (numsL pts.length)) (fun S hS=>ok_shortest (by omega) hS) (by omega) (shortestOf (numsL pts.length)) k 0 rfl (by omega)]
 rfl
theorem surely_eq (h : netS pts ch = true) {op : List Int} (ho : op.length≤20) {k : Nat} (hk : 100≤k) : ga_surely.f k pts ch op = some (cutS pts ch op false).isNone:=by
 unfold ga_surely.f
 rw [cut0_eq h ho hk]
 cases cutS pts ch op false<;>rfl
end
end Go.Proofs.YtclkbedbocnpkaaGreatDoor.C
namespace Go.Abs
open Go.RowKit Go.Proofs.YtclkbedbocnpkaaGreatDoorW.PrintWords Go.Proofs.YtclkbedbocnpkaaGreatDoorW.PrintMore
set_option linter.unusedVariables false
set_option linter.unusedSimpArgs false
set_option maxHeartbeats 16000000
set_option maxRecDepth 100000
noncomputable def capOk (k : Nat) (s : St) (v : AV) : Bool:=
 match v with
 | .nilSlice=>true
 | .slice _ _ n c=>Nat.ble n c
 | .opn b n=>match s.heap.get b with
  | some (.cells _ (some k') cs)=>Nat.beq k' k && Nat.ble 1 k && Nat.ble (n * k) cs.length
  | some (.ro _ (some k') cs)=>Nat.beq k' k && Nat.ble 1 k && Nat.ble (n * k) cs.length
  | _=>false
 | _=>false
theorem capOk_le {e : Env} {s : St} {w : World} (hs : Sim e s w) {k n m c : Nat} {v : AV} {A : Option Addr} (h : capOk k s v = true) (hx : conc e v = some (.slice A m c)) : m≤c:=by
 unfold capOk at h
 split at h
 ·simp only [conc,Option.some.injEq,Value.slice.injEq] at hx;omega
 ·simp only [conc,Option.map_eq_some_iff,Value.slice.injEq] at hx
  obtain ⟨p,_,_,rfl,rfl⟩:=hx
  exact Nat.le_of_ble_eq_true h
 ·simp only [conc,Option.map_eq_some_iff,Value.slice.injEq] at hx
  obtain ⟨p,hp,_,rfl,rfl⟩:=hx
  have key : ∀ {n' k' : Nat} {cs : List AV} {vs rest : List Value},(Nat.beq k' k && Nat.ble 1 k && Nat.ble (n' * k) cs.length) = true→concL e cs = some vs→(vs ++ rest).length = p.2 * k'→n'≤p.2:=by
   intro n' k' cs vs rest h h1 h2
   simp only [Bool.and_eq_true,Nat.beq_eq,Nat.ble_eq] at h
   obtain ⟨⟨rfl,h3⟩,h4⟩:=h
   rw [List.length_append,concL_length h1] at h2
   exact Nat.le_of_mul_le_mul_right (by omega : n' * k'≤p.2 * k') (by omega)
  split at h
  ·rename_i hb
   obtain ⟨b,q,ob,he,_,vs,rest,h1,rfl,h2⟩:=hs.at_ _ _ hb
   rw [hp] at he;cases he
   exact key h h1 h2
  ·rename_i hb
   obtain ⟨b,q,ob,he,_,vs,rest,h1,rfl,h2⟩:=hs.at_ _ _ hb
   rw [hp] at he;cases he
   exact key h h1 (h2 _ rfl)
  ·cases h
 ·cases h
theorem first_cells {e : Env} {s : St} {w : World} (hs : Sim e s w) {m n c : Nat} {v : AV} {cs : List AV} {A : Option Addr} (h : firstA m v s = some cs) (hx : conc e v = some (.slice A n c)) (hm : 0 < m) :
 ∃ ad vs,A = some ad∧concL e cs = some vs∧∀ i u,vs[i]? = some u→w.cell? (ad.add i) = some u:=by
 have cell : ∀ {g o : Nat} {t : TypeId} {vs rest us : List Value},w.heap[g]? = some (.cells (vs ++ rest).toArray t (0,0))→(∀ i u,us[i]? = some u→vs[o + i]? = some u)→∀ i u,us[i]? = some u→w.cell? ((⟨g,o,none⟩ : Addr).add i) = some u:=by
  intro g o t vs rest us hg hus i u hu
  have h1:=hus i u hu
  have h2 : o + i < vs.length:=(List.getElem?_eq_some_iff.1 h1).1
  rw [addr_add]
  simp only [World.cell?,hg]
  simp only [Option.isSome_none,Bool.false_eq_true,if_false,List.getElem?_toArray]
  rw [List.getElem?_append_left h2];exact h1
 unfold firstA at h
 split at h
 ·split at h
  ·omega
  ·cases h
 ·simp only [Option.bind_eq_some_iff] at h
  obtain ⟨ds,hg,h⟩:=h
  split at h
  ·simp only [Option.some.injEq] at h;subst h
   obtain ⟨g,q,t,vs,rest,he,hb,hvs⟩:=rd_at hs hg
   simp only [conc,he,Option.map_some,Option.some.injEq,Value.slice.injEq] at hx
   obtain ⟨rfl,_,_⟩:=hx
   refine ⟨_,_,rfl,concL_take (concL_drop hvs _) _,cell hb fun i u hu=>?_⟩
   rw [List.getElem?_take] at hu
   split at hu
   ·rw [List.getElem?_drop] at hu;exact hu
   ·cases hu
  ·cases h
 ·simp only [Option.bind_eq_some_iff] at h
  obtain ⟨ds,hg,h⟩:=h
  split at h
  ·simp only [Option.some.injEq] at h;subst h
   obtain ⟨g,q,t,vs,rest,he,hb,hvs⟩:=rd_at hs hg
   simp only [conc,he,Option.map_some,Option.some.injEq,Value.slice.injEq] at hx
   obtain ⟨rfl,_,_⟩:=hx
   refine ⟨_,_,rfl,concL_take hvs _,cell hb fun i u hu=>?_⟩
   rw [List.getElem?_take] at hu
   split at hu
   ·rw [Nat.zero_add];exact hu
   ·cases hu
  ·cases h
 ·cases h
noncomputable def rdG {α : Type} (sz : Nat) (dec : List AV→Option (List α)) (s : St) (v : AV) : Option (List α):=
 if capOk sz s v then (lenSl v).bind fun n=>if Nat.ble n 1000000 then (firstA (n * sz) v s).bind fun cs=>(dec cs).bind fun xs=>if Nat.beq xs.length n then some xs else none else none else none
theorem rdG_ok {α : Type} {d : Kd α} {e : Env} {s : St} {w : World} (hs : Sim e s w) {dec : List AV→Option (List α)} (hsz : 0 < d.sz)
 (hdec : ∀ cs xs vs,dec cs = some xs→concL e cs = some vs→∀ j p,xs[j]? = some p→d.K w p ((vs.drop (j * d.sz)).take d.sz))
 {v : AV} {xs : List α} {x : Value} (h : rdG d.sz dec s v = some xs) (hx : conc e v = some x) : ∃ A c,x = .slice A xs.length c∧xs.length≤c∧d.C w A xs.length xs:=by
 unfold rdG at h
 split at h
 case isFalse=>cases h
 rename_i hcap
 simp only [Option.bind_eq_some_iff] at h
 obtain ⟨n,hn,h⟩:=h
 split at h
 case isFalse=>cases h
 rename_i hle
 simp only [Option.bind_eq_some_iff] at h
 obtain ⟨cs,hcs,xs',hxs,h⟩:=h
 split at h
 case isFalse=>cases h
 rename_i hlen
 cases h
 have hlen : xs.length = n:=Nat.eq_of_beq_eq_true hlen
 subst hlen
 obtain ⟨_,A,c,rfl⟩:=lenSl_run hn hx
 refine ⟨A,c,rfl,capOk_le hs (n:=0) hcap hx,rfl,by have:=Nat.le_of_ble_eq_true hle;omega,fun h0=>?_⟩
 obtain ⟨ad,vs,rfl,hvs,hcell⟩:=first_cells hs hcs hx (Nat.mul_pos h0 hsz)
 refine ⟨ad,rfl,fun j p hj=>⟨_,d.K_len (hdec cs xs vs hxs hvs j p hj),hdec cs xs vs hxs hvs j p hj,fun i u hu=>?_⟩⟩
 rw [List.getElem?_take] at hu
 split at hu
 ·rw [List.getElem?_drop] at hu
  exact hcell _ u hu
 ·cases hu
def intsA : List AV→Option (List Int)
 | []=>some []
 | .int .i64 a :: l=>(intsA l).map (a :: ·)
 | _=>none
theorem intsA_eq : ∀ {cs : List AV} {xs : List Int},intsA cs = some xs→cs = xs.map (.int .i64)
 | [],_,h=>by cases h;rfl
 | a :: l,xs,h=>by
  unfold intsA at h
  split at h
  ·cases ‹_ :: _ = []›
  ·rename_i heq;cases heq
   simp only [Option.map_eq_some_iff] at h
   obtain ⟨ys,h1,rfl⟩:=h
   rw [intsA_eq h1];rfl
  ·cases h
theorem concL_ints (e : Env) : ∀ xs : List Int,concL e (xs.map (.int .i64)) = some (xs.map (Value.int .i64))
 | []=>rfl
 | x :: xs=>by simp [concL,conc,concL_ints e xs]
noncomputable def rdInts : St→AV→Option (List Int):=rdG 1 intsA
theorem rdInts_ok {e : Env} {s : St} {w : World} (hs : Sim e s w) {v : AV} {xs : List Int} {x : Value} (h : rdInts s v = some xs) (hx : conc e v = some x) : ∃ A c,x = .slice A xs.length c∧xs.length≤c∧(Kd.int .i64).C w A xs.length xs:=by
 refine rdG_ok (d:=Kd.int .i64) hs (by show 0 < 1;omega) (fun cs xs vs h1 h2 j p hj=>?_) h hx
 rw [intsA_eq h1,concL_ints] at h2;cases h2
 show ((xs.map (Value.int .i64)).drop (j * 1)).take 1 = [.int .i64 p]
 have : (xs.map (Value.int .i64))[j * 1]? = some (.int .i64 p):=by simp [hj]
 rw [List.drop_eq_getElem?_toList_append]
 rw [this];rfl
theorem grow {e : Env} {s : St} {w w' : World} (h : Sim e s w) (hb : Below w.heap.size w w') : Sim e s w'∧Goes e s w e s w':=by
 refine ⟨⟨fun n x hx=>?_,h.inj,fun n b q hn=>Nat.lt_of_lt_of_le (h.bound n b q hn) hb.size⟩,⟨Env.le.refl e,fun _ h=>.inl h,fun _ _ h=>h,fun _ _ h=>h,fun b hb' _=>hb.block b hb',hb.size,hb.os,hb.tape,hb.output,fun _ _=>rfl,fun _ h=>h,Nat.le_refl _⟩⟩
 obtain ⟨b,q,ob,he,hw,hr⟩:=h.at_ n x hx
 exact ⟨b,q,ob,he,(hb.block b (h.bound n b q he)).trans hw,hr⟩
theorem endsC {P : Program} {f : FuncId} {xs : Array Value} {w : World} {R : Ending→World→Prop} (h : Calls P f xs w R) (c : Frame) (cs : List Frame) :
 ∃ e w',R e w'∧∀ v,e = .returned v→Steps P (lone (Frame.enter P f xs .normal) (c :: cs) w) (lone (c.finish v) cs w'):=by
 obtain ⟨e,w',fr,hR,hc,_,hl⟩:=h (c :: cs)
 refine ⟨e,w',hR,fun v hv=>?_⟩
 subst hv
 exact Steps.trans hc (.one (step_leave_returned hl))
end Go.Abs
namespace Go.Proofs.YtclkbedbocnpkaaGreatDoor.C
open Go.RowKit Go.Abs Go.Proofs.YtclkbedbocnpkaaGreatDoorW.PrintWords Go.Proofs.YtclkbedbocnpkaaGreatDoorW.PrintLast Go.Proofs.YtclkbedbocnpkaaGreatDoorW.PrintMore
set_option linter.unusedVariables false
set_option linter.unusedSimpArgs false
set_option maxHeartbeats 16000000
set_option maxRecDepth 100000
def decPts : List AV→Option (List S37)
 | []=>some []
 | .int .i64 a :: .int .i64 b :: .int .i64 c :: l=>(decPts l).map (⟨⟨a,b⟩,c⟩ :: ·)
 | _=>none
theorem decPts_eq : ∀ {cs : List AV} {xs : List S37} {e : Env} {vs : List Value},decPts cs = some xs→concL e cs = some vs→∀ (j : Nat) p,xs[j]? = some p→(vs.drop (j * 3)).take 3 = [.int .i64 p.f0.f0,.int .i64 p.f0.f1,.int .i64 p.f1]
 | [],_,e,vs,h,hv,j,p,hj=>by cases h;simp at hj
 | a :: l,xs,e,vs,h,hv,j,p,hj=>by
  unfold decPts at h
  split at h
  ·cases ‹_ :: _ = []›
  ·rename_i heq;cases heq
   simp only [Option.map_eq_some_iff] at h
   obtain ⟨ys,h1,rfl⟩:=h
   simp only [concL,conc,Option.bind_some,Option.map_eq_some_iff] at hv
   obtain ⟨_,⟨_,⟨zs,hz,rfl⟩,rfl⟩,rfl⟩:=hv
   cases j with
   | zero=>cases hj;rfl
   | succ j=>rw [show (j + 1) * 3 = j * 3 + 3 by omega];exact decPts_eq h1 hz j p (by simpa using hj)
  ·cases h
def decChs : List AV→Option (List S65)
 | []=>some []
 | .int .i64 a :: .int .i64 b :: .int .i64 c :: .bool d :: l=>(decChs l).map (⟨a,b,c,d⟩ :: ·)
 | _=>none
theorem decChs_eq : ∀ {cs : List AV} {xs : List S65} {e : Env} {vs : List Value},decChs cs = some xs→concL e cs = some vs→∀ (j : Nat) p,xs[j]? = some p→(vs.drop (j * 4)).take 4 = [.int .i64 p.f0,.int .i64 p.f1,.int .i64 p.f2,.bool p.f3]
 | [],_,e,vs,h,hv,j,p,hj=>by cases h;simp at hj
 | a :: l,xs,e,vs,h,hv,j,p,hj=>by
  unfold decChs at h
  split at h
  ·cases ‹_ :: _ = []›
  ·rename_i heq;cases heq
   simp only [Option.map_eq_some_iff] at h
   obtain ⟨ys,h1,rfl⟩:=h
   simp only [concL,conc,Option.bind_some,Option.map_eq_some_iff] at hv
   obtain ⟨_,⟨_,⟨_,⟨zs,hz,rfl⟩,rfl⟩,rfl⟩,rfl⟩:=hv
   cases j with
   | zero=>cases hj;rfl
   | succ j=>rw [show (j + 1) * 4 = j * 4 + 4 by omega];exact decChs_eq h1 hz j p (by simpa using hj)
  ·cases h
noncomputable def rdPts : St→AV→Option (List S37):=rdG 3 decPts
noncomputable def rdChs : St→AV→Option (List S65):=rdG 4 decChs
theorem rdPts_ok {e : Env} {s : St} {w : World} (hs : Sim e s w) {v : AV} {xs : List S37} {x : Value} (h : rdPts s v = some xs) (hx : conc e v = some x) : ∃ A c,x = .slice A xs.length c∧xs.length≤c∧Kd.C k37 w A xs.length xs:=
 rdG_ok (d:=k37) hs (by show 0 < 3;omega) (fun cs xs vs h1 h2 j p hj=>by
  show k37.K w p ((vs.drop (j * 3)).take 3)
  rw [decPts_eq h1 h2 j p hj];exact k37_mk w p) h hx
theorem rdChs_ok {e : Env} {s : St} {w : World} (hs : Sim e s w) {v : AV} {xs : List S65} {x : Value} (h : rdChs s v = some xs) (hx : conc e v = some x) : ∃ A c,x = .slice A xs.length c∧xs.length≤c∧Kd.C k65 w A xs.length xs:=
 rdG_ok (d:=k65) hs (by show 0 < 4;omega) (fun cs xs vs h1 h2 j p hj=>by
  show k65.K w p ((vs.drop (j * 4)).take 4)
  rw [decChs_eq h1 h2 j p hj];exact k65_mk w p) h hx
noncomputable def surelyG (args : List AV) (s : St) : Option (Rt × St):=
 match args with
 | [.agg [p,c],o]=>(rdPts s p).bind fun ps=>(rdChs s c).bind fun cs=>(rdInts s o).bind fun op=>(ga_surely.f 400 ps cs op).bind fun r=>some (.ret (.bool r),s)
 | _=>none
noncomputable def gateHook : Hook:=fun f=>if Nat.beq f 65 then some surelyG else none
theorem surelyG_ok {args : List AV} {s : St} {r : Rt} {s' : St} (h : surelyG args s = some (r,s')) {e : Env} {w : World} (hs : Sim e s w) (hf : Free e s.next s'.next) {xs : List Value} (hxs : concL e args = some xs) (c : Frame) (cs : List Frame) :
 ∃ e' w',Sim e' s' w'∧Goes e s w e' s' w'∧EndsAt Tryz.prog (lone (Frame.enter Tryz.prog 65 xs.toArray .normal) (c :: cs) w) c cs e' r w':=by
 unfold surelyG at h
 split at h
 case h_2=>cases h
 rename_i p q o
 simp only [Option.bind_eq_some_iff] at h
 obtain ⟨ps,hps,qs,hqs,os,hos,rr,hr,h⟩:=h
 cases h
 simp only [concL,conc,Option.bind_eq_some_iff,Option.map_eq_some_iff,Option.some.injEq] at hxs
 obtain ⟨_,⟨_,⟨xp,hxp,_,⟨xq,hxq,_,rfl,rfl⟩,rfl⟩,rfl⟩,_,⟨xo,hxo,_,rfl,rfl⟩,rfl⟩:=hxs
 obtain ⟨A0,c0,rfl,hc0,hC0⟩:=rdPts_ok hs hps hxp
 obtain ⟨A1,c1,rfl,hc1,hC1⟩:=rdChs_ok hs hqs hxq
 obtain ⟨A2,c2,rfl,hc2,hC2⟩:=rdInts_ok hs hos hxo
 obtain ⟨en,w',⟨rfl,hB⟩,hst⟩:=endsC (ga_surely.calls 400 A0 c0 ps A1 c1 qs A2 c2 os rr w hC0 hc0 hC1 hc1 hC2 hc2 hr) c cs
 obtain ⟨hg1,hg2⟩:=grow hs hB
 exact ⟨e,w',hg1,hg2,_,rfl,hst _ rfl⟩
theorem gateHook_ok : HookOk Tryz.prog gateHook:=by
 intro f g hg args s r s' h e w hs hf xs hxs c cs
 unfold gateHook at hg
 split at hg
 ·rename_i hb;cases hg;cases Nat.eq_of_beq_eq_true hb;exact surelyG_ok h hs hf hxs c cs
 ·cases hg
end Go.Proofs.YtclkbedbocnpkaaGreatDoor.C
namespace Go.Proofs.YtclkbedbocnpkaaGreatDoor.C
open Go Go.Abs Go.RowKit
set_option linter.unusedVariables false
set_option linter.unusedSimpArgs false
set_option maxHeartbeats 16000000
set_option maxRecDepth 100000
abbrev I (n : Int) : AV:=.int .i64 n
abbrev U : AV:=.tup []
abbrev L {α : Type} : T4 α:=.leaf
abbrev N {α : Type} (v : α) (a b c d : T4 α) : T4 α:=.node v a b c d
abbrev N0 {α : Type} (v : α) : T4 α:=.node v .leaf .leaf .leaf .leaf
abbrev N1 {α : Type} (v : α) (a : T4 α) : T4 α:=.node v a .leaf .leaf .leaf
abbrev N2 {α : Type} (v : α) (a : T4 α) : T4 α:=.node v .leaf a .leaf .leaf
abbrev N3 {α : Type} (v : α) (a : T4 α) : T4 α:=.node v .leaf .leaf a .leaf
abbrev N4 {α : Type} (v : α) (a : T4 α) : T4 α:=.node v .leaf .leaf .leaf a
noncomputable def knownCall : CallF:=fCall Tryz.prog Go.Proofs.YtclkbedbocnpkaaGreatDoor.C.gateHook 100000 60
noncomputable def kt0 : FT:=ofL []
noncomputable def kg0 : Sg:=sgOf ⟨.leaf,0,[]⟩
noncomputable def kt1 : FT:=(N U (N U L (N1 U (N0 (I 0))) (N (.bool true) (N0 (I 0)) L L L) L) (N U L (N1 U (N0 (I 0))) (N (I 2) (N0 (.bool false)) L L L) L) (N U L (N (I 60) (N0 (I 0)) L L L) (N0 (I 3)) L) (N2 U (N (.opn 1095 4) (N0 (I 0)) L L L)))
noncomputable def kg1 : Sg:=sgOf ⟨(N none (N (some (.cells 37 none [(I 100),(I 120),(I 0),(I 0),(I 0),(I 0),(I 0),(I 0),(I 40),(I 0),(I 0),(I 50)])) L L (N2 none (N0 (some (.cells 65 none [(I 0),(I 1),(I 100),(.bool true),(I 0),(I 1),(I 95),(.bool true),(I 1),(I 2),(I 50),(.bool false),(I 1),(I 3),(I 60),(.bool true),(I 2),(I 3),(I 30),(.bool true)])))) (N none (N1 none (N4 none (N0 (some (.cells 3 none [(I 0),(I 3)]))))) (N none (N2 none (N0 (some (.cells 37 none [(I 80),(I 120),(I 0),(I 0),(I 0),(I 0),(I 0),(I 0),(I 40),(I 0),(I 0),(I 50)])))) L L (N1 none (N0 (some (.cells 65 none [(I 0),(I 1),(I 100),(.bool true),(I 0),(I 1),(I 95),(.bool true),(I 1),(I 2),(I 50),(.bool false),(I 1),(I 3),(I 60),(.bool true),(I 2),(I 3),(I 30),(.bool true)]))))) L L)) (N (some (.cells 65 none [(I 0),(I 1),(I 100),(.bool true),(I 0),(I 1),(I 95),(.bool true),(I 1),(I 2),(I 50),(.bool false),(I 1),(I 3),(I 60),(.bool true),(I 2),(I 3),(I 30),(.bool true)])) L L L (N2 none (N none (N2 none (N0 (some (.cells 65 none [(I 0),(I 1),(I 100),(.bool true),(I 0),(I 1),(I 95),(.bool true),(I 1),(I 2),(I 50),(.bool false),(I 1),(I 3),(I 60),(.bool true),(I 2),(I 3),(I 30),(.bool true)])))) L L (N1 none (N0 (some (.cells 3 none [(I 0),(I 3)]))))))) (N (some (.cells 3 none [(I 0),(I 3)])) (N4 none (N4 none (N3 none (N0 (some (.cells 3 (some 1) [(I 0),(I 1),(I 2),(I 3)])))))) L (N none (N1 none (N4 none (N0 (some (.cells 37 none [(I 100),(I 120),(I 0),(I 0),(I 0),(I 0),(I 0),(I 0),(I 40),(I 0),(I 0),(I 50)]))))) (N0 (some (.cells 3 none [(I 0),(I 3)]))) L L) (N2 none (N4 none (N1 none (N0 (some (.cells 3 none [(I 90),(I 0),(I 40),(I 50),(I 0)]))))))) (N none L (N2 none (N0 (some (.cells 37 none [(I 80),(I 120),(I 0),(I 0),(I 0),(I 0),(I 0),(I 0),(I 40),(I 0),(I 0),(I 50)])))) (N none (N1 none (N4 none (N0 (some (.cells 65 none [(I 0),(I 1),(I 100),(.bool true),(I 0),(I 1),(I 95),(.bool true),(I 1),(I 2),(I 50),(.bool false),(I 1),(I 3),(I 60),(.bool true),(I 2),(I 3),(I 30),(.bool true)]))))) (N4 none (N1 none (N0 (some (.cells 37 none [(I 100),(I 120),(I 0),(I 0),(I 0),(I 0),(I 0),(I 0),(I 40),(I 0),(I 0),(I 50)]))))) L L) (N2 none (N1 none (N2 none (N0 (some (.cells 3 none [(I 0),(I 3)])))))))),1989,[1121,1120,1119,1095,628,626,625,563,562,561,560,47,45,44,3,2,1]⟩
noncomputable def kt2 : FT:=(N U (N U (N (.opn 3553 2) (N0 (I 0)) L L L) (N (.opn 2262 1) (N0 (I 0)) L L L) (N (.bool true) (N0 (I 0)) L L L) L) (N U (N1 U (N0 (I 0))) (N (.opn 2094 2) (N0 (I 0)) L L L) (N (I 2) (N0 (.bool false)) L L L) L) (N U (N (.opn 2840 2) (N0 (I 0)) L L L) (N (I 60) (N0 (I 0)) L L L) (N0 (I 3)) L) (N (I 4) (N (.opn 2511 2) (N0 (I 0)) L L L) (N (.opn 1095 4) (N0 (I 0)) L L L) L (N0 (I 0))))
noncomputable def kg2 : Sg:=sgOf ⟨(N none (N (some (.cells 37 none [(I 100),(I 120),(I 0),(I 0),(I 0),(I 0),(I 0),(I 0),(I 40),(I 0),(I 0),(I 50)])) (N2 none (N3 none (N1 none (N2 none (N0 (some (.cells 37 none [(I 100),(I 120),(I 0),(I 0),(I 0),(I 0),(I 0),(I 0),(I 40),(I 0),(I 0),(I 50)]))))))) (N4 none (N4 none (N4 none (N2 none (N0 (some (.cells 3 (some 1) [(I 1),(I 3)]))))))) (N2 none (N0 (some (.cells 65 none [(I 0),(I 1),(I 100),(.bool true),(I 0),(I 1),(I 95),(.bool true),(I 1),(I 2),(I 50),(.bool false),(I 1),(I 3),(I 60),(.bool true),(I 2),(I 3),(I 30),(.bool true)])))) (N none (N none (N4 none (N0 (some (.cells 3 none [(I 0),(I 3)])))) L (N1 none (N3 none (N0 (some (.cells 26 (some 1) [(.opn 3401 2),(.opn 3551 2)]))))) L) (N none (N2 none (N0 (some (.cells 37 none [(I 80),(I 120),(I 0),(I 0),(I 0),(I 0),(I 0),(I 0),(I 40),(I 0),(I 0),(I 50)])))) L L (N none (N0 (some (.cells 65 none [(I 0),(I 1),(I 100),(.bool true),(I 0),(I 1),(I 95),(.bool true),(I 1),(I 2),(I 50),(.bool false),(I 1),(I 3),(I 60),(.bool true),(I 2),(I 3),(I 30),(.bool true)]))) (N2 none (N0 (some (.cells 65 none [(I 0),(I 1),(I 100),(.bool true),(I 0),(I 1),(I 95),(.bool true),(I 1),(I 2),(I 50),(.bool false),(I 1),(I 3),(I 60),(.bool true),(I 2),(I 3),(I 30),(.bool true)])))) (N1 none (N0 (some (.cells 65 none [(I 0),(I 1),(I 100),(.bool true),(I 0),(I 1),(I 95),(.bool true),(I 1),(I 2),(I 50),(.bool false),(I 1),(I 3),(I 60),(.bool true),(I 2),(I 3),(I 30),(.bool true)])))) L)) (N3 none (N4 none (N1 none (N0 (some (.cells 3 none [(I 0)])))))) L)) (N (some (.cells 65 none [(I 0),(I 1),(I 100),(.bool true),(I 0),(I 1),(I 95),(.bool true),(I 1),(I 2),(I 50),(.bool false),(I 1),(I 3),(I 60),(.bool true),(I 2),(I 3),(I 30),(.bool true)])) (N none (N3 none (N4 none (N1 none (N0 (some (.cells 3 (some 1) [(I 3)])))))) (N3 none (N1 none (N2 none (N0 (some (.cells 65 none [(I 0),(I 1),(I 100),(.bool true),(I 0),(I 1),(I 95),(.bool true),(I 1),(I 2),(I 50),(.bool false),(I 1),(I 3),(I 60),(.bool true),(I 2),(I 3),(I 30),(.bool true)])))))) L (N2 none (N3 none (N1 none (N0 (some (.cells 37 none [(I 100),(I 120),(I 0),(I 0),(I 0),(I 0),(I 0),(I 0),(I 40),(I 0),(I 0),(I 50)]))))))) L (N none L (N4 none (N3 none (N1 none (N0 (some (.cells 3 (some 1) [(I 0),(I 3)])))))) (N3 none (N4 none (N1 none (N0 (some (.cells 37 none [(I 100),(I 120),(I 0),(I 0),(I 0),(I 0),(I 0),(I 0),(I 40),(I 0),(I 0),(I 50)])))))) L) (N2 none (N none (N2 none (N0 (some (.cells 65 none [(I 0),(I 1),(I 100),(.bool true),(I 0),(I 1),(I 95),(.bool true),(I 1),(I 2),(I 50),(.bool false),(I 1),(I 3),(I 60),(.bool true),(I 2),(I 3),(I 30),(.bool true)])))) L L (N none (N0 (some (.cells 3 none [(I 0),(I 3)]))) (N2 none (N0 (some (.cells 3 none [(I 0),(I 3)])))) L L)))) (N (some (.cells 3 none [(I 0),(I 3)])) (N none L (N3 none (N1 none (N2 none (N0 (some (.cells 3 none [(I 0),(I 1)])))))) L (N none L (N3 none (N1 none (N0 (some (.cells 65 none [(I 0),(I 1),(I 100),(.bool true),(I 0),(I 1),(I 95),(.bool true),(I 1),(I 2),(I 50),(.bool false),(I 1),(I 3),(I 60),(.bool true),(I 2),(I 3),(I 30),(.bool true)]))))) L (N3 none (N0 (some (.cells 3 (some 1) [(I 0),(I 1),(I 2),(I 3)])))))) L (N none (N none (N4 none (N0 (some (.cells 37 none [(I 100),(I 120),(I 0),(I 0),(I 0),(I 0),(I 0),(I 0),(I 40),(I 0),(I 0),(I 50)])))) L (N1 none (N3 none (N0 (some (.cells 3 (some 1) [(I 0),(I 3)]))))) L) (N0 (some (.cells 3 none [(I 0),(I 3)]))) (N3 none (N4 none (N1 none (N0 (some (.cells 65 none [(I 0),(I 1),(I 100),(.bool true),(I 0),(I 1),(I 95),(.bool true),(I 1),(I 2),(I 50),(.bool false),(I 1),(I 3),(I 60),(.bool true),(I 2),(I 3),(I 30),(.bool true)])))))) (N2 none (N1 none (N2 none (N0 (some (.cells 3 (some 1) [(I 0),(I 1)]))))))) (N2 none (N4 none (N none (N0 (some (.cells 3 none [(I 90),(I 0),(I 40),(I 50),(I 0)]))) (N2 none (N0 (some (.cells 3 none [(I 0),(I 1)])))) L L)))) (N none (N1 none (N4 none (N2 none (N2 none (N0 (some (.cells 3 (some 1) [(I 1),(I 2)]))))))) (N2 none (N0 (some (.cells 37 none [(I 80),(I 120),(I 0),(I 0),(I 0),(I 0),(I 0),(I 0),(I 40),(I 0),(I 0),(I 50)])))) (N none (N1 none (N4 none (N0 (some (.cells 65 none [(I 0),(I 1),(I 100),(.bool true),(I 0),(I 1),(I 95),(.bool true),(I 1),(I 2),(I 50),(.bool false),(I 1),(I 3),(I 60),(.bool true),(I 2),(I 3),(I 30),(.bool true)]))))) (N4 none (N none (N0 (some (.cells 37 none [(I 100),(I 120),(I 0),(I 0),(I 0),(I 0),(I 0),(I 0),(I 40),(I 0),(I 0),(I 50)]))) (N2 none (N0 (some (.cells 37 none [(I 100),(I 120),(I 0),(I 0),(I 0),(I 0),(I 0),(I 0),(I 40),(I 0),(I 0),(I 50)])))) (N1 none (N0 (some (.cells 37 none [(I 100),(I 120),(I 0),(I 0),(I 0),(I 0),(I 0),(I 0),(I 40),(I 0),(I 0),(I 50)])))) L)) (N3 none (N4 none (N1 none (N0 (some (.cells 3 none [(I 0),(I 3)])))))) L) (N2 none (N1 none (N2 none (N0 (some (.cells 3 none [(I 0),(I 3)])))))))),3554,[3551,3401,3553,2867,2866,2865,2864,2840,2535,2534,2533,2511,2305,2304,2303,2302,2262,2097,2096,2094,1991,1990,1121,1120,1119,1095,628,626,625,563,562,561,560,47,45,44,3,2,1]⟩
noncomputable def kt3 : FT:=(N (.ptr 4157 0) (N U (N (.opn 3553 2) (N0 (I 0)) L L L) (N (.opn 2262 1) (N0 (I 0)) L L L) (N (.bool true) (N0 (I 0)) L L L) (N0 (I 0))) (N (.opn 4049 3) (N1 U (N0 (I 0))) (N (.opn 2094 2) (N0 (I 0)) L L L) (N (I 2) (N0 (.bool false)) L L L) (N0 (I 0))) (N (.opn 3710 2) (N (.opn 2840 2) (N0 (I 0)) L L L) (N (I 60) (N0 (I 0)) L L L) (N0 (I 3)) (N0 (I 0))) (N (I 4) (N (.opn 2511 2) (N0 (I 0)) L L L) (N (.opn 1095 4) (N0 (I 0)) L L L) (N0 (.bool false)) (N0 (I 0))))
noncomputable def kg3 : Sg:=sgOf ⟨(N none (N (some (.cells 37 none [(I 100),(I 120),(I 0),(I 0),(I 0),(I 0),(I 0),(I 0),(I 40),(I 0),(I 0),(I 50)])) (N2 none (N none L (N2 none (N3 none (N0 (some (.cells 3 none [(I 0),(I 1),(I 4)]))))) (N1 none (N none L (N0 (some (.cells 37 none [(I 100),(I 120),(I 0),(I 0),(I 0),(I 0),(I 0),(I 0),(I 40),(I 0),(I 0),(I 50)]))) (N0 (some (.cells 3 none [(I 0),(I 1),(I 4)]))) L)) L)) (N4 none (N4 none (N4 none (N2 none (N0 (some (.cells 3 (some 1) [(I 1),(I 3)]))))))) (N none L (N0 (some (.cells 65 none [(I 0),(I 1),(I 100),(.bool true),(I 0),(I 1),(I 95),(.bool true),(I 1),(I 2),(I 50),(.bool false),(I 1),(I 3),(I 60),(.bool true),(I 2),(I 3),(I 30),(.bool true)]))) (N4 none (N3 none (N3 none (N0 (some (.cells 25 none [(.opn 4115 2),(.opn 4126 1)])))))) L) (N none (N none (N4 none (N0 (some (.cells 3 none [(I 0),(I 3)])))) L (N1 none (N3 none (N0 (some (.cells 26 (some 1) [(.opn 3401 2),(.opn 3551 2)]))))) L) (N none (N2 none (N0 (some (.cells 37 none [(I 80),(I 120),(I 0),(I 0),(I 0),(I 0),(I 0),(I 0),(I 40),(I 0),(I 0),(I 50)])))) L L (N none (N0 (some (.cells 65 none [(I 0),(I 1),(I 100),(.bool true),(I 0),(I 1),(I 95),(.bool true),(I 1),(I 2),(I 50),(.bool false),(I 1),(I 3),(I 60),(.bool true),(I 2),(I 3),(I 30),(.bool true)]))) (N2 none (N0 (some (.cells 65 none [(I 0),(I 1),(I 100),(.bool true),(I 0),(I 1),(I 95),(.bool true),(I 1),(I 2),(I 50),(.bool false),(I 1),(I 3),(I 60),(.bool true),(I 2),(I 3),(I 30),(.bool true)])))) (N1 none (N0 (some (.cells 65 none [(I 0),(I 1),(I 100),(.bool true),(I 0),(I 1),(I 95),(.bool true),(I 1),(I 2),(I 50),(.bool false),(I 1),(I 3),(I 60),(.bool true),(I 2),(I 3),(I 30),(.bool true)])))) L)) (N3 none (N4 none (N1 none (N0 (some (.cells 3 none [(I 0)])))))) (N2 none (N3 none (N3 none (N0 (some (.cells 3 (some 1) [(I 0),(I 1),(I 0)])))))))) (N (some (.cells 65 none [(I 0),(I 1),(I 100),(.bool true),(I 0),(I 1),(I 95),(.bool true),(I 1),(I 2),(I 50),(.bool false),(I 1),(I 3),(I 60),(.bool true),(I 2),(I 3),(I 30),(.bool true)])) (N none (N3 none (N4 none (N1 none (N0 (some (.cells 3 (some 1) [(I 3)])))))) (N3 none (N1 none (N2 none (N0 (some (.cells 65 none [(I 0),(I 1),(I 100),(.bool true),(I 0),(I 1),(I 95),(.bool true),(I 1),(I 2),(I 50),(.bool false),(I 1),(I 3),(I 60),(.bool true),(I 2),(I 3),(I 30),(.bool true)])))))) L (N2 none (N3 none (N1 none (N0 (some (.cells 37 none [(I 100),(I 120),(I 0),(I 0),(I 0),(I 0),(I 0),(I 0),(I 40),(I 0),(I 0),(I 50)]))))))) L (N none (N4 none (N3 none (N3 none (N0 (some (.cells 65 (some 4) [(I 0),(I 1),(I 4),(.bool true)])))))) (N4 none (N3 none (N1 none (N0 (some (.cells 3 (some 1) [(I 0),(I 3)])))))) (N none (N2 none (N3 none (N0 (some (.cells 3 (some 1) [(I 0),(I 4)]))))) L (N4 none (N1 none (N0 (some (.cells 37 none [(I 100),(I 120),(I 0),(I 0),(I 0),(I 0),(I 0),(I 0),(I 40),(I 0),(I 0),(I 50)]))))) L) L) (N2 none (N none (N2 none (N0 (some (.cells 65 none [(I 0),(I 1),(I 100),(.bool true),(I 0),(I 1),(I 95),(.bool true),(I 1),(I 2),(I 50),(.bool false),(I 1),(I 3),(I 60),(.bool true),(I 2),(I 3),(I 30),(.bool true)])))) L L (N none (N0 (some (.cells 3 none [(I 0),(I 3)]))) (N2 none (N0 (some (.cells 3 none [(I 0),(I 3)])))) L L)))) (N (some (.cells 3 none [(I 0),(I 3)])) (N none L (N3 none (N1 none (N2 none (N0 (some (.cells 3 none [(I 0),(I 1)])))))) L (N none L (N3 none (N1 none (N0 (some (.cells 65 none [(I 0),(I 1),(I 100),(.bool true),(I 0),(I 1),(I 95),(.bool true),(I 1),(I 2),(I 50),(.bool false),(I 1),(I 3),(I 60),(.bool true),(I 2),(I 3),(I 30),(.bool true)]))))) L (N3 none (N0 (some (.cells 3 (some 1) [(I 0),(I 1),(I 2),(I 3)])))))) L (N none (N none (N4 none (N0 (some (.cells 37 none [(I 100),(I 120),(I 0),(I 0),(I 0),(I 0),(I 0),(I 0),(I 40),(I 0),(I 0),(I 50)])))) L (N1 none (N3 none (N0 (some (.cells 3 (some 1) [(I 0),(I 3)]))))) L) (N0 (some (.cells 3 none [(I 0),(I 3)]))) (N3 none (N4 none (N1 none (N0 (some (.cells 65 none [(I 0),(I 1),(I 100),(.bool true),(I 0),(I 1),(I 95),(.bool true),(I 1),(I 2),(I 50),(.bool false),(I 1),(I 3),(I 60),(.bool true),(I 2),(I 3),(I 30),(.bool true)])))))) (N2 none (N1 none (N2 none (N0 (some (.cells 3 (some 1) [(I 0),(I 1)]))))))) (N none (N none L (N2 none (N3 none (N0 (some (.cells 37 none [(I 100),(I 120),(I 0),(I 0),(I 0),(I 0),(I 0),(I 0),(I 40),(I 0),(I 0),(I 50)]))))) (N1 none (N3 none (N0 (some (.cells 37 none [(I 100),(I 120),(I 0),(I 0),(I 0),(I 0),(I 0),(I 0),(I 40),(I 0),(I 0),(I 50)]))))) L) (N4 none (N none (N0 (some (.cells 3 none [(I 90),(I 0),(I 40),(I 50),(I 0)]))) (N2 none (N0 (some (.cells 3 none [(I 0),(I 1)])))) L L)) L (N3 none (N3 none (N3 none (N0 (some (.cells 37 (some 3) [(I 5),(I 5),(I 0),(I 0),(I 0),(I 3)])))))))) (N none (N1 none (N4 none (N2 none (N2 none (N0 (some (.cells 3 (some 1) [(I 1),(I 2)]))))))) (N2 none (N0 (some (.cells 37 none [(I 80),(I 120),(I 0),(I 0),(I 0),(I 0),(I 0),(I 0),(I 40),(I 0),(I 0),(I 50)])))) (N none (N1 none (N4 none (N0 (some (.cells 65 none [(I 0),(I 1),(I 100),(.bool true),(I 0),(I 1),(I 95),(.bool true),(I 1),(I 2),(I 50),(.bool false),(I 1),(I 3),(I 60),(.bool true),(I 2),(I 3),(I 30),(.bool true)]))))) (N4 none (N none (N0 (some (.cells 37 none [(I 100),(I 120),(I 0),(I 0),(I 0),(I 0),(I 0),(I 0),(I 40),(I 0),(I 0),(I 50)]))) (N2 none (N0 (some (.cells 37 none [(I 100),(I 120),(I 0),(I 0),(I 0),(I 0),(I 0),(I 0),(I 40),(I 0),(I 0),(I 50)])))) (N1 none (N0 (some (.cells 37 none [(I 100),(I 120),(I 0),(I 0),(I 0),(I 0),(I 0),(I 0),(I 40),(I 0),(I 0),(I 50)])))) L)) (N3 none (N4 none (N1 none (N0 (some (.cells 3 none [(I 0),(I 3)])))))) L) (N none (N none L (N2 none (N3 none (N0 (some (.cells 65 none [(I 0),(I 1),(I 100),(.bool true),(I 0),(I 1),(I 95),(.bool true),(I 1),(I 2),(I 50),(.bool false),(I 1),(I 3),(I 60),(.bool true),(I 2),(I 3),(I 30),(.bool true)]))))) (N1 none (N3 none (N0 (some (.cells 65 none [(I 0),(I 1),(I 100),(.bool true),(I 0),(I 1),(I 95),(.bool true),(I 1),(I 2),(I 50),(.bool false),(I 1),(I 3),(I 60),(.bool true),(I 2),(I 3),(I 30),(.bool true)]))))) L) (N1 none (N2 none (N0 (some (.cells 3 none [(I 0),(I 3)]))))) L L))),4158,[4157,4157,4126,4115,4049,3749,3748,3747,3710,3557,3556,3555,3551,3401,3553,2867,2866,2865,2864,2840,2535,2534,2533,2511,2305,2304,2303,2302,2262,2097,2096,2094,1991,1990,1121,1120,1119,1095,628,626,625,563,562,561,560,47,45,44,3,2,1]⟩
theorem ks0 : ((kcOf Tryz.prog 15).drop 0).seqs 6 = true:=by kernel_rfl
theorem kr0 (kx : KX) (k : KT) : warm 1 (runKX 100000 (((kcOf Tryz.prog 15).drop 0).take 6) ⟨Tryz.prog,knownCall,kx⟩ kt0 kg0 k) = k kt1 kg1:=by kernel_rfl
theorem ks1 : ((kcOf Tryz.prog 15).drop 6).seqs 5 = true:=by kernel_rfl
theorem kr1 (kx : KX) (k : KT) : warm 32 (runKX 99994 (((kcOf Tryz.prog 15).drop 6).take 5) ⟨Tryz.prog,knownCall,kx⟩ kt1 kg1 k) = k kt2 kg2:=by kernel_rfl
theorem ks2 : ((kcOf Tryz.prog 15).drop 11).seqs 4 = true:=by kernel_rfl
theorem kr2 (kx : KX) (k : KT) : warm 56 (runKX 99989 (((kcOf Tryz.prog 15).drop 11).take 4) ⟨Tryz.prog,knownCall,kx⟩ kt2 kg2 k) = k kt3 kg3:=by kernel_rfl
theorem klast : okTrue (warm 65 (from_ Tryz.prog knownCall 15 15 99985 kt3 kg3)) = true:=by kernel_rfl
theorem known_run : okTrue (runF Tryz.prog Go.Proofs.YtclkbedbocnpkaaGreatDoor.C.gateHook 100000 60 15 []) = true:=by
 rw [runF_from]
 rw [show from_ Tryz.prog (fCall Tryz.prog Go.Proofs.YtclkbedbocnpkaaGreatDoor.C.gateHook 100000 60) 15 0 100000 (ofL []) (sgOf ⟨.leaf,0,[]⟩) = from_ Tryz.prog knownCall 15 0 100000 kt0 kg0 from rfl]
 rw [show from_ Tryz.prog knownCall 15 0 100000 kt0 kg0 = from_ Tryz.prog knownCall 15 6 99994 kt1 kg1 from from_step (K:=99993) (m:=6) ks0 fun kx k=>(warm_eq 1 _).symm.trans (kr0 kx k)]
 rw [show from_ Tryz.prog knownCall 15 6 99994 kt1 kg1 = from_ Tryz.prog knownCall 15 11 99989 kt2 kg2 from from_step (K:=99988) (m:=5) ks1 fun kx k=>(warm_eq 32 _).symm.trans (kr1 kx k)]
 rw [show from_ Tryz.prog knownCall 15 11 99989 kt2 kg2 = from_ Tryz.prog knownCall 15 15 99985 kt3 kg3 from from_step (K:=99984) (m:=4) ks2 fun kx k=>(warm_eq 56 _).symm.trans (kr2 kx k)]
 exact (congrArg okTrue (warm_eq 65 _)).symm.trans klast
end Go.Proofs.YtclkbedbocnpkaaGreatDoor.C
namespace Go.Proofs.YtclkbedbocnpkaaGreatDoor.C
open Go Go.RowKit Go.Abs
set_option linter.unusedVariables false
set_option linter.unusedSimpArgs false
set_option maxHeartbeats 16000000
set_option maxRecDepth 100000
def l8_known.f : Option Bool:=some true
theorem l8_known.calls (r : Bool) (w : World) (h : l8_known.f = some r) : Calls Tryz.prog 15 #[] w fun e w'=>e = .returned (.bool r)∧Below w.heap.size w w':=by
 cases h
 exact calls_true gateHook_ok known_run w
theorem known_true : l8_known.f = some true:=by simp [l8_known.f]
end Go.Proofs.YtclkbedbocnpkaaGreatDoor.C
namespace Go.Proofs.YtclkbedbocnpkaaGreatDoor.C
open Go.RowKit Go.Proofs.YtclkbedbocnpkaaGreatDoorW.PrintWords Go.Proofs.YtclkbedbocnpkaaGreatDoorW.PrintLast Go.Proofs.YtclkbedbocnpkaaGreatDoorW.PrintMore
set_option linter.unusedVariables false
set_option linter.unusedSimpArgs false
set_option maxHeartbeats 16000000
set_option maxRecDepth 100000
def ga_Cut.j0 : Nat→List Int→Bool→List (S37)→List (S65)→Option (List Int × Int)
 | 0,_,_,_,_=>none
 | k + 1,x1,x16,x161000,x161001=>if x16 = true then (some (([] : List Int),2)) else ((gs_cut.f k x161000 x161001 x1 0).bind fun bt163=>(if bt163.2 = true then (some (bt163.1,0)) else (some (([] : List Int),5))))
def ga_Cut.f (k : Nat) (l0_0 : List (S37)) (l0_1 : List (S65)) (l1 : List Int) : Option (List Int × Int):=(ga_isNet.f k l0_0 l0_1).bind fun t161=>(if t161 = true then ((ga_areGates.f k l0_0 l0_1 l1).bind fun t162=>(ga_Cut.j0 k l1 (!t162) l0_0 l0_1)) else (ga_Cut.j0 k l1 true l0_0 l0_1))
theorem ga_Cut.calls (k : Nat) (A0_0 : Option Addr) (c0_0 : Nat) (l0_0 : List (S37)) (A0_1 : Option Addr) (c0_1 : Nat) (l0_1 : List (S65)) (A1 : Option Addr) (c1 : Nat) (l1 : List Int) (r1 : List Int) (r2 : Int) (w : World) (hr0_0 : Kd.C k37 w A0_0 l0_0.length l0_0) (hc0_0 : l0_0.length≤c0_0) (hr0_1 : Kd.C k65 w A0_1 l0_1.length l0_1) (hc0_1 : l0_1.length≤c0_1) (hr1 : Kd.C (Kd.int .i64) w A1 l1.length l1) (hc1 : l1.length≤c1) (h : ga_Cut.f k l0_0 l0_1 l1 = some (r1,r2)) :
 Calls Tryz.prog 23 #[.agg #[.slice A0_0 l0_0.length c0_0,.slice A0_1 l0_1.length c0_1],.slice A1 l1.length c1] w fun e w'=>∃ v0_ : Value,e = .returned (.tuple #[v0_,.int .i64 r2])∧Kd.R (Kd.int .i64) 3 w' w.heap.size (fun _=>True) v0_ r1∧Below w.heap.size w w':=by
 have hu25:=Tryz.underlying25
 have hu80:=Tryz.underlying80
 have HR0_0:=am hr0_0
 have HC0_0:=am hc0_0
 clear hr0_0 hc0_0
 have HR0_1:=am hr0_1
 have HC0_1:=am hc0_1
 clear hr0_1 hc0_1
 have HR1:=am hr1
 have HC1:=am hc1
 clear hr1 hc1
 have HB:=am (Below.refl w.heap.size w)
 have H : ((ga_isNet.f k l0_0 l0_1).bind fun t161=>(if t161 = true then ((ga_areGates.f k l0_0 l0_1 l1).bind fun t162=>(ga_Cut.j0 k l1 (!t162) l0_0 l0_1)) else (ga_Cut.j0 k l1 true l0_0 l0_1))) = some (r1,r2):=h
 clear h
 have HC3:=am H
 clear H
 go_enter Tryz.func23,Tryz.ntmps23
 go_upto_region 1 with (first | ((refine ga_dst (N:=2) rfl ?_);refine box_event rfl (N:=2) rfl (cs:=#[.slice A0_0 l0_0.length c0_0,.slice A0_1 l0_1.length c0_1]) (t:=25) ?hr ?_;(case hr=>go_simp;try rfl);intro gb160 hg w4 hbox hb;have BK160:=am (hbox);have GW160:=am (ge_new (HB.out) hg);have GE160:=am (ge_new (HB.out) hg);replace HB:=am (below_step (HB.out) hb);clear hb hbox hg))
 (try simp only [Act.put,List.setIfInBounds_toArray,List.set_cons_zero,List.set_cons_succ])
 go_cut [16] (fun v16 wc=>∃ (kq : Nat) (x16_2 : Bool),v16 = .bool x16_2∧Aside0 (ga_Cut.j0 kq l1 x16_2 l0_0 l0_1 = some (r1,r2))∧Aside0 (kq≤k)∧Aside0 (wc.heap[gb160]? = some (.cells #[(.slice A0_0 l0_0.length c0_0),(.slice A0_1 l0_1.length c0_1)] 25 (0,0)))∧Aside0 (Below w.heap.size w wc))
 case first =>
  have H:=HC3.out
  clear HC3
  replace H:=obm H
  obtain ⟨t161,A50,H⟩:=H
  replace H : (if t161 = true then ((ga_areGates.f k l0_0 l0_1 l1).bind fun t162=>(ga_Cut.j0 k l1 (!t162) l0_0 l0_1)) else (ga_Cut.j0 k l1 true l0_0 l0_1)) = some (r1,r2):=H
  have A5:=am A50
  clear A50
  by_cases c6 : t161 = true
  case neg =>
   replace c6:=Bool.eq_false_iff.mpr c6
   subst c6
   replace H : (ga_Cut.j0 k l1 true l0_0 l0_1) = some (r1,r2):=by rw [if_neg (show ¬ (false = true) by decide)] at H;exact H
   replace H':=am H
   obtain ⟨hcz12_0,hcz12_1⟩:=cO2 BK160.out
   go_wp2_with (first | ((with_reducible refine ga_callee (f:=55) rfl ?_);refine goesL_ (some 9) rfl rfl Tryz.func55 (by kernel_rfl) rfl #[.agg #[.slice A0_0 l0_0.length c0_0,.slice A0_1 l0_1.length c0_1]] rfl (by (try simp only [List.map_toArray,List.map_cons,List.map_nil]);first | done | rfl | (simp only [List.length_drop,List.length_take];rfl)) ?_;(refine (ga_isNet.calls k _ _ l0_0 _ _ l0_1 false _ ?side1 ?side2 ?side3 ?side4 A5.out).mono ?_);(case side1=>exact kC HR0_0.out HB.out);(case side2=>exact HC0_0.out);(case side3=>exact kC HR0_1.out HB.out);(case side4=>exact HC0_1.out);rintro e w13 ⟨rfl,hb⟩;refine ⟨_,rfl,?_⟩;replace BK160:=(kmv hb BK160);replace HB:=am (below_step (HB.out) hb);(try clear hb);(try clear hb2);(try clear hk);(try clear hi)))
   go_meet
   case rel=>exact ⟨_,(true),(by first | rfl | (simp;done) | (simp [*];done)),H',⟨by first | omega | exact Nat.le_refl _⟩,⟨BK160.out⟩,⟨HB.out⟩⟩
  subst c6
  replace H : ((ga_areGates.f k l0_0 l0_1 l1).bind fun t162=>(ga_Cut.j0 k l1 (!t162) l0_0 l0_1)) = some (r1,r2):=by rw [if_pos rfl] at H;exact H
  replace H:=obm H
  obtain ⟨t162,A70,H⟩:=H
  replace H : (ga_Cut.j0 k l1 (!t162) l0_0 l0_1) = some (r1,r2):=H
  have A7:=am A70
  clear A70
  replace H':=am H
  obtain ⟨hcz8_0,hcz8_1⟩:=cO2 BK160.out
  go_wp2_with (first | ((with_reducible refine ga_callee (f:=55) rfl ?_);refine goesL_ (some 9) rfl rfl Tryz.func55 (by kernel_rfl) rfl #[.agg #[.slice A0_0 l0_0.length c0_0,.slice A0_1 l0_1.length c0_1]] rfl (by (try simp only [List.map_toArray,List.map_cons,List.map_nil]);first | done | rfl | (simp only [List.length_drop,List.length_take];rfl)) ?_;(refine (ga_isNet.calls k _ _ l0_0 _ _ l0_1 true _ ?side1 ?side2 ?side3 ?side4 A5.out).mono ?_);(case side1=>exact kC HR0_0.out HB.out);(case side2=>exact HC0_0.out);(case side3=>exact kC HR0_1.out HB.out);(case side4=>exact HC0_1.out);rintro e w9 ⟨rfl,hb⟩;refine ⟨_,rfl,?_⟩;replace BK160:=(kmv hb BK160);replace HB:=am (below_step (HB.out) hb);(try clear hb);(try clear hb2);(try clear hk);(try clear hi);obtain ⟨hcz10_0,hcz10_1⟩:=cO2 BK160.out) | (go_at_call 56;(refine (ga_areGates.calls k _ _ l0_0 _ _ l0_1 _ _ l1 t162 _ ?side1 ?side2 ?side3 ?side4 ?side5 ?side6 A7.out).mono ?_);(case side1=>exact kC HR0_0.out HB.out);(case side2=>exact HC0_0.out);(case side3=>exact kC HR0_1.out HB.out);(case side4=>exact HC0_1.out);(case side5=>exact kC HR1.out HB.out);(case side6=>exact HC1.out);rintro e w11 ⟨rfl,hb⟩;replace BK160:=(kmv hb BK160);replace HB:=am (below_step (HB.out) hb);(try clear hb);(try clear hb2);(try clear hk);(try clear hi)))
  go_meet
  case rel=>exact ⟨_,(!t162),(by first | rfl | (simp;done) | (simp [*];done)),H',⟨by first | omega | exact Nat.le_refl _⟩,⟨BK160.out⟩,⟨HB.out⟩⟩
 case rest =>
  clear HC3
  obtain ⟨kq,x16_2,rfl,HA,HJ2,BK160,HB⟩:=hcut
  cases kq with
  | zero=>exact absurd HA.out (by simp [ga_Cut.j0])
  | succ kj2 =>
   have H:=HA.out
   clear HA
   simp only [ga_Cut.j0] at H
   by_cases c14 : x16_2 = true
   ·subst c14
    replace H : (some (([] : List Int),2)) = some (r1,r2):=by rw [if_pos rfl] at H;exact H
    simp only [Option.some.injEq,Prod.mk.injEq] at H
    obtain ⟨rfl,rfl⟩:=H
    go_wp2
    go_ret2
    exact ⟨_,by first | rfl | (simp [*]<;>rfl),by first | exact Kd.R_nil _ _ _ _ _ | exact Kd.N_nil _ _ _ _ _ | exact Kd.V_nil _ _ _ _ _ | exact Kd.Q_nil _ _ _ _ _ | exact Kd.S_nil _ _ _ _ _,HB.out⟩
   ·replace c14:=Bool.eq_false_iff.mpr c14
    subst c14
    replace H : ((gs_cut.f kj2 l0_0 l0_1 l1 0).bind fun bt163=>(if bt163.2 = true then (some (bt163.1,0)) else (some (([] : List Int),5)))) = some (r1,r2):=by rw [if_neg (show ¬ (false = true) by decide)] at H;exact H
    replace H:=obm H
    obtain ⟨⟨t163,t166⟩,A150,H⟩:=H
    replace H : (if t166 = true then (some (t163,0)) else (some (([] : List Int),5))) = some (r1,r2):=H
    have A15:=am A150
    clear A150
    by_cases c16 : t166 = true
    ·subst c16
     replace H : (some (t163,0)) = some (r1,r2):=by rw [if_pos rfl] at H;exact H
     simp only [Option.some.injEq,Prod.mk.injEq] at H
     obtain ⟨rfl,rfl⟩:=H
     obtain ⟨hcz17_0,hcz17_1⟩:=cO2 BK160.out
     go_wp2_with (first | ((with_reducible refine ga_callee (f:=66) rfl ?_);refine goesL_ (some 21) rfl rfl Tryz.func66 (by kernel_rfl) rfl #[.agg #[.slice A0_0 l0_0.length c0_0,.slice A0_1 l0_1.length c0_1,.slice A1 l1.length c1],.int .i64 0] rfl (by (try simp only [List.map_toArray,List.map_cons,List.map_nil]);first | done | rfl | (simp only [List.length_drop,List.length_take];rfl)) ?_;(refine (gs_cut.calls kj2 _ _ l0_0 _ _ l0_1 _ _ l1 0 t163 true _ ?side1 ?side2 ?side3 ?side4 ?side5 ?side6 A15.out).mono ?_);(case side1=>exact kC HR0_0.out HB.out);(case side2=>exact HC0_0.out);(case side3=>exact kC HR0_1.out HB.out);(case side4=>exact HC0_1.out);(case side5=>exact kC HR1.out HB.out);(case side6=>exact HC1.out);rintro e w18 ⟨v164,rfl,ho0,hb⟩;refine ⟨_,rfl,?_⟩;have HO165:=am (Kd.R_lower ho0 (below_size (HB.out)));replace BK160:=(kmv hb BK160);replace HB:=am (below_step (HB.out) hb);(try clear hb);(try clear hb2);(try clear hk);(try clear hi);(try clear ho0)))
     go_ret2
     exact ⟨_,by first | rfl | (simp [*]<;>rfl),by (with_reducible repeat (first | apply Kd.R_alloc | apply Kd.R_drewN | apply Kd.R_drew));exact HO165.out,HB.out⟩
    ·replace c16:=Bool.eq_false_iff.mpr c16
     subst c16
     replace H : (some (([] : List Int),5)) = some (r1,r2):=by rw [if_neg (show ¬ (false = true) by decide)] at H;exact H
     simp only [Option.some.injEq,Prod.mk.injEq] at H
     obtain ⟨rfl,rfl⟩:=H
     obtain ⟨hcz19_0,hcz19_1⟩:=cO2 BK160.out
     go_wp2_with (first | ((with_reducible refine ga_callee (f:=66) rfl ?_);refine goesL_ (some 21) rfl rfl Tryz.func66 (by kernel_rfl) rfl #[.agg #[.slice A0_0 l0_0.length c0_0,.slice A0_1 l0_1.length c0_1,.slice A1 l1.length c1],.int .i64 0] rfl (by (try simp only [List.map_toArray,List.map_cons,List.map_nil]);first | done | rfl | (simp only [List.length_drop,List.length_take];rfl)) ?_;(refine (gs_cut.calls kj2 _ _ l0_0 _ _ l0_1 _ _ l1 0 t163 false _ ?side1 ?side2 ?side3 ?side4 ?side5 ?side6 A15.out).mono ?_);(case side1=>exact kC HR0_0.out HB.out);(case side2=>exact HC0_0.out);(case side3=>exact kC HR0_1.out HB.out);(case side4=>exact HC0_1.out);(case side5=>exact kC HR1.out HB.out);(case side6=>exact HC1.out);rintro e w20 ⟨v164,rfl,ho0,hb⟩;refine ⟨_,rfl,?_⟩;have HO165:=am (Kd.R_lower ho0 (below_size (HB.out)));replace BK160:=(kmv hb BK160);replace HB:=am (below_step (HB.out) hb);(try clear hb);(try clear hb2);(try clear hk);(try clear hi);(try clear ho0)))
     go_ret2
     exact ⟨_,by first | rfl | (simp [*]<;>rfl),by first | exact Kd.R_nil _ _ _ _ _ | exact Kd.N_nil _ _ _ _ _ | exact Kd.V_nil _ _ _ _ _ | exact Kd.Q_nil _ _ _ _ _ | exact Kd.S_nil _ _ _ _ _,HB.out⟩
set_option linter.unusedSimpArgs false
set_option linter.unusedSimpArgs false
def q1_Same.l0 : Nat→List Int→List Int→Int→Option (Bool)
 | 0,_,_,_=>none
 | k + 1,x0,x1,x5=>if x5 < (x0.length : Int) then (if 0≤x5 then (if x5 < (x1.length : Int) then (if (rd x0 x5) = (rd x1 x5) then (q1_Same.l0 k x0 x1 (wrap64 (x5 + 1))) else (some false)) else (none)) else (none)) else (some true)
def q1_Same.f (k : Nat) (l0 : List Int) (l1 : List Int) : Option (Bool):=if (l0.length : Int) = (l1.length : Int) then (q1_Same.l0 k l0 l1 0) else (some false)
theorem q1_Same.calls (k : Nat) (A0 : Option Addr) (c0 : Nat) (l0 : List Int) (A1 : Option Addr) (c1 : Nat) (l1 : List Int) (r : Bool) (w : World) (hr0 : Kd.C (Kd.int .i64) w A0 l0.length l0) (hc0 : l0.length≤c0) (hr1 : Kd.C (Kd.int .i64) w A1 l1.length l1) (hc1 : l1.length≤c1) (h : q1_Same.f k l0 l1 = some r) :
 Calls Tryz.prog 69 #[.slice A0 l0.length c0,.slice A1 l1.length c1] w fun e w'=>e = .returned (.bool r)∧Drawn0 w w':=by
 have HR0:=am hr0
 have HC0:=am hc0
 clear hr0 hc0
 have HR1:=am hr1
 have HC1:=am hc1
 clear hr1 hc1
 have H : (if (l0.length : Int) = (l1.length : Int) then (q1_Same.l0 k l0 l1 0) else (some false)) = some r:=h
 clear h
 by_cases c3 : (l0.length : Int) = (l1.length : Int)
 case neg =>
  rw [if_neg c3] at H
  have c3b0 : ((l0.length : Int) == (l1.length : Int)) = false:=beq_eq_false_iff_ne.mpr c3
  have c3b1 : ((l0.length : Int) != (l1.length : Int)) = true:=bne_iff_ne.mpr c3
  have c3b2 : (l0.length == l1.length) = false:=by first | simpa using c3 | (simp at c3 ⊢;omega)
  obtain rfl:=Option.some.inj H
  go_enter Tryz.func69,Tryz.ntmps69
  go_wp2
  repeat (go_quiet (fail);try go_wp2)
  go_ret
  exact ⟨by first | rfl | (simp;done) | (simp [*];done),by repeat (first | exact Drawn0.refl _ | apply Drawn0.step)⟩
 rw [if_pos c3] at H
 have c3b0 : ((l0.length : Int) == (l1.length : Int)) = true:=beq_iff_eq.mpr c3
 have c3b1 : ((l0.length : Int) != (l1.length : Int)) = false:=bne_eq_false_iff_eq.mpr c3
 have c3b2 : (l0.length == l1.length) = true:=by first | simpa using c3 | (simp at c3 ⊢;omega)
 clear c3
 replace H':=am H
 go_enter Tryz.func69,Tryz.ntmps69
 go_wp2
 repeat (go_quiet (fail);try go_wp2)
 go_loopg [5] k (fun kq v5 w'=>∃ (x5_1 : Int),v5 = .int .i64 x5_1∧Aside0 (q1_Same.l0 kq l0 l1 x5_1 = some r)∧Aside0 (kq≤k)∧Drawn0 w w')
 case atStart=>exact ⟨(0),(by first | rfl | (simp;done) | (simp [*];done)),H',⟨Nat.le_refl _⟩,by repeat (first | exact Drawn0.refl _ | apply Drawn0.step)⟩
 case round =>
  clear H'
  obtain ⟨x5_1,rfl,HA,HK1,⟨m1,rfl⟩⟩:=hrel
  cases gk with
  | zero=>exact absurd HA.out (by simp [q1_Same.l0])
  | succ k1 =>
   have H:=HA.out
   clear HA
   simp only [q1_Same.l0] at H
   by_cases c4 : x5_1 < (l0.length : Int)
   case neg =>
    rw [if_neg c4] at H
    have c4b0 : decide (x5_1 < (l0.length : Int)) = false:=decide_eq_false c4
    clear c4
    obtain rfl:=Option.some.inj H
    go_wp2
    repeat (go_quiet (fail);try go_wp2)
    go_ret
    exact ⟨by first | rfl | (simp;done) | (simp [*];done),by repeat (first | exact Drawn0.refl _ | apply Drawn0.step)⟩
   rw [if_pos c4] at H
   have c4b0 : decide (x5_1 < (l0.length : Int)) = true:=decide_eq_true c4
   clear c4
   by_cases c5 : 0≤x5_1
   case neg =>
    rw [if_neg c5] at H
    exact absurd H (by simp)
   rw [if_pos c5] at H
   have c5b0 : decide (0≤x5_1) = true:=decide_eq_true c5
   clear c5
   by_cases c6 : x5_1 < (l1.length : Int)
   case neg =>
    rw [if_neg c6] at H
    exact absurd H (by simp)
   rw [if_pos c6] at H
   have c6b0 : decide (x5_1 < (l1.length : Int)) = true:=decide_eq_true c6
   clear c6
   by_cases c7 : (rd l0 x5_1) = (rd l1 x5_1)
   case neg =>
    rw [if_neg c7] at H
    have c7b0 : ((rd l0 x5_1) == (rd l1 x5_1)) = false:=beq_eq_false_iff_ne.mpr c7
    have c7b1 : ((rd l0 x5_1) != (rd l1 x5_1)) = true:=bne_iff_ne.mpr c7
    obtain rfl:=Option.some.inj H
    have p167 : 0≤(x5_1 : Int):=of_decide_eq_true (by assumption)
    have q167 : x5_1 < (l0.length : Int):=of_decide_eq_true (by assumption)
    obtain ⟨ad167,e167,hx167_0⟩:=Kd.at_int HR0.out x5_1 p167 q167
    cases e167
    replace p167:=eq_true p167
    replace q167:=eq_true q167
    have p168 : 0≤(x5_1 : Int):=of_decide_eq_true (by assumption)
    have q168 : x5_1 < (l1.length : Int):=of_decide_eq_true (by assumption)
    obtain ⟨ad168,e168,hx168_0⟩:=Kd.at_int HR1.out x5_1 p168 q168
    cases e168
    replace p168:=eq_true p168
    replace q168:=eq_true q168
    go_wp2
    repeat (go_quiet (fail);try go_wp2)
    go_ret
    exact ⟨by first | rfl | (simp;done) | (simp [*];done),by repeat (first | exact Drawn0.refl _ | apply Drawn0.step)⟩
   rw [if_pos c7] at H
   have c7b0 : ((rd l0 x5_1) == (rd l1 x5_1)) = true:=beq_iff_eq.mpr c7
   have c7b1 : ((rd l0 x5_1) != (rd l1 x5_1)) = false:=bne_eq_false_iff_eq.mpr c7
   clear c7
   replace H':=am H
   have p167 : 0≤(x5_1 : Int):=of_decide_eq_true (by assumption)
   have q167 : x5_1 < (l0.length : Int):=of_decide_eq_true (by assumption)
   obtain ⟨ad167,e167,hx167_0⟩:=Kd.at_int HR0.out x5_1 p167 q167
   cases e167
   replace p167:=eq_true p167
   replace q167:=eq_true q167
   have p168 : 0≤(x5_1 : Int):=of_decide_eq_true (by assumption)
   have q168 : x5_1 < (l1.length : Int):=of_decide_eq_true (by assumption)
   obtain ⟨ad168,e168,hx168_0⟩:=Kd.at_int HR1.out x5_1 p168 q168
   cases e168
   replace p168:=eq_true p168
   replace q168:=eq_true q168
   go_wp2
   repeat (go_quiet (fail);try go_wp2)
   go_roundg k1
   case measure=>have:=HK1.out;omega
   case rel=>exact ⟨(wrap64 (x5_1 + 1)),(by first | rfl | (simp;done) | (simp [*];done)),H',⟨by have:=HK1.out;omega⟩,by repeat (first | exact Drawn0.refl _ | apply Drawn0.step)⟩
def q8_Same.f (k : Nat) (l0 : List Int) (l1 : List Int) : Option (Bool):=(q1_Same.f k l0 l1).bind fun t169=>(some t169)
theorem q8_Same.calls (k : Nat) (A0 : Option Addr) (c0 : Nat) (l0 : List Int) (A1 : Option Addr) (c1 : Nat) (l1 : List Int) (r : Bool) (w : World) (hr0 : Kd.C (Kd.int .i64) w A0 l0.length l0) (hc0 : l0.length≤c0) (hr1 : Kd.C (Kd.int .i64) w A1 l1.length l1) (hc1 : l1.length≤c1) (h : q8_Same.f k l0 l1 = some r) :
 Calls Tryz.prog 25 #[.slice A0 l0.length c0,.slice A1 l1.length c1] w fun e w'=>e = .returned (.bool r)∧Drawn0 w w':=by
 have HR0:=am hr0
 have HC0:=am hc0
 clear hr0 hc0
 have HR1:=am hr1
 have HC1:=am hc1
 clear hr1 hc1
 have H : ((q1_Same.f k l0 l1).bind fun t169=>(some t169)) = some r:=h
 clear h
 replace H:=obm H
 obtain ⟨t169,A30,H⟩:=H
 replace H : (some t169) = some r:=H
 have A3:=am A30
 clear A30
 obtain rfl:=Option.some.inj H
 go_enter Tryz.func25,Tryz.ntmps25
 go_wp2_with (first | ((with_reducible refine ga_callee (f:=69) rfl ?_);refine goesL_ (some 7) rfl rfl Tryz.func69 (by kernel_rfl) rfl #[.slice A0 l0.length c0,.slice A1 l1.length c1] rfl (by (try simp only [List.map_toArray,List.map_cons,List.map_nil]);first | done | rfl | (simp only [List.length_drop,List.length_take];rfl)) ?_;(refine (q1_Same.calls k _ _ l0 _ _ l1 t169 _ ?side1 ?side2 ?side3 ?side4 A3.out).mono ?_);(case side1=>repeat (first | exact HR0.out | (with_reducible refine Kd.C_alloc ?_ _) | (with_reducible refine Kd.C_drewN ?_ _) | (with_reducible refine Kd.C_drew ?_)));(case side2=>exact HC0.out);(case side3=>repeat (first | exact HR1.out | (with_reducible refine Kd.C_alloc ?_ _) | (with_reducible refine Kd.C_drewN ?_ _) | (with_reducible refine Kd.C_drew ?_)));(case side4=>exact HC1.out);rintro e w' ⟨rfl,⟨nd,rfl⟩⟩;refine ⟨_,rfl,?_⟩))
 go_ret
 exact ⟨by first | rfl | (simp;done) | (simp [*];done),by repeat (first | exact Drawn0.refl _ | apply Drawn0.step)⟩
def q8_Surely.f (k : Nat) (l0_0 : List (S37)) (l0_1 : List (S65)) (l1 : List Int) : Option (Bool):=(q8_Cut.f k l0_0 l0_1 l1 false).bind fun bt436=>(some (!bt436.2))
theorem q8_Surely.calls (k : Nat) (A0_0 : Option Addr) (c0_0 : Nat) (l0_0 : List (S37)) (A0_1 : Option Addr) (c0_1 : Nat) (l0_1 : List (S65)) (A1 : Option Addr) (c1 : Nat) (l1 : List Int) (r : Bool) (w : World) (hr0_0 : Kd.C k37 w A0_0 l0_0.length l0_0) (hc0_0 : l0_0.length≤c0_0) (hr0_1 : Kd.C k65 w A0_1 l0_1.length l0_1) (hc0_1 : l0_1.length≤c0_1) (hr1 : Kd.C (Kd.int .i64) w A1 l1.length l1) (hc1 : l1.length≤c1) (h : q8_Surely.f k l0_0 l0_1 l1 = some r) :
 Calls Tryz.prog 31 #[.agg #[.slice A0_0 l0_0.length c0_0,.slice A0_1 l0_1.length c0_1],.slice A1 l1.length c1] w fun e w'=>e = .returned (.bool r)∧Below w.heap.size w w':=by
 have hu25:=Tryz.underlying25
 have HR0_0:=am hr0_0
 have HC0_0:=am hc0_0
 clear hr0_0 hc0_0
 have HR0_1:=am hr0_1
 have HC0_1:=am hc0_1
 clear hr0_1 hc0_1
 have HR1:=am hr1
 have HC1:=am hc1
 clear hr1 hc1
 have HB:=am (Below.refl w.heap.size w)
 have H : ((q8_Cut.f k l0_0 l0_1 l1 false).bind fun bt436=>(some (!bt436.2))) = some r:=h
 clear h
 replace H:=obm H
 obtain ⟨⟨t436,t439⟩,A30,H⟩:=H
 replace H : (some (!t439)) = some r:=H
 have A3:=am A30
 clear A30
 obtain rfl:=Option.some.inj H
 go_enter Tryz.func31,Tryz.ntmps31
 go_wp2_with (first | ((refine ga_dst (N:=2) rfl ?_);refine box_event rfl (N:=2) rfl (cs:=#[.slice A0_0 l0_0.length c0_0,.slice A0_1 l0_1.length c0_1]) (t:=25) ?hr ?_;(case hr=>go_simp;try rfl);intro gb435 hg w4 hbox hb;have BK435:=am (hbox);have GW435:=am (ge_new (HB.out) hg);have GE435:=am (ge_new (HB.out) hg);replace HB:=am (below_step (HB.out) hb);clear hb hbox hg;obtain ⟨hcz5_0,hcz5_1⟩:=cO2 BK435.out) | ((with_reducible refine ga_callee (f:=24) rfl ?_);refine goesL_ (some 10) rfl rfl Tryz.func24 (by kernel_rfl) rfl #[.agg #[.slice A0_0 l0_0.length c0_0,.slice A0_1 l0_1.length c0_1],.slice A1 l1.length c1,.bool false] rfl (by (try simp only [List.map_toArray,List.map_cons,List.map_nil]);first | done | rfl | (simp only [List.length_drop,List.length_take];rfl)) ?_;(refine (q8_Cut.calls k _ _ l0_0 _ _ l0_1 _ _ l1 false t436 t439 _ ?side1 ?side2 ?side3 ?side4 ?side5 ?side6 A3.out).mono ?_);(case side1=>exact kC HR0_0.out HB.out);(case side2=>exact HC0_0.out);(case side3=>exact kC HR0_1.out HB.out);(case side4=>exact HC0_1.out);(case side5=>exact kC HR1.out HB.out);(case side6=>exact HC1.out);rintro e w6 ⟨v437,rfl,ho0,hb⟩;refine ⟨_,rfl,?_⟩;have HO438:=am (Kd.V_lower (Kd.V_mono (ok':=fun k_=>k_ ≠ gb435) ho0 (fun k_ hk_=>(Kd.freshB (g:=gb435) (o:=.cells #[.slice A0_0 l0_0.length c0_0,.slice A0_1 l0_1.length c0_1] 25 (0,0)) BK435.out k_ hk_))) (below_size (HB.out)));replace BK435:=(kmv hb BK435);replace HB:=am (below_step (HB.out) hb);(try clear hb);(try clear hb2);(try clear hk);(try clear hi);(try clear ho0)))
 go_ret
 exact ⟨by first | rfl | (simp [*]<;>rfl),HB.out⟩
set_option linter.unusedSimpArgs false
end Go.Proofs.YtclkbedbocnpkaaGreatDoor.C
namespace Go.Proofs.YtclkbedbocnpkaaGreatDoor.C
open Go Go.RowKit Go.Proofs.YtclkbedbocnpkaaGreatDoorW.PrintWords Go.Proofs.YtclkbedbocnpkaaGreatDoorW.PrintLast Go.Proofs.YtclkbedbocnpkaaGreatDoorW.PrintMore
set_option linter.unusedVariables false
set_option linter.unusedSimpArgs false
set_option maxHeartbeats 16000000
set_option maxRecDepth 100000
section
variable {pts : List Pt} {ch : List Ch}
theorem same_go (a : List Int) (hl : a.length≤100000) : ∀ (d k i : Nat),i + d = a.length→d < k→q1_Same.l0 k a a (i : Int) = some true
 | _,0,_,_,hk=>by omega
 | 0,k + 1,i,hd,_=>by
  unfold q1_Same.l0
  rw [if_neg (by omega)]
 | d + 1,k + 1,i,hd,hk=>by
  have ih:=same_go a hl d k (i + 1) (by omega) (by omega)
  unfold q1_Same.l0
  rw [if_pos (by omega),if_pos (by omega),if_pos (by omega),if_pos rfl,wr (by omega) (by omega)]
  exact ih
theorem same_self {a : List Int} (hl : a.length≤100000) {k : Nat} (hk : a.length < k) : q1_Same.f k a a = some true:=by
 unfold q1_Same.f
 rw [if_pos rfl]
 exact same_go a hl a.length k 0 (by omega) hk
theorem same8_self {a : List Int} (hl : a.length≤100000) {k : Nat} (hk : a.length < k) : q8_Same.f k a a = some true:=by
 unfold q8_Same.f
 rw [same_self hl hk];rfl
theorem cutS_ok (h : netS pts ch = true) {op : List Int} {hi : Bool} {S : List Int} (hS : cutS pts ch op hi = some S) : okPts pts.length S:=by
 obtain ⟨h1,h2,h3,h4,_⟩:=netS_iff.1 h
 exact ok_shortest (by omega) (List.mem_of_find?_eq_some hS)
theorem rSurely_eq (h : netS pts ch = true) {op : List Int} (ho : op.length≤20) {k : Nat} (hk : 120000≤k) : q8_Surely.f k pts ch op = some (cutS pts ch op false).isNone:=by
 unfold q8_Surely.f
 rw [rCut_eq h ho false hk]
 cases cutS pts ch op false<;>rfl
def openS (pts : List Pt) (ch : List Ch) (op : List Int) : Bool:=netS pts ch && someS ch op
theorem gCut_eq (hp : pts.length≤1000) (hc : ch.length≤1000) {op : List Int} (ho : op.length≤20) {k : Nat} (hk : 1100≤k) :
 ga_Cut.f k pts ch op = some (if openS pts ch op = true then (match cutS pts ch op false with | some S=>(S,(0 : Int)) | none=>(([] : List Int),(5 : Int))) else (([] : List Int),(2 : Int))):=by
 obtain ⟨k,rfl⟩ : ∃ m,k = m + 1:=⟨k - 1,by omega⟩
 unfold ga_Cut.f openS
 rw [isNet_eq hp hc (by omega)]
 simp only [Option.bind_some]
 cases hn : netS pts ch with
 | false=>simp [ga_Cut.j0]
 | true =>
  rw [if_pos rfl,areGates_eq hc (by omega) (by omega)]
  simp only [Option.bind_some,ga_Cut.j0]
  cases hs : someS ch op with
  | false=>simp
  | true =>
   rw [if_neg (by simp),cut0_eq hn ho (by omega),if_pos (by simp)]
   cases cutS pts ch op false<;>rfl
theorem shortB_iff : shortB pts ch = true↔pts.length≤9∧ch.length≤13:=decide_eq_true_iff
end
end Go.Proofs.YtclkbedbocnpkaaGreatDoor.C
namespace Go.Proofs.YtclkbedbocnpkaaGreatDoor.C
open Go.RowKit Go.Proofs.YtclkbedbocnpkaaGreatDoorW.PrintWords Go.Proofs.YtclkbedbocnpkaaGreatDoorW.PrintLast Go.Proofs.YtclkbedbocnpkaaGreatDoorW.PrintMore
set_option linter.unusedVariables false
set_option linter.unusedSimpArgs false
set_option maxHeartbeats 16000000
set_option maxRecDepth 100000
def ga_moved.l0 : Nat→List Int→List Int→List Int→List Int→Int→Int→Option (List Int)
 | 0,_,_,_,_,_,_=>none
 | k + 1,x1,x2,x7,x11,x12,x13=>if x13 < x12 then (if 0≤x13 then (if x13 < (x11.length : Int) then ((sl_Contains_int_int.f k x1 (rd x11 x13)).bind fun t177=>((sl_Contains_int_int.f k x2 (rd x11 x13)).bind fun t178=>(if (t177 != t178) = true then (if x7.length < 17592186044416 then (ga_moved.l0 k x1 x2 (x7 ++ [rd x11 x13]) x11 x12 (wrap64 (x13 + 1))) else (none)) else (ga_moved.l0 k x1 x2 x7 x11 x12 (wrap64 (x13 + 1)))))) else (none)) else (none)) else (some x7)
def ga_moved.f (k : Nat) (l0_0 : List (S37)) (l0_1 : List (S65)) (l1 : List Int) (l2 : List Int) : Option (List Int):=(ga_gates.f k l0_0 l0_1).bind fun t173=>(ga_moved.l0 k l1 l2 ([] : List Int) t173 (t173.length : Int) 0)
theorem ga_moved.calls (k : Nat) (A0_0 : Option Addr) (c0_0 : Nat) (l0_0 : List (S37)) (A0_1 : Option Addr) (c0_1 : Nat) (l0_1 : List (S65)) (A1 : Option Addr) (c1 : Nat) (l1 : List Int) (A2 : Option Addr) (c2 : Nat) (l2 : List Int) (r : List Int) (w : World) (hr0_0 : Kd.C k37 w A0_0 l0_0.length l0_0) (hc0_0 : l0_0.length≤c0_0) (hr0_1 : Kd.C k65 w A0_1 l0_1.length l0_1) (hc0_1 : l0_1.length≤c0_1) (hr1 : Kd.C (Kd.int .i64) w A1 l1.length l1) (hc1 : l1.length≤c1) (hr2 : Kd.C (Kd.int .i64) w A2 l2.length l2) (hc2 : l2.length≤c2) (h : ga_moved.f k l0_0 l0_1 l1 l2 = some r) :
 Calls Tryz.prog 79 #[.agg #[.slice A0_0 l0_0.length c0_0,.slice A0_1 l0_1.length c0_1],.slice A1 l1.length c1,.slice A2 l2.length c2] w fun e w'=>∃ v0_ : Value,e = .returned (v0_)∧Kd.R (Kd.int .i64) 3 w' w.heap.size (fun _=>True) v0_ r∧Below w.heap.size w w':=by
 have hu25:=Tryz.underlying25
 have HR0_0:=am hr0_0
 have HC0_0:=am hc0_0
 clear hr0_0 hc0_0
 have HR0_1:=am hr0_1
 have HC0_1:=am hc0_1
 clear hr0_1 hc0_1
 have HR1:=am hr1
 have HC1:=am hc1
 clear hr1 hc1
 have HR2:=am hr2
 have HC2:=am hc2
 clear hr2 hc2
 have HB:=am (Below.refl w.heap.size w)
 have H : ((ga_gates.f k l0_0 l0_1).bind fun t173=>(ga_moved.l0 k l1 l2 ([] : List Int) t173 (t173.length : Int) 0)) = some r:=h
 clear h
 replace H:=obm H
 obtain ⟨t173,A40,H⟩:=H
 replace H : (ga_moved.l0 k l1 l2 ([] : List Int) t173 (t173.length : Int) 0) = some r:=H
 have A4:=am A40
 clear A40
 replace H':=am H
 go_enter Tryz.func79,Tryz.ntmps79
 go_wp2_with (first | ((with_reducible refine ga_dst (N:=3) rfl ?_);refine box_event ?hg (N:=3) ?hd (cs:=#[.slice A0_0 l0_0.length c0_0,.slice A0_1 l0_1.length c0_1]) (t:=25) ?hr ?_;(case hd=>rfl);(case hg=>rfl);(case hr=>go_simp;try rfl);intro gb172 hg w5 hbox hb;have BK172:=am (hbox);have GW172:=am (ge_new (HB.out) hg);have GE172:=am (ge_new (HB.out) hg);replace HB:=am (below_step (HB.out) hb);clear hb hbox hg;obtain ⟨hcz6_0,hcz6_1⟩:=cO2 BK172.out;have hfz6_0:=blk_frozen BK172.out 0;have hfz6_1:=blk_frozen BK172.out 1) | ((with_reducible refine ga_callee (f:=76) rfl ?_);refine goesL_ (some 11) rfl rfl Tryz.func76 (by kernel_rfl) rfl #[.agg #[.slice A0_0 l0_0.length c0_0,.slice A0_1 l0_1.length c0_1]] rfl (by (try simp only [List.map_toArray,List.map_cons,List.map_nil]);first | done | rfl | (simp only [List.length_drop,List.length_take];rfl)) ?_;(with_reducible refine (ga_gates.calls k _ _ l0_0 _ _ l0_1 t173 _ ?side1 ?side2 ?side3 ?side4 A4.out).mono ?_);(case side1=>exact kC HR0_0.out HB.out);(case side2=>exact HC0_0.out);(case side3=>exact kC HR0_1.out HB.out);(case side4=>exact HC0_1.out);rintro e w7 ⟨v174,rfl,ho0,hb⟩;refine ⟨_,rfl,?_⟩;have HO175:=am (Kd.R_lower ho0 (below_size (HB.out)));replace BK172:=am (blk_below (g:=gb172) (o:=.cells #[.slice A0_0 l0_0.length c0_0,.slice A0_1 l0_1.length c0_1] 25 (0,0)) (by (with_reducible repeat (first | refine blk_drewN ?_ _ | refine blk_drew ?_ | refine blk_alloc ?_ _));exact BK172.out) hb);replace HB:=am (below_step (HB.out) hb);(try clear hb);(try clear hb2);(try clear hk);(try clear hi);(try clear ho0);obtain ⟨Ao8,co8,eo8⟩:=Kd.R_slice HO175.out;subst eo8))
 go_loopg [7,13] k (fun kq v7 v13 w'=>∃ (x7_1 : List Int) (x13_1 : Int),v13 = .int .i64 x13_1∧Aside0 (ga_moved.l0 kq l1 l2 x7_1 t173 (t173.length : Int) x13_1 = some r)∧Aside0 (kq≤k)∧Aside0 (Kd.R (Kd.int .i64) 3 w' w.heap.size (fun k_=>some k_ ≠ ((.slice Ao8 t173.length co8) : Value).ownBlock) v7 x7_1)∧Aside0 (Kd.R (Kd.int .i64) 3 w' w.heap.size (fun k_=>some k_ ≠ (v7 : Value).ownBlock) (.slice Ao8 t173.length co8) t173)∧Aside0 (w'.heap[gb172]? = some (.cells #[(.slice A0_0 l0_0.length c0_0),(.slice A0_1 l0_1.length c0_1)] 25 (0,0)))∧Aside0 (Below w.heap.size w w'))
 case atStart=>exact ⟨(([] : List Int)),(0),(by first | rfl | (simp;done) | (simp [*];done)),H',⟨Nat.le_refl _⟩,⟨by first | exact Kd.R_nil _ _ _ _ _ | exact Kd.N_nil _ _ _ _ _ | exact Kd.V_nil _ _ _ _ _ | exact Kd.Q_nil _ _ _ _ _ | exact Kd.S_nil _ _ _ _ _⟩,⟨by (with_reducible repeat (first | apply Kd.R_alloc | apply Kd.R_drewN | apply Kd.R_drew));exact Kd.R_mono HO175.out (fun _ hk=>(by simp [Value.ownBlock]))⟩,⟨by (with_reducible repeat (first | refine blk_drewN ?_ _ | refine blk_drew ?_ | refine blk_alloc ?_ _));exact BK172.out⟩,⟨HB.out⟩⟩
 case round =>
  clear H'
  obtain ⟨x7_1,x13_1,rfl,HA,HK1,HO_7,HO_11,BK172,HB⟩:=hrel
  cases gk with
  | zero=>exact absurd HA.out (by simp [ga_moved.l0])
  | succ k1 =>
   have H:=HA.out
   clear HA
   simp only [ga_moved.l0] at H
   by_cases c9 : x13_1 < (t173.length : Int)
   case neg =>
    rw [if_neg c9] at H
    have c9b0 : decide (x13_1 < (t173.length : Int)) = false:=decide_eq_false c9
    clear c9
    obtain rfl:=Option.some.inj H
    go_wp2
    go_ret
    exact ⟨_,by first | rfl | (simp [*]<;>rfl),by (with_reducible repeat (first | apply Kd.R_alloc | apply Kd.R_drewN | apply Kd.R_drew));exact Kd.R_mono HO_7.out (fun _ hk=>trivial),HB.out⟩
   rw [if_pos c9] at H
   have c9b0 : decide (x13_1 < (t173.length : Int)) = true:=decide_eq_true c9
   clear c9
   by_cases c10 : 0≤x13_1
   case neg =>
    rw [if_neg c10] at H
    exact absurd H (by simp)
   rw [if_pos c10] at H
   have c10b0 : decide (0≤x13_1) = true:=decide_eq_true c10
   clear c10
   by_cases c11 : x13_1 < (t173.length : Int)
   case neg =>
    rw [if_neg c11] at H
    exact absurd H (by simp)
   rw [if_pos c11] at H
   have c11b0 : decide (x13_1 < (t173.length : Int)) = true:=decide_eq_true c11
   clear c11
   replace H:=obm H
   obtain ⟨t177,A120,H⟩:=H
   replace H : ((sl_Contains_int_int.f k1 l2 (rd t173 x13_1)).bind fun t178=>(if (t177 != t178) = true then (if x7_1.length < 17592186044416 then (ga_moved.l0 k1 l1 l2 (x7_1 ++ [rd t173 x13_1]) t173 (t173.length : Int) (wrap64 (x13_1 + 1))) else (none)) else (ga_moved.l0 k1 l1 l2 x7_1 t173 (t173.length : Int) (wrap64 (x13_1 + 1))))) = some r:=H
   have A12:=am A120
   clear A120
   replace H:=obm H
   obtain ⟨t178,A130,H⟩:=H
   replace H : (if (t177 != t178) = true then (if x7_1.length < 17592186044416 then (ga_moved.l0 k1 l1 l2 (x7_1 ++ [rd t173 x13_1]) t173 (t173.length : Int) (wrap64 (x13_1 + 1))) else (none)) else (ga_moved.l0 k1 l1 l2 x7_1 t173 (t173.length : Int) (wrap64 (x13_1 + 1)))) = some r:=H
   have A13:=am A130
   clear A130
   by_cases c14 : (t177 != t178) = true
   case neg =>
    rw [if_neg c14] at H
    have c14b0 : (t177 != t178) = false:=by simpa using c14
    (try (have c14b1 : decide (t177 = t178) = true:=by simpa using c14))
    (try (have c14b2 : (t177 == t178) = true:=by simpa using c14))
    clear c14
    replace H':=am H
    have p176 : 0≤(x13_1 : Int):=of_decide_eq_true (by assumption)
    have q176 : x13_1 < (t173.length : Int):=of_decide_eq_true (by assumption)
    obtain ⟨ad176,e176,hx176_0⟩:=Kd.at_int (Kd.R_reads' HO_11.out).2.2 x13_1 p176 q176
    cases e176
    replace p176:=eq_true p176
    replace q176:=eq_true q176
    go_wp2_with (first | ((with_reducible refine ga_callee (f:=81) rfl ?_);refine goesL_ (some 19) rfl rfl Tryz.func81 (by kernel_rfl) rfl #[.slice A1 l1.length c1,.int .i64 (rd t173 x13_1)] rfl (by (try simp only [List.map_toArray,List.map_cons,List.map_nil]);first | done | rfl | (simp only [List.length_drop,List.length_take];rfl)) ?_;(with_reducible refine (sl_Contains_int_int.calls k1 _ _ l1 (rd t173 x13_1) t177 _ ?side1 ?side2 A12.out).mono ?_);(case side1=>exact kC HR1.out HB.out);(case side2=>exact HC1.out);rintro e w' ⟨rfl,⟨nd,rfl⟩⟩;refine ⟨_,rfl,?_⟩) | ((with_reducible refine ga_callee (f:=81) rfl ?_);refine goesL_ (some 22) rfl rfl Tryz.func81 (by kernel_rfl) rfl #[.slice A2 l2.length c2,.int .i64 (rd t173 x13_1)] rfl (by (try simp only [List.map_toArray,List.map_cons,List.map_nil]);first | done | rfl | (simp only [List.length_drop,List.length_take];rfl)) ?_;(with_reducible refine (sl_Contains_int_int.calls k1 _ _ l2 (rd t173 x13_1) t178 _ ?side1 ?side2 A13.out).mono ?_);(case side1=>repeat (first | exact (kC HR2.out (pw_below_drewN HB.out _)) | (with_reducible refine Kd.C_alloc ?_ _) | (with_reducible refine Kd.C_drewN ?_ _) | (with_reducible refine Kd.C_drew ?_)));(case side2=>exact HC2.out);rintro e w' ⟨rfl,⟨nd,rfl⟩⟩;refine ⟨_,rfl,?_⟩))
    go_roundg k1
    case measure=>have:=HK1.out;omega
    case rel=>exact ⟨(x7_1),(wrap64 (x13_1 + 1)),(by first | rfl | (simp;done) | (simp [*];done)),H',⟨by have:=HK1.out;omega⟩,⟨by (with_reducible repeat (first | apply Kd.R_alloc | apply Kd.R_drewN | apply Kd.R_drew));exact HO_7.out⟩,⟨by (with_reducible repeat (first | apply Kd.R_alloc | apply Kd.R_drewN | apply Kd.R_drew));exact HO_11.out⟩,⟨by (with_reducible repeat (first | refine blk_drewN ?_ _ | refine blk_drew ?_ | refine blk_alloc ?_ _));exact BK172.out⟩,⟨pw_below_drewN HB.out _⟩⟩
   rw [if_pos c14] at H
   have c14b0 : (t177 != t178) = true:=c14
   (try (have c14b1 : decide (t177 = t178) = false:=by simpa using c14))
   (try (have c14b2 : (t177 == t178) = false:=by simpa using c14))
   (try (have c14b3 : ¬ (t177 = t178):=by simpa using c14))
   clear c14
   by_cases c15 : x7_1.length < 17592186044416
   case neg =>
    rw [if_neg c15] at H
    exact absurd H (by simp)
   rw [if_pos c15] at H
   have LMc15:=am c15
   clear c15
   obtain ⟨y179,hy179⟩ : ∃ y_ : List Int,y_ = (x7_1 ++ [rd t173 x13_1]):=⟨_,rfl⟩
   replace H : (ga_moved.l0 k1 l1 l2 y179 t173 (t173.length : Int) (wrap64 (x13_1 + 1))) = some r:=by first | (rw [hy179];with_reducible exact H) | (have H2_:=(Option.bind_some _ _).symm.trans H;rw [hy179];with_reducible exact H2_) | (have H2_:=(Option.bind_some _ _).symm.trans H;with_reducible exact H2_) | with_reducible exact H | (rw [hy179];exact H) | exact H
   have Ny179:=am hy179
   clear hy179
   replace H':=am H
   have p176 : 0≤(x13_1 : Int):=of_decide_eq_true (by assumption)
   have q176 : x13_1 < (t173.length : Int):=of_decide_eq_true (by assumption)
   obtain ⟨ad176,e176,hx176_0⟩:=Kd.at_int (Kd.R_reads' HO_11.out).2.2 x13_1 p176 q176
   cases e176
   replace p176:=eq_true p176
   replace q176:=eq_true q176
   go_wp2_with (first | ((with_reducible refine ga_callee (f:=81) rfl ?_);refine goesL_ (some 19) rfl rfl Tryz.func81 (by kernel_rfl) rfl #[.slice A1 l1.length c1,.int .i64 (rd t173 x13_1)] rfl (by (try simp only [List.map_toArray,List.map_cons,List.map_nil]);first | done | rfl | (simp only [List.length_drop,List.length_take];rfl)) ?_;(with_reducible refine (sl_Contains_int_int.calls k1 _ _ l1 (rd t173 x13_1) t177 _ ?side1 ?side2 A12.out).mono ?_);(case side1=>exact kC HR1.out HB.out);(case side2=>exact HC1.out);rintro e w' ⟨rfl,⟨nd,rfl⟩⟩;refine ⟨_,rfl,?_⟩) | ((with_reducible refine ga_callee (f:=81) rfl ?_);refine goesL_ (some 22) rfl rfl Tryz.func81 (by kernel_rfl) rfl #[.slice A2 l2.length c2,.int .i64 (rd t173 x13_1)] rfl (by (try simp only [List.map_toArray,List.map_cons,List.map_nil]);first | done | rfl | (simp only [List.length_drop,List.length_take];rfl)) ?_;(with_reducible refine (sl_Contains_int_int.calls k1 _ _ l2 (rd t173 x13_1) t178 _ ?side1 ?side2 A13.out).mono ?_);(case side1=>repeat (first | exact (kC HR2.out (pw_below_drewN HB.out _)) | (with_reducible refine Kd.C_alloc ?_ _) | (with_reducible refine Kd.C_drewN ?_ _) | (with_reducible refine Kd.C_drew ?_)));(case side2=>exact HC2.out);rintro e w' ⟨rfl,⟨nd,rfl⟩⟩;refine ⟨_,rfl,?_⟩) | ((with_reducible refine ga_builtin (b:=.append) (xs:=#[.tmp 24,.tmp 26]) rfl ?_);at_builtin;refine Kd.R_append (Kd.int .i64) (w0:=w) w.heap.size rfl (.tmp 24) (.tmp 26) 26 3 (.int .i64 0) 8 rfl Tryz.underlying26 info3 rfl (by decide) (by omega) u7 x7_1 (rd t173 x13_1) [.int .i64 (rd t173 x13_1)] (fun k_=>some k_ ≠ (.slice (some ad176) t173.length co8 : Value).ownBlock) (fun _=>False) rfl rfl ?aP (fun _ hk=>hk.elim) ?aF ?aO ?aB ?aS ?aL ?_;(case aP=>exact rfl);(case aB=>exact (pw_below_drewN HB.out _));(case aF=>exact (fun k_ hk=>Kd.fresh' (Kd.R_lt (by (with_reducible repeat (first | apply Kd.R_alloc | apply Kd.R_drewN | apply Kd.R_drew));exact HO_11.out)) k_ hk));(case aO=>exact (by (with_reducible repeat (first | apply Kd.R_alloc | apply Kd.R_drewN | apply Kd.R_drew));exact HO_7.out));(case aS=>exact (below_size (pw_below_drewN HB.out _)));(case aL=>have:=LMc15.out;omega);intro v180 w16 ho hb hg hat;rw [← Ny179.out] at ho;have n0_:=am (Kd.R_after (ok:=(fun _=>True)) (by (with_reducible repeat (first | apply Kd.R_alloc | apply Kd.R_drewN | apply Kd.R_drew));exact Kd.R_mono HO_11.out (fun _ hk=>⟨trivial,hk⟩)) hg hat);have n1_:=am (blk_grown (g:=gb172) (o:=.cells #[.slice A0_0 l0_0.length c0_0,.slice A0_1 l0_1.length c0_1] 25 (0,0)) (by (with_reducible repeat (first | refine blk_drewN ?_ _ | refine blk_drew ?_ | refine blk_alloc ?_ _));exact BK172.out) hg (Kd.R_ne HO_7.out BK172.out (by decide)));have n2_:=am (hb);have n3_:=am (ho);clear HO_11;clear BK172;clear HB;clear HO_7;have HO_11:=n0_;have BK172:=n1_;have HB:=n2_;have HO181:=n3_;clear n0_ n1_ n2_ n3_;clear ho hb hg hat))
   go_roundg k1
   case measure=>have:=HK1.out;omega
   case rel=>exact ⟨(y179),(wrap64 (x13_1 + 1)),(by first | rfl | (simp;done) | (simp [*];done)),H',⟨by have:=HK1.out;omega⟩,⟨by (with_reducible repeat (first | apply Kd.R_alloc | apply Kd.R_drewN | apply Kd.R_drew));exact HO181.out⟩,⟨by (with_reducible repeat (first | apply Kd.R_alloc | apply Kd.R_drewN | apply Kd.R_drew));exact Kd.R_mono HO_11.out (fun _ hk=>hk.2)⟩,⟨by (with_reducible repeat (first | refine blk_drewN ?_ _ | refine blk_drew ?_ | refine blk_alloc ?_ _));exact BK172.out⟩,⟨HB.out⟩⟩
def ga_rest.f (k : Nat) (l0_0 : List (S37)) (l0_1 : List (S65)) (l1 : List Int) : Option (List Int):=(ga_gates.f k l0_0 l0_1).bind fun t183=>((ga_moved.f k l0_0 l0_1 t183 l1).bind fun t186=>(some t186))
theorem ga_rest.calls (k : Nat) (A0_0 : Option Addr) (c0_0 : Nat) (l0_0 : List (S37)) (A0_1 : Option Addr) (c0_1 : Nat) (l0_1 : List (S65)) (A1 : Option Addr) (c1 : Nat) (l1 : List Int) (r : List Int) (w : World) (hr0_0 : Kd.C k37 w A0_0 l0_0.length l0_0) (hc0_0 : l0_0.length≤c0_0) (hr0_1 : Kd.C k65 w A0_1 l0_1.length l0_1) (hc0_1 : l0_1.length≤c0_1) (hr1 : Kd.C (Kd.int .i64) w A1 l1.length l1) (hc1 : l1.length≤c1) (h : ga_rest.f k l0_0 l0_1 l1 = some r) :
 Calls Tryz.prog 84 #[.agg #[.slice A0_0 l0_0.length c0_0,.slice A0_1 l0_1.length c0_1],.slice A1 l1.length c1] w fun e w'=>∃ v0_ : Value,e = .returned (v0_)∧Kd.R (Kd.int .i64) 3 w' w.heap.size (fun _=>True) v0_ r∧Below w.heap.size w w':=by
 have hu25:=Tryz.underlying25
 have HR0_0:=am hr0_0
 have HC0_0:=am hc0_0
 clear hr0_0 hc0_0
 have HR0_1:=am hr0_1
 have HC0_1:=am hc0_1
 clear hr0_1 hc0_1
 have HR1:=am hr1
 have HC1:=am hc1
 clear hr1 hc1
 have HB:=am (Below.refl w.heap.size w)
 have H : ((ga_gates.f k l0_0 l0_1).bind fun t183=>((ga_moved.f k l0_0 l0_1 t183 l1).bind fun t186=>(some t186))) = some r:=h
 clear h
 replace H:=obm H
 obtain ⟨t183,A30,H⟩:=H
 replace H : ((ga_moved.f k l0_0 l0_1 t183 l1).bind fun t186=>(some t186)) = some r:=H
 have A3:=am A30
 clear A30
 replace H:=obm H
 obtain ⟨t186,A40,H⟩:=H
 replace H : (some t186) = some r:=H
 have A4:=am A40
 clear A40
 obtain rfl:=Option.some.inj H
 go_enter Tryz.func84,Tryz.ntmps84
 try go_wp2_with (first | ((refine ga_dst (N:=2) rfl ?_);refine box_event rfl (N:=2) rfl (cs:=#[.slice A0_0 l0_0.length c0_0,.slice A0_1 l0_1.length c0_1]) (t:=25) ?hr ?_;(case hr=>go_simp;try rfl);intro gb182 hg w5 hbox hb;have BK182:=am (hbox);have GW182:=am (ge_new (HB.out) hg);have GE182:=am (ge_new (HB.out) hg);replace HB:=am (below_step (HB.out) hb);clear hb hbox hg))
 replace BK182:=am (blk_drew BK182.out)
 replace HB:=am (below_drew1 HB.out)
 refine start_ (n:=6) (S:=fun w'=>w'.cell? ⟨gb182,0,none⟩ = some (.slice A0_0 l0_0.length c0_0)∧w'.cell? ⟨gb182,1,none⟩ = some (.slice A0_1 l0_1.length c0_1)) (ds:=[]) (ba 6 0) (by kernel_rfl) rfl rfl ⟨(blk_cell BK182.out 0).trans rfl,(blk_cell BK182.out 1).trans rfl⟩ (fun hHeld=>?_)
 generalize w5.drew = w6 at BK182 HB hHeld ⊢
 refine pure_ (i:=3) (N:=some 8) (v:=?_) (a':=?_) (ba 6 8) rfl rfl (by kernel_rfl) (fun _ _ _ h=>h) (Or.inl ⟨by rfl,?_⟩) ?_ ?_
 rotate_left
 ·intro w'
  go_simp
  with_reducible rfl
 rotate_left
 ·simp only [Act.put,NRM]
  rfl
 refine take_ (i:=0) (N:=some 5) (v:=?_) (a':=?_) (ba 6 9) rfl rfl (by kernel_rfl) (fun _ _ _ h=>h) (Or.inl ⟨by rfl,?_⟩) hHeld ?_ ?_
 rotate_left
 ·rintro w' ⟨s0,s1⟩
  go_simp
  with_reducible rfl
 rotate_left
 ·simp only [Act.put,NRM]
  rfl
 refine take_ (i:=1) (N:=some 6) (v:=?_) (a':=?_) (ba 6 11) rfl rfl (by kernel_rfl) (fun _ _ _ h=>h) (Or.inl ⟨by rfl,?_⟩) hHeld ?_ ?_
 rotate_left
 ·rintro w' ⟨s0,s1⟩
  go_simp
  with_reducible rfl
 rotate_left
 ·simp only [Act.put,NRM]
  rfl
 refine one_ (i:=2) (N:=some 7) (ba 6 15) rfl rfl (by kernel_rfl) (by decide) (fun K hK=>?_)
 refine goes_ Tryz.func76 (by kernel_rfl) rfl #[.agg #[.slice A0_0 l0_0.length c0_0,.slice A0_1 l0_1.length c0_1]] (by rfl) rfl rfl (by (try simp only [List.map_toArray,List.map_cons,List.map_nil]);first | done | rfl | (simp only [List.length_drop,List.length_take];rfl)) ?_
 with_reducible refine (ga_gates.calls k _ _ l0_0 _ _ l0_1 t183 _ ?side1 ?side2 ?side3 ?side4 A3.out).mono ?_
 (case side1=>exact kC HR0_0.out HB.out)
 (case side2=>exact HC0_0.out)
 (case side3=>exact kC HR0_1.out HB.out)
 (case side4=>exact HC0_1.out)
 rintro e w7 ⟨v184,rfl,ho0,hb⟩
 refine ⟨_,rfl,?_⟩
 have HO185:=am (Kd.R_lower ho0 (below_size (HB.out)))
 replace BK182:=(kmv hb BK182)
 replace HB:=am (below_step (HB.out) hb)
 (try clear hb)
 (try clear hb2)
 (try clear hk)
 (try clear hi)
 (try clear ho0)
 obtain ⟨Ao8,co8,eo8⟩:=Kd.R_slice HO185.out
 (first | subst eo8 | (injection eo8 with f1_ f2_ f3_;have f4_:=f1_.symm;have f5_:=f3_.symm;clear f1_ f2_ f3_;subst f4_;subst f5_))
 refine hK.out _ _ ⟨(blk_cell BK182.out 0).trans rfl,(blk_cell BK182.out 1).trans rfl⟩ (fun hHeld=>?_)
 clear hK K
 refine norm_ (a':=?_) ?_ ?_
 rotate_left
 ·show Act.put _ (some 7) _ = _
  simp only [Act.put,NRM]
  rfl
 refine one_ (i:=4) (N:=some 9) (ba 6 31) rfl rfl (by kernel_rfl) (by decide) (fun K hK=>?_)
 refine goes_ Tryz.func79 (by kernel_rfl) rfl #[.agg #[.slice A0_0 l0_0.length c0_0,.slice A0_1 l0_1.length c0_1],.slice Ao8 t183.length co8,.slice A1 l1.length c1] (by rfl) rfl rfl (by (try simp only [List.map_toArray,List.map_cons,List.map_nil]);first | done | rfl | (simp only [List.length_drop,List.length_take];rfl)) ?_
 with_reducible refine (ga_moved.calls k _ _ l0_0 _ _ l0_1 _ _ t183 _ _ l1 t186 _ ?side1 ?side2 ?side3 ?side4 ?side5 ?side6 ?side7 ?side8 A4.out).mono ?_
 (case side1=>exact kC HR0_0.out HB.out)
 (case side2=>exact HC0_0.out)
 (case side3=>exact kC HR0_1.out HB.out)
 (case side4=>exact HC0_1.out)
 (case side5=>repeat (first | exact (Kd.R_reads' HO185.out).2.2 | (with_reducible refine Kd.C_alloc ?_ _) | (with_reducible refine Kd.C_drewN ?_ _) | (with_reducible refine Kd.C_drew ?_)))
 (case side6=>exact (Kd.R_reads' HO185.out).2.1)
 (case side7=>exact kC HR1.out HB.out)
 (case side8=>exact HC1.out)
 rintro e w9 ⟨v187,rfl,ho0,hb⟩
 refine ⟨_,rfl,?_⟩
 have HO188:=am (Kd.R_lower (Kd.R_new' ho0 (Kd.R_lt HO185.out)) (below_size (HB.out)))
 replace HO185:=am (Kd.R_elder' HO185.out (Kd.R_base ho0) hb)
 replace BK182:=(kmv hb BK182)
 replace HB:=am (below_step (HB.out) hb)
 (try clear hb)
 (try clear hb2)
 (try clear hk)
 (try clear hi)
 (try clear ho0)
 refine hK.out _ _ ⟨(blk_cell BK182.out 0).trans rfl,(blk_cell BK182.out 1).trans rfl⟩ (fun hHeld=>?_)
 clear hK K
 refine norm_ (a':=?_) ?_ ?_
 rotate_left
 ·show Act.put _ (some 9) _ = _
  simp only [Act.put,NRM]
  rfl
 refine pure_ (i:=5) (N:=some 4) (v:=?_) (a':=?_) (ba 6 63) rfl rfl (by kernel_rfl) (fun _ _ _ h=>h) (Or.inl ⟨by rfl,?_⟩) ?_ ?_
 rotate_left
 ·intro w'
  go_simp
  with_reducible rfl
 rotate_left
 ·simp only [Act.put,NRM]
  rfl
 refine done_ (by kernel_rfl) ?_
 try go_wp2
 go_ret
 exact ⟨_,by first | rfl | (simp [*]<;>rfl),by (with_reducible repeat (first | apply Kd.R_alloc | apply Kd.R_drewN | apply Kd.R_drew));exact Kd.R_mono HO188.out (fun _ hk=>trivial),HB.out⟩
def ga_can.f (k : Nat) (l0_0 : List (S37)) (l0_1 : List (S65)) (l1 : List Int) : Option (Bool):=(ga_rest.f k l0_0 l0_1 l1).bind fun t200=>((ga_surely.f k l0_0 l0_1 t200).bind fun t203=>(some t203))
theorem ga_can.calls (k : Nat) (A0_0 : Option Addr) (c0_0 : Nat) (l0_0 : List (S37)) (A0_1 : Option Addr) (c0_1 : Nat) (l0_1 : List (S65)) (A1 : Option Addr) (c1 : Nat) (l1 : List Int) (r : Bool) (w : World) (hr0_0 : Kd.C k37 w A0_0 l0_0.length l0_0) (hc0_0 : l0_0.length≤c0_0) (hr0_1 : Kd.C k65 w A0_1 l0_1.length l0_1) (hc0_1 : l0_1.length≤c0_1) (hr1 : Kd.C (Kd.int .i64) w A1 l1.length l1) (hc1 : l1.length≤c1) (h : ga_can.f k l0_0 l0_1 l1 = some r) :
 Calls Tryz.prog 85 #[.agg #[.slice A0_0 l0_0.length c0_0,.slice A0_1 l0_1.length c0_1],.slice A1 l1.length c1] w fun e w'=>e = .returned (.bool r)∧Below w.heap.size w w':=by
 have hu25:=Tryz.underlying25
 have HR0_0:=am hr0_0
 have HC0_0:=am hc0_0
 clear hr0_0 hc0_0
 have HR0_1:=am hr0_1
 have HC0_1:=am hc0_1
 clear hr0_1 hc0_1
 have HR1:=am hr1
 have HC1:=am hc1
 clear hr1 hc1
 have HB:=am (Below.refl w.heap.size w)
 have H : ((ga_rest.f k l0_0 l0_1 l1).bind fun t200=>((ga_surely.f k l0_0 l0_1 t200).bind fun t203=>(some t203))) = some r:=h
 clear h
 replace H:=obm H
 obtain ⟨t200,A30,H⟩:=H
 replace H : ((ga_surely.f k l0_0 l0_1 t200).bind fun t203=>(some t203)) = some r:=H
 have A3:=am A30
 clear A30
 replace H:=obm H
 obtain ⟨t203,A40,H⟩:=H
 replace H : (some t203) = some r:=H
 have A4:=am A40
 clear A40
 obtain rfl:=Option.some.inj H
 go_enter Tryz.func85,Tryz.ntmps85
 try go_wp2_with (first | ((refine ga_dst (N:=2) rfl ?_);refine box_event rfl (N:=2) rfl (cs:=#[.slice A0_0 l0_0.length c0_0,.slice A0_1 l0_1.length c0_1]) (t:=25) ?hr ?_;(case hr=>go_simp;try rfl);intro gb199 hg w5 hbox hb;have BK199:=am (hbox);have GW199:=am (ge_new (HB.out) hg);have GE199:=am (ge_new (HB.out) hg);replace HB:=am (below_step (HB.out) hb);clear hb hbox hg))
 replace BK199:=am (blk_drew BK199.out)
 replace HB:=am (below_drew1 HB.out)
 refine start_ (n:=6) (S:=fun w'=>w'.cell? ⟨gb199,0,none⟩ = some (.slice A0_0 l0_0.length c0_0)∧w'.cell? ⟨gb199,1,none⟩ = some (.slice A0_1 l0_1.length c0_1)) (ds:=[]) (ba 6 0) (by kernel_rfl) rfl rfl ⟨(blk_cell BK199.out 0).trans rfl,(blk_cell BK199.out 1).trans rfl⟩ (fun hHeld=>?_)
 generalize w5.drew = w6 at BK199 HB hHeld ⊢
 refine pure_ (i:=2) (N:=some 7) (v:=?_) (a':=?_) (ba 6 4) rfl rfl (by kernel_rfl) (fun _ _ _ h=>h) (Or.inl ⟨by rfl,?_⟩) ?_ ?_
 rotate_left
 ·intro w'
  go_simp
  with_reducible rfl
 rotate_left
 ·simp only [Act.put,NRM]
  rfl
 refine take_ (i:=0) (N:=some 5) (v:=?_) (a':=?_) (ba 6 5) rfl rfl (by kernel_rfl) (fun _ _ _ h=>h) (Or.inl ⟨by rfl,?_⟩) hHeld ?_ ?_
 rotate_left
 ·rintro w' ⟨s0,s1⟩
  go_simp
  with_reducible rfl
 rotate_left
 ·simp only [Act.put,NRM]
  rfl
 refine take_ (i:=1) (N:=some 6) (v:=?_) (a':=?_) (ba 6 7) rfl rfl (by kernel_rfl) (fun _ _ _ h=>h) (Or.inl ⟨by rfl,?_⟩) hHeld ?_ ?_
 rotate_left
 ·rintro w' ⟨s0,s1⟩
  go_simp
  with_reducible rfl
 rotate_left
 ·simp only [Act.put,NRM]
  rfl
 refine one_ (i:=3) (N:=some 8) (ba 6 15) rfl rfl (by kernel_rfl) (by decide) (fun K hK=>?_)
 refine goes_ Tryz.func84 (by kernel_rfl) rfl #[.agg #[.slice A0_0 l0_0.length c0_0,.slice A0_1 l0_1.length c0_1],.slice A1 l1.length c1] (by rfl) rfl rfl (by (try simp only [List.map_toArray,List.map_cons,List.map_nil]);first | done | rfl | (simp only [List.length_drop,List.length_take];rfl)) ?_
 with_reducible refine (ga_rest.calls k _ _ l0_0 _ _ l0_1 _ _ l1 t200 _ ?side1 ?side2 ?side3 ?side4 ?side5 ?side6 A3.out).mono ?_
 (case side1=>exact kC HR0_0.out HB.out)
 (case side2=>exact HC0_0.out)
 (case side3=>exact kC HR0_1.out HB.out)
 (case side4=>exact HC0_1.out)
 (case side5=>exact kC HR1.out HB.out)
 (case side6=>exact HC1.out)
 rintro e w7 ⟨v201,rfl,ho0,hb⟩
 refine ⟨_,rfl,?_⟩
 have HO202:=am (Kd.R_lower ho0 (below_size (HB.out)))
 replace BK199:=(kmv hb BK199)
 replace HB:=am (below_step (HB.out) hb)
 (try clear hb)
 (try clear hb2)
 (try clear hk)
 (try clear hi)
 (try clear ho0)
 obtain ⟨Ao8,co8,eo8⟩:=Kd.R_slice HO202.out
 (first | subst eo8 | (injection eo8 with f1_ f2_ f3_;have f4_:=f1_.symm;have f5_:=f3_.symm;clear f1_ f2_ f3_;subst f4_;subst f5_))
 refine hK.out _ _ ⟨(blk_cell BK199.out 0).trans rfl,(blk_cell BK199.out 1).trans rfl⟩ (fun hHeld=>?_)
 clear hK K
 refine norm_ (a':=?_) ?_ ?_
 rotate_left
 ·show Act.put _ (some 8) _ = _
  simp only [Act.put,NRM]
  rfl
 refine one_ (i:=4) (N:=some 9) (ba 6 31) rfl rfl (by kernel_rfl) (by decide) (fun K hK=>?_)
 refine goes_ Tryz.func65 (by kernel_rfl) rfl #[.agg #[.slice A0_0 l0_0.length c0_0,.slice A0_1 l0_1.length c0_1],.slice Ao8 t200.length co8] (by rfl) rfl rfl (by (try simp only [List.map_toArray,List.map_cons,List.map_nil]);first | done | rfl | (simp only [List.length_drop,List.length_take];rfl)) ?_
 with_reducible refine (ga_surely.calls k _ _ l0_0 _ _ l0_1 _ _ t200 t203 _ ?side1 ?side2 ?side3 ?side4 ?side5 ?side6 A4.out).mono ?_
 (case side1=>exact kC HR0_0.out HB.out)
 (case side2=>exact HC0_0.out)
 (case side3=>exact kC HR0_1.out HB.out)
 (case side4=>exact HC0_1.out)
 (case side5=>repeat (first | exact (Kd.R_reads' HO202.out).2.2 | (with_reducible refine Kd.C_alloc ?_ _) | (with_reducible refine Kd.C_drewN ?_ _) | (with_reducible refine Kd.C_drew ?_)))
 (case side6=>exact (Kd.R_reads' HO202.out).2.1)
 rintro e w9 ⟨rfl,hb⟩
 refine ⟨_,rfl,?_⟩
 replace HO202:=am (Kd.R_below HO202.out hb)
 replace BK199:=(kmv hb BK199)
 replace HB:=am (below_step (HB.out) hb)
 (try clear hb)
 (try clear hb2)
 (try clear hk)
 (try clear hi)
 refine hK.out _ _ ⟨(blk_cell BK199.out 0).trans rfl,(blk_cell BK199.out 1).trans rfl⟩ (fun hHeld=>?_)
 clear hK K
 refine norm_ (a':=?_) ?_ ?_
 rotate_left
 ·show Act.put _ (some 9) _ = _
  simp only [Act.put,NRM]
  rfl
 refine pure_ (i:=5) (N:=some 4) (v:=?_) (a':=?_) (ba 6 63) rfl rfl (by kernel_rfl) (fun _ _ _ h=>h) (Or.inl ⟨by rfl,?_⟩) ?_ ?_
 rotate_left
 ·intro w'
  go_simp
  with_reducible rfl
 rotate_left
 ·simp only [Act.put,NRM]
  rfl
 refine done_ (by kernel_rfl) ?_
 try go_wp2
 go_ret
 exact ⟨by first | rfl | (simp [*]<;>rfl),HB.out⟩
end Go.Proofs.YtclkbedbocnpkaaGreatDoor.C

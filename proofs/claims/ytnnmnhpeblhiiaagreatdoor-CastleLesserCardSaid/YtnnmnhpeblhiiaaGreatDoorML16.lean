/- A part of the proof: the walks of the functions that it reaches. TIGHT. -/
import Derived.Test.YtnnmnhpeblhiiaaGreatDoorML15
set_option linter.unusedSimpArgs false
set_option linter.unusedVariables false
namespace Go.Proofs.YtnnmnhpeblhiiaaGreatDoor.C
open Go.RowKit Go.Proofs.YtnnmnhpeblhiiaaGreatDoorW.PrintWords Go.Proofs.YtnnmnhpeblhiiaaGreatDoorW.PrintLast Go.Proofs.YtnnmnhpeblhiiaaGreatDoorW.PrintMore
set_option maxHeartbeats 16000000
set_option maxRecDepth 100000
section
attribute [local go_sem] zwa zq9 zwf zwe
def ca_Shares.j0 : Nat→Int→Bool→List (S126)→Int→List (S48)→Int→Int→Option (List Int × Int × Int)
 | 0,_,_,_,_,_,_,_=>none
 | k + 1,x1,x16,x193000,x193001,x193002,x193003,x193004=>if x16 = true then (some (([] : List Int),0,2)) else ((ca_fill.f k x193000 x193001 x193002 x193003 x193004).bind fun bt207=>((gf_shares.f k x193000 bt207.1 x193002 bt207.2.1 bt207.2.2.1 bt207.2.2.2 x1).bind fun bt213=>(some (bt213.1,bt213.2,0))))
def ca_Shares.f (k : Nat) (lA : List (S126)) (aA : Int) (lB : List (S48)) (a0_3 : Int) (aC : Int) (a1 : Int) : Option (List Int × Int × Int):=(ca_isBasin.f lA aA lB a0_3 aC).bind fun t193=>(if t193 = true then ((ca_isFlow.f a1).bind fun t194=>(ca_Shares.j0 k a1 (!t194) lA aA lB a0_3 aC)) else (ca_Shares.j0 k a1 true lA aA lB a0_3 aC))
theorem ca_Shares.calls (k : Nat) (AX : Option Addr) (c0_0 : Nat) (lA : List (S126)) (aA : Int) (AY : Option Addr) (cB : Nat) (lB : List (S48)) (a0_3 : Int) (aC : Int) (a1 : Int) (r1 : List Int) (r2 : Int) (r3 : Int) (w : World) (hra : Kd.C k126 w AX lA.length lA) (hc0_0 : lA.length≤c0_0) (hrb : Kd.C k48 w AY lB.length lB) (hcb : lB.length≤cB) (h : ca_Shares.f k lA aA lB a0_3 aC a1 = some (r1,r2,r3)) :
 Calls Tryz.prog 23 #[.agg #[.slice AX lA.length c0_0,.int .i64 aA,.slice AY lB.length cB,.int .i64 a0_3,.int .i64 aC],.int .i64 a1] w fun e w'=>∃ v0_ : Value,e = .returned (.tuple #[v0_,.int .i64 r2,.int .i64 r3])∧Kd.R (Kd.int .i64) 3 w' w.heap.size (fun _=>True) v0_ r1∧Below w.heap.size w w':=by
 have hu27:=Tryz.underlying27
 have HRA:=am hra
 have HCA:=am hc0_0
 clear hra hc0_0
 have HRB:=am hrb
 have HCB:=am hcb
 clear hrb hcb
 have HB:=am (Below.refl w.heap.size w)
 have H : ((ca_isBasin.f lA aA lB a0_3 aC).bind fun t193=>(if t193 = true then ((ca_isFlow.f a1).bind fun t194=>(ca_Shares.j0 k a1 (!t194) lA aA lB a0_3 aC)) else (ca_Shares.j0 k a1 true lA aA lB a0_3 aC))) = some (r1,r2,r3):=h
 clear h
 have HC3:=am H
 clear H
 go_enter Tryz.func23,Tryz.ntmps23
 go_upto_region 1 with (first | ((refine zqn (N:=2) rfl ?_);refine zqm rfl (N:=2) rfl (cs:=#[.slice AX lA.length c0_0,.int .i64 aA,.slice AY lB.length cB,.int .i64 a0_3,.int .i64 aC]) (t:=27) ?hr ?_;(case hr=>go_simp;try rfl);intro gb192 hg w4 hbox hb;have BK192:=am (hbox);have GW192:=am (zqq (HB.out) hg);have GE192:=am (zqq (HB.out) hg);replace HB:=am (zqb (HB.out) hb);clear hb hbox hg))
 (try simp only [Act.put,List.setIfInBounds_toArray,List.set_cons_zero,List.set_cons_succ])
 go_cut [16] (fun v16 wc=>∃ (kq : Nat) (x16_2 : Bool),v16 = .bool x16_2∧zqk (ca_Shares.j0 kq a1 x16_2 lA aA lB a0_3 aC = some (r1,r2,r3))∧zqk (kq≤k)∧zqk (wc.heap[gb192]? = some (.cells #[(.slice AX lA.length c0_0),.int .i64 aA,(.slice AY lB.length cB),.int .i64 a0_3,.int .i64 aC] 27 (0,0)))∧zqk (Below w.heap.size w wc))
 case first =>
  have H:=HC3.out
  clear HC3
  replace H:=obm H
  obtain ⟨t193,A50,H⟩:=H
  replace H : (if t193 = true then ((ca_isFlow.f a1).bind fun t194=>(ca_Shares.j0 k a1 (!t194) lA aA lB a0_3 aC)) else (ca_Shares.j0 k a1 true lA aA lB a0_3 aC)) = some (r1,r2,r3):=H
  have A5:=am A50
  clear A50
  by_cases c6 : t193 = true
  case neg =>
   replace c6:=Bool.eq_false_iff.mpr c6
   subst c6
   replace H : (ca_Shares.j0 k a1 true lA aA lB a0_3 aC) = some (r1,r2,r3):=by rw [if_neg (show ¬ (false = true) by decide)] at H;exact H
   replace H':=am H
   obtain ⟨hcz10_0,hcz10_1,hcz10_2,hcz10_3,hcz10_4⟩:=cO5 BK192.out
   go_wp2_with (first | ((with_reducible refine zqo (f:=64) rfl ?_);refine zq3 (some 10) rfl rfl Tryz.func64 (by kernel_rfl) rfl #[.agg #[.slice AX lA.length c0_0,.int .i64 aA,.slice AY lB.length cB,.int .i64 a0_3,.int .i64 aC]] rfl (by (try simp only [List.map_toArray,List.map_cons,List.map_nil]);first | done | rfl | (simp only [List.length_drop,List.length_take];rfl)) ?_;(refine (ca_isBasin.calls _ _ lA aA _ _ lB a0_3 aC false _ ?side1 ?side2 ?side3 ?side4 A5.out).mono ?_);(case side1=>exact kC HRA.out HB.out);(case side2=>exact HCA.out);(case side3=>exact kC HRB.out HB.out);(case side4=>exact HCB.out);rintro e w11 ⟨rfl,hb⟩;refine ⟨_,rfl,?_⟩;replace BK192:=(kmv hb BK192);replace HB:=am (zqb (HB.out) hb);(try clear hb);(try clear hb2);(try clear hk);(try clear hi)))
   go_meet
   case rel=>exact ⟨_,(true),(by first | rfl | (simp;done) | (simp [*];done)),H',⟨by first | omega | exact Nat.le_refl _⟩,⟨BK192.out⟩,⟨HB.out⟩⟩
  subst c6
  replace H : ((ca_isFlow.f a1).bind fun t194=>(ca_Shares.j0 k a1 (!t194) lA aA lB a0_3 aC)) = some (r1,r2,r3):=by rw [if_pos rfl] at H;exact H
  replace H:=obm H
  obtain ⟨t194,A70,H⟩:=H
  replace H : (ca_Shares.j0 k a1 (!t194) lA aA lB a0_3 aC) = some (r1,r2,r3):=H
  have A7:=am A70
  clear A70
  replace H':=am H
  obtain ⟨hcz8_0,hcz8_1,hcz8_2,hcz8_3,hcz8_4⟩:=cO5 BK192.out
  go_wp2_with (first | ((with_reducible refine zqo (f:=64) rfl ?_);refine zq3 (some 10) rfl rfl Tryz.func64 (by kernel_rfl) rfl #[.agg #[.slice AX lA.length c0_0,.int .i64 aA,.slice AY lB.length cB,.int .i64 a0_3,.int .i64 aC]] rfl (by (try simp only [List.map_toArray,List.map_cons,List.map_nil]);first | done | rfl | (simp only [List.length_drop,List.length_take];rfl)) ?_;(refine (ca_isBasin.calls _ _ lA aA _ _ lB a0_3 aC true _ ?side1 ?side2 ?side3 ?side4 A5.out).mono ?_);(case side1=>exact kC HRA.out HB.out);(case side2=>exact HCA.out);(case side3=>exact kC HRB.out HB.out);(case side4=>exact HCB.out);rintro e w9 ⟨rfl,hb⟩;refine ⟨_,rfl,?_⟩;replace BK192:=(kmv hb BK192);replace HB:=am (zqb (HB.out) hb);(try clear hb);(try clear hb2);(try clear hk);(try clear hi)) | (go_at_call 67;(refine (ca_isFlow.calls a1 t194 _ A7.out).mono ?_);rintro e w' ⟨rfl,⟨nd,rfl⟩⟩))
  go_meet
  case rel=>exact ⟨_,(!t194),(by first | rfl | (simp;done) | (simp [*];done)),H',⟨by first | omega | exact Nat.le_refl _⟩,⟨BK192.out⟩,⟨zqa HB.out _⟩⟩
 case rest =>
  clear HC3
  obtain ⟨kq,x16_2,rfl,HA,HJ2,BK192,HB⟩:=hcut
  cases kq with
  | zero=>exact absurd HA.out (by simp [ca_Shares.j0])
  | succ kj2 =>
   have H:=HA.out
   clear HA
   simp only [ca_Shares.j0] at H
   by_cases c12 : x16_2 = true
   ·subst c12
    replace H : (some (([] : List Int),0,2)) = some (r1,r2,r3):=by rw [if_pos rfl] at H;exact H
    simp only [Option.some.injEq,Prod.mk.injEq] at H
    obtain ⟨rfl,rfl,rfl⟩:=H
    go_wp2
    go_ret3
    exact ⟨_,by first | rfl | (simp [*]<;>rfl),by first | exact Kd.R_nil _ _ _ _ _ | exact Kd.N_nil _ _ _ _ _ | exact Kd.V_nil _ _ _ _ _ | exact Kd.Q_nil _ _ _ _ _ | exact Kd.S_nil _ _ _ _ _,HB.out⟩
   ·replace c12:=Bool.eq_false_iff.mpr c12
    subst c12
    replace H : ((ca_fill.f kj2 lA aA lB a0_3 aC).bind fun bt207=>((gf_shares.f kj2 lA bt207.1 lB bt207.2.1 bt207.2.2.1 bt207.2.2.2 a1).bind fun bt213=>(some (bt213.1,bt213.2,0)))) = some (r1,r2,r3):=by rw [if_neg (show ¬ (false = true) by decide)] at H;exact H
    replace H:=obm H
    obtain ⟨⟨t207,t208,t209,t210⟩,A130,H⟩:=H
    replace H : ((gf_shares.f kj2 lA t207 lB t208 t209 t210 a1).bind fun bt213=>(some (bt213.1,bt213.2,0))) = some (r1,r2,r3):=H
    have A13:=am A130
    clear A130
    replace H:=obm H
    obtain ⟨⟨t213,t216⟩,A140,H⟩:=H
    replace H : (some (t213,t216,0)) = some (r1,r2,r3):=H
    have A14:=am A140
    clear A140
    simp only [Option.some.injEq,Prod.mk.injEq] at H
    obtain ⟨rfl,rfl,rfl⟩:=H
    obtain ⟨hcz15_0,hcz15_1,hcz15_2,hcz15_3,hcz15_4⟩:=cO5 BK192.out
    go_wp2_with (first | ((with_reducible refine zqo (f:=69) rfl ?_);refine zq3 (some 19) rfl rfl Tryz.func69 (by kernel_rfl) rfl #[.agg #[.slice AX lA.length c0_0,.int .i64 aA,.slice AY lB.length cB,.int .i64 a0_3,.int .i64 aC]] rfl (by (try simp only [List.map_toArray,List.map_cons,List.map_nil]);first | done | rfl | (simp only [List.length_drop,List.length_take];rfl)) ?_;(refine (ca_fill.calls kj2 _ _ lA aA _ _ lB a0_3 aC t207 t208 t209 t210 _ ?side1 ?side2 ?side3 ?side4 A13.out).mono ?_);(case side1=>exact kC HRA.out HB.out);(case side2=>exact HCA.out);(case side3=>exact kC HRB.out HB.out);(case side4=>exact HCB.out);rintro e w16 ⟨v211,rfl,ho0,hb⟩;refine ⟨_,rfl,?_⟩;have HO212:=am (Kd.S_lower ho0 (zqr (HB.out)));replace BK192:=(kmv hb BK192);replace HB:=am (zqb (HB.out) hb);(try clear hb);(try clear hb2);(try clear hk);(try clear hi);(try clear ho0);obtain ⟨Ao17,co17,eo17⟩:=Kd.S_slice HO212.out;subst eo17) | ((with_reducible refine zqo (f:=71) rfl ?_);refine zq3 (some 21) rfl rfl Tryz.func71 (by kernel_rfl) rfl #[.agg #[.slice AX lA.length c0_0,.int .i64 t207,.slice AY lB.length cB,.int .i64 t208,.int .i64 t209,.slice Ao17 t210.length co17],.int .i64 a1] rfl (by (try simp only [List.map_toArray,List.map_cons,List.map_nil]);first | done | rfl | (simp only [List.length_drop,List.length_take];rfl)) ?_;(refine (gf_shares.calls kj2 _ _ lA t207 _ _ lB t208 t209 _ _ t210 a1 t213 t216 _ ?side1 ?side2 ?side3 ?side4 ?side5 ?side6 A14.out).mono ?_);(case side1=>exact kC HRA.out HB.out);(case side2=>exact HCA.out);(case side3=>exact kC HRB.out HB.out);(case side4=>exact HCB.out);(case side5=>repeat (first | exact (Kd.S_reads' HO212.out).2.2 | (with_reducible refine Kd.C_alloc ?_ _) | (with_reducible refine Kd.C_drewN ?_ _) | (with_reducible refine Kd.C_drew ?_)));(case side6=>exact (Kd.S_reads' HO212.out).2.1);rintro e w18 ⟨v214,rfl,ho0,hb⟩;refine ⟨_,rfl,?_⟩;have HO215:=am (Kd.R_lower ho0 (zqr (HB.out)));replace HO212:=am (Kd.S_elder' HO212.out (Kd.R_base ho0) hb);replace BK192:=(kmv hb BK192);replace HB:=am (zqb (HB.out) hb);(try clear hb);(try clear hb2);(try clear hk);(try clear hi);(try clear ho0)))
    go_ret3
    exact ⟨_,by first | rfl | (simp [*]<;>rfl),by (with_reducible repeat (first | apply Kd.R_alloc | apply Kd.R_drewN | apply Kd.R_drew));exact HO215.out,HB.out⟩
def q4_At.l0 : Nat→List Int→Int→List (S126)→Int→List (S48)→Int→Int→Option (Int × (List (S48)) × Int × Int)
 | 0,_,_,_,_,_,_,_=>none
 | k + 1,x1,x5,x490000,x490001,x490002,x490003,x490004=>if x5 < (x1.length : Int) then (if 0≤x5 then (if x5 < (x490002.length : Int) then (q4_At.l0 k x1 (wrap64 (x5 + 1)) x490000 x490001 (x490002.set (x5 : Int).toNat (⟨(zql x490002 x5).f0,rd x1 x5⟩ : S48)) x490003 x490004) else (none)) else (none)) else (some (x490001,x490002,x490003,x490004))
def q4_At.f (k : Nat) (lA : List (S126)) (aA : Int) (lB : List (S48)) (a0_3 : Int) (aC : Int) (l1 : List Int) : Option (Int × (List (S48)) × Int × Int):=if ([] : List (S48)).length + lB.length < 8796093022208 then (q4_At.l0 k l1 0 lA aA (([] : List (S48)) ++ lB) a0_3 aC) else (none)
def q4_At.T5 : Bool × List (List Nat × List Nat):=(true,[([],[]),([0],[0]),([],[]),([],[]),([],[]),([3,4],[3,4]),([5],[5]),([1,2,0,1,2,3,4,5,6],[1,2]),([7,0,1,2,3,4,5,6],[7]),([8,6,0,1,2,3,4,5,6],[6,8])])
def q4_At.B5 : List Nat:=[0,1,0,0,0,24,56,127,255,511]
theorem q4_At.tab5 : rtab .any (opsOf Tryz.f24 5) = q4_At.T5:=by kernel_rfl
theorem q4_At.bits5 : zv3 q4_At.T5.2 q4_At.B5 = true:=by kernel_rfl
theorem q4_At.calls (k : Nat) (AX : Option Addr) (c0_0 : Nat) (lA : List (S126)) (aA : Int) (AY : Option Addr) (cB : Nat) (lB : List (S48)) (a0_3 : Int) (aC : Int) (A1 : Option Addr) (c1 : Nat) (l1 : List Int) (r1 : Int) (r2 : List (S48)) (r3 : Int) (r4 : Int) (w : World) (hra : Kd.C k126 w AX lA.length lA) (hc0_0 : lA.length≤c0_0) (hrb : Kd.C k48 w AY lB.length lB) (hcb : lB.length≤cB) (hr1 : Kd.C (Kd.int .i64) w A1 l1.length l1) (hc1 : l1.length≤c1) (h : q4_At.f k lA aA lB a0_3 aC l1 = some (r1,r2,r3,r4)) :
 Calls Tryz.prog 24 #[.agg #[.slice AX lA.length c0_0,.int .i64 aA,.slice AY lB.length cB,.int .i64 a0_3,.int .i64 aC],.slice A1 l1.length c1] w fun e w'=>∃ v1_ : Value,e = .returned (.agg #[.slice AX lA.length c0_0,.int .i64 r1,v1_,.int .i64 r3,.int .i64 r4])∧Kd.R k48 48 w' w.heap.size (fun _=>True) v1_ r2∧Below w.heap.size w w':=by
 have hu27:=Tryz.underlying27
 have HRA:=am hra
 have HCA:=am hc0_0
 clear hra hc0_0
 have HRB:=am hrb
 have HCB:=am hcb
 clear hrb hcb
 have HR1:=am hr1
 have HC1:=am hc1
 clear hr1 hc1
 have HB:=am (Below.refl w.heap.size w)
 have H : (if ([] : List (S48)).length + lB.length < 8796093022208 then (q4_At.l0 k l1 0 lA aA (([] : List (S48)) ++ lB) a0_3 aC) else (none)) = some (r1,r2,r3,r4):=h
 clear h
 by_cases c3 : ([] : List (S48)).length + lB.length < 8796093022208
 case neg =>
  rw [if_neg c3] at H
  exact absurd H (by simp)
 rw [if_pos c3] at H
 have LMc3:=am c3
 clear c3
 obtain ⟨y491,hy491⟩ : ∃ y_ : List (S48),y_ = (([] : List (S48)) ++ lB):=⟨_,rfl⟩
 replace H : (q4_At.l0 k l1 0 lA aA y491 a0_3 aC) = some (r1,r2,r3,r4):=by first | (rw [hy491];with_reducible exact H) | (have H2_:=(Option.bind_some _ _).symm.trans H;rw [hy491];with_reducible exact H2_) | (have H2_:=(Option.bind_some _ _).symm.trans H;with_reducible exact H2_) | with_reducible exact H | (rw [hy491];exact H) | exact H
 have Ny491:=am hy491
 clear hy491
 replace H':=am H
 go_enter Tryz.func24,Tryz.ntmps24
 go_wp2_with (first | ((refine zqn (N:=2) rfl ?_);refine zqm rfl (N:=2) rfl (cs:=#[.slice AX lA.length c0_0,.int .i64 aA,.slice AY lB.length cB,.int .i64 a0_3,.int .i64 aC]) (t:=27) ?hr ?_;(case hr=>go_simp;try rfl);intro gb489 hg w4 hbox hb;have BK489:=am (hbox);have GW489:=am (zqq (HB.out) hg);have GE489:=am (zqq (HB.out) hg);replace HB:=am (zqb (HB.out) hb);clear hb hbox hg) | ((refine zqn (N:=4) rfl ?_);refine zqm rfl (N:=4) rfl (cs:=#[.slice none 0 0,.int .i64 0,.slice none 0 0,.int .i64 0,.int .i64 0]) (t:=27) ?hr ?_;(case hr=>go_simp;try rfl);intro gb490 hg w5 hbox hb;have BK490:=am (hbox);have GW490:=am (zqq (HB.out) hg);have GE490:=am (zqq (HB.out) hg);have NB489_490:=am (zv9 BK489.out hg);have NB490_489:=am (zvj BK489.out hg);replace BK489:=(kmv hb BK489);replace HB:=am (zqb (HB.out) hb);clear hb hbox hg;have hnb6:=NB489_490.out;have hnc6:=NB490_489.out;obtain ⟨hcz7_0,hcz7_1,hcz7_2,hcz7_3,hcz7_4⟩:=cO5 BK489.out;have hfz7_0:=zqd BK489.out 0;have hfz7_1:=zqd BK489.out 1;have hfz7_2:=zqd BK489.out 2;have hfz7_3:=zqd BK489.out 3;have hfz7_4:=zqd BK489.out 4) | ((with_reducible refine zwg (b:=.append) (xs:=#[.const (.slice none 0 0),.tmp 7]) rfl ?_);at_builtin;refine Kd.R_append_rows k48 (w0:=w) w.heap.size rfl (.const (.slice none 0 0)) (.tmp 7) 25 48 (.agg #[(.int .i64 0),(.int .i64 0)]) 16 rfl Tryz.underlying25 info48 rfl (by decide) (by omega) (.slice none 0 0) ([] : List (S48)) lB _ _ _ (fun _=>True) (fun _=>False) rfl rfl ?aO ?aR (fun _ _ h=>h) (fun _ h=>h.elim) ?aF ?aB ?aS ?aL ?_;(case aR=>repeat (first | exact (kC HRB.out HB.out) | (with_reducible refine Kd.C_alloc ?_ _) | (with_reducible refine Kd.C_drewN ?_ _) | (with_reducible refine Kd.C_drew ?_)));(case aB=>exact (HB.out));(case aF=>exact (fun _ _=>trivial));(case aO=>exact ((Kd.R_nil _ _ _ _ (fun _=>True))));(case aS=>exact (zqr (HB.out)));(case aL=>have:=LMc3.out;omega);intro v492 w8 ho hb hg hat;rw [← Ny491.out] at ho;have HO493:=am (ho);replace BK489:=am (zq2 (g:=gb489) (o:=.cells #[.slice AX lA.length c0_0,.int .i64 aA,.slice AY lB.length cB,.int .i64 a0_3,.int .i64 aC] 27 (0,0)) BK489.out hg (by simp [Value.ownBlock]));replace BK490:=am (zq2 (g:=gb490) (o:=.cells #[.slice none 0 0,.int .i64 0,.slice none 0 0,.int .i64 0,.int .i64 0] 27 (0,0)) BK490.out hg (by simp [Value.ownBlock]));replace HB:=am (hb);clear ho hb hg hat;obtain ⟨Ao9,co9,eo9⟩:=Kd.R_slice HO493.out;subst eo9;obtain ⟨hcz10_0,hcz10_1,hcz10_2,hcz10_3,hcz10_4⟩:=cO5 BK489.out;have hfz10_0:=zqd BK489.out 0;have hfz10_1:=zqd BK489.out 1;have hfz10_2:=zqd BK489.out 2;have hfz10_3:=zqd BK489.out 3;have hfz10_4:=zqd BK489.out 4))
 go_loopg [5] k (fun kq v5 w'=>∃ (x5_1 : Int) (x490002_1 : List (S48)) (u490002 : Value),v5 = .int .i64 x5_1∧zqk (q4_At.l0 kq l1 x5_1 lA aA x490002_1 a0_3 aC = some (r1,r2,r3,r4))∧zqk (kq≤k)∧zqk (Kd.R k48 48 w' w.heap.size (fun _=>True) u490002 x490002_1)∧zqk (w'.heap[gb489]? = some (.cells #[(.slice AX lA.length c0_0),.int .i64 aA,u490002,.int .i64 a0_3,.int .i64 aC] 27 (0,0)))∧zqk (w'.heap[gb490]? = some (.cells #[(.slice none 0 0),.int .i64 0,(.slice none 0 0),.int .i64 0,.int .i64 0] 27 (0,0)))∧zqk (Below w.heap.size w w'))
 case atStart=>exact ⟨(0),(y491),(.slice Ao9 y491.length co9),(by first | rfl | (simp;done) | (simp [*];done)),H',⟨Nat.le_refl _⟩,⟨by (with_reducible repeat (first | apply Kd.R_alloc | apply Kd.R_drewN | apply Kd.R_drew));exact Kd.R_mono (Kd.R_far (p:=⟨gb489,2,none⟩) (Kd.R_types HO493.out BK489.out (by decide)) (fun _ hk=>hk.2) (.slice Ao9 y491.length co9)) (fun _ hk=>trivial)⟩,⟨(zq5 (cs:=#[.slice AX lA.length c0_0,.int .i64 aA,.slice AY lB.length cB,.int .i64 a0_3,.int .i64 aC]) BK489.out 2 _ rfl)⟩,⟨(zq4 BK490.out NB490_489.out _)⟩,⟨by repeat (first | (with_reducible first | exact HB.out | refine zqf ?_ (zqk.out (by assumption)) | apply zqc | apply zqa) | exact HB.out)⟩⟩
 case round =>
  clear H'
  obtain ⟨x5_1,x490002_1,u490002,rfl,HA,HK1,HO_490002,BK489,BK490,HB⟩:=hrel
  cases gk with
  | zero=>exact absurd HA.out (by simp [q4_At.l0])
  | succ k1 =>
   have H:=HA.out
   clear HA
   simp only [q4_At.l0] at H
   by_cases c11 : x5_1 < (l1.length : Int)
   case neg =>
    rw [if_neg c11] at H
    have c11b0 : decide (x5_1 < (l1.length : Int)) = false:=decide_eq_false c11
    clear c11
    simp only [Option.some.injEq,Prod.mk.injEq] at H
    obtain ⟨rfl,rfl,rfl,rfl⟩:=H
    have hnb17:=NB489_490.out
    have hnc17:=NB490_489.out
    obtain ⟨hcz18_0,hcz18_1,hcz18_2,hcz18_3,hcz18_4⟩:=cO5 BK489.out
    have hfz18_0:=zqd BK489.out 0
    have hfz18_1:=zqd BK489.out 1
    have hfz18_2:=zqd BK489.out 2
    have hfz18_3:=zqd BK489.out 3
    have hfz18_4:=zqd BK489.out 4
    obtain ⟨hcz19_0,hcz19_1,hcz19_2,hcz19_3,hcz19_4⟩:=cO5 BK490.out
    have hfz19_0:=zqd BK490.out 0
    have hfz19_1:=zqd BK490.out 1
    have hfz19_2:=zqd BK490.out 2
    have hfz19_3:=zqd BK490.out 3
    have hfz19_4:=zqd BK490.out 4
    obtain ⟨Ao20,co20,eo20⟩:=Kd.R_slice HO_490002.out
    subst eo20
    go_wp2
    refine bodyPost_ret (results_cell_row rfl _ _ gb490 27 #[.slice AX lA.length c0_0,.int .i64 aA,.slice Ao20 x490002_1.length co20,.int .i64 a0_3,.int .i64 aC] (0,0) _ rfl (zq5 (cs:=#[.slice AX lA.length c0_0,.int .i64 aA,.slice Ao20 x490002_1.length co20,.int .i64 a0_3,.int .i64 0]) (zq5 (cs:=#[.slice AX lA.length c0_0,.int .i64 aA,.slice Ao20 x490002_1.length co20,.int .i64 0,.int .i64 0]) (zq5 (cs:=#[.slice AX lA.length c0_0,.int .i64 aA,.slice none 0 0,.int .i64 0,.int .i64 0]) (zq5 (cs:=#[.slice AX lA.length c0_0,.int .i64 0,.slice none 0 0,.int .i64 0,.int .i64 0]) (zq5 (cs:=#[.slice none 0 0,.int .i64 0,.slice none 0 0,.int .i64 0,.int .i64 0]) BK490.out 0 _ rfl) 1 _ rfl) 2 _ rfl) 3 _ rfl) 4 _ rfl) Tryz.underlying27 rfl (by kernel_rfl)) rfl ?_
    exact ⟨_,by first | rfl | (simp [*]<;>rfl),by (with_reducible repeat (first | apply Kd.R_alloc | apply Kd.R_drewN | apply Kd.R_drew));exact Kd.R_mono (Kd.R_far (p:=⟨gb490,4,none⟩) (Kd.R_far (p:=⟨gb490,3,none⟩) (Kd.R_far (p:=⟨gb490,2,none⟩) (Kd.R_far (p:=⟨gb490,1,none⟩) (Kd.R_far (p:=⟨gb490,0,none⟩) (Kd.R_types HO_490002.out BK490.out (by decide)) (fun _ hk=>hk.2) (.slice AX lA.length c0_0)) (fun _ hk=>hk.2) (.int .i64 aA)) (fun _ hk=>hk.2) (.slice Ao20 x490002_1.length co20)) (fun _ hk=>hk.2) (.int .i64 a0_3)) (fun _ hk=>hk.2) (.int .i64 aC)) (fun _ hk=>trivial),by repeat (first | (with_reducible first | exact HB.out | refine zqf ?_ (zqk.out (by assumption)) | apply zqc | apply zqa) | exact HB.out)⟩
   rw [if_pos c11] at H
   have c11b0 : decide (x5_1 < (l1.length : Int)) = true:=decide_eq_true c11
   clear c11
   by_cases c12 : 0≤x5_1
   case neg =>
    rw [if_neg c12] at H
    exact absurd H (by simp)
   rw [if_pos c12] at H
   have c12b0 : decide (0≤x5_1) = true:=decide_eq_true c12
   clear c12
   by_cases c13 : x5_1 < (x490002_1.length : Int)
   case neg =>
    rw [if_neg c13] at H
    exact absurd H (by simp)
   rw [if_pos c13] at H
   have c13b0 : decide (x5_1 < (x490002_1.length : Int)) = true:=decide_eq_true c13
   clear c13
   obtain ⟨y495,hy495⟩ : ∃ y_ : List (S48),y_ = (x490002_1.set (x5_1 : Int).toNat (⟨(zql x490002_1 x5_1).f0,rd l1 x5_1⟩ : S48)):=⟨_,rfl⟩
   replace H : (q4_At.l0 k1 l1 (wrap64 (x5_1 + 1)) lA aA y495 a0_3 aC) = some (r1,r2,r3,r4):=by first | (rw [hy495];with_reducible exact H) | (have H2_:=(Option.bind_some _ _).symm.trans H;rw [hy495];with_reducible exact H2_) | (have H2_:=(Option.bind_some _ _).symm.trans H;with_reducible exact H2_) | with_reducible exact H | (rw [hy495];exact H) | exact H
   have Ny495:=am hy495
   clear hy495
   replace H':=am H
   try go_wp2
   replace HO_490002:=am (Kd.R_drew HO_490002.out)
   replace BK489:=am (zqj BK489.out)
   replace BK490:=am (zqj BK490.out)
   replace HB:=am (zwc HB.out)
   have p494 : 0≤(x5_1 : Int):=of_decide_eq_true (by assumption)
   have q494 : x5_1 < (l1.length : Int):=of_decide_eq_true (by assumption)
   obtain ⟨ad494,e494,hx494_0⟩:=Kd.at_int HR1.out x5_1 p494 q494
   have hw494_0:=hx494_0
   cases e494
   replace hx494_0:=(HB.out.cell (wbl hx494_0)).trans hx494_0
   replace p494:=eq_true p494
   replace q494:=eq_true q494
   have p14 : 0≤(x5_1 : Int):=of_decide_eq_true (by assumption)
   have q14 : (x5_1 : Int) < ((x490002_1.length : Int) : Int):=of_decide_eq_true (by assumption)
   obtain ⟨go14,co14,eo14,gb14,gl14,cl14,HG14⟩:=Kd.R_form HO_490002.out (by omega)
   (first | cases eo14 | (injection eo14 with ea_ en_ ec_;(first | subst ea_ | (injection ea_ with ea_;subst ea_));subst ec_;clear en_))
   have GB14:=am gb14
   have GG14:=am HG14
   clear gb14 gl14 HG14
   obtain ⟨ce14,hcl14,hM14,hcc14,hfr14⟩:=Kd.R_elem HO_490002.out z48 (x5_1 : Int) p14 q14
   obtain rfl:=zjc hM14
   have hx14_0 : World.cell? _ ⟨go14,(x5_1 : Int).toNat * 2,none⟩ = some (.int .i64 ((zql x490002_1 x5_1).f0)):=hcc14 0 _ rfl
   have hx14_1 : World.cell? _ ⟨go14,(x5_1 : Int).toNat * 2 + 1,none⟩ = some (.int .i64 ((zql x490002_1 x5_1).f1)):=hcc14 1 _ rfl
   have hf14_0 : World.frozen? _ ⟨go14,(x5_1 : Int).toNat * 2,none⟩ = false:=hfr14 0
   have hf14_1 : World.frozen? _ ⟨go14,(x5_1 : Int).toNat * 2 + 1,none⟩ = false:=hfr14 1
   clear hcl14 hcc14 hfr14 hM14
   replace p14:=eq_true p14
   replace q14:=eq_true q14
   obtain ⟨ce16,hcl16,hM16,hcc16,hfr16⟩:=Kd.R_elem HO_490002.out z48 (x5_1 : Int) (of_decide_eq_true (by assumption)) (by have h_ : (x5_1 : Int) < ((x490002_1.length : Int) : Int):=of_decide_eq_true (by assumption);first | exact h_ | (have e_:=(Kd.R_reads' HO_490002.out).1;omega) | simpa using h_)
   obtain rfl:=zjc hM16
   have HP16:=(Kd.R_seg HO_490002.out (x5_1 : Int) (of_decide_eq_true (by assumption)) (by have h_ : (x5_1 : Int) < ((x490002_1.length : Int) : Int):=of_decide_eq_true (by assumption);first | exact h_ | (have e_:=(Kd.R_reads' HO_490002.out).1;omega) | simpa using h_) (seg:=[.int .i64 (rd l1 x5_1)]) (j:=1) hcl16 hcc16 (show 2≤2 from by decide) (x':=(⟨(zql x490002_1 x5_1).f0,rd l1 x5_1⟩ : S48)) (k48_mkM _ _ _ (⟨(zql x490002_1 x5_1).f0,rd l1 x5_1⟩ : S48) ) (fun _ hk=>hk)).1
   rw [← Ny495.out] at HP16
   have HQ16:=am HP16
   clear hcl16 hcc16 hfr16 hM16 HP16
   refine zbe (n:=10) (S:=fun w'=>w'.cell? ⟨gb489,0,none⟩ = some (.slice AX lA.length c0_0)∧w'.cell? ⟨gb489,1,none⟩ = some (.int .i64 aA)∧w'.cell? ⟨gb489,2,none⟩ = some (.slice (some ⟨go14,0,none⟩) x490002_1.length co14)∧w'.cell? ⟨gb489,3,none⟩ = some (.int .i64 a0_3)∧w'.cell? ⟨gb489,4,none⟩ = some (.int .i64 aC)∧w'.cell? (ad494.add (x5_1).toNat) = some (.int .i64 (rd l1 x5_1))) (ds:=[9]) (ba 10 0) (by kernel_rfl) rfl rfl ⟨(zqe BK489.out 0).trans rfl,(zqe BK489.out 1).trans rfl,(zqe BK489.out 2).trans rfl,(zqe BK489.out 3).trans rfl,(zqe BK489.out 4).trans rfl,((HB.out.cell (wbl hw494_0)).trans hw494_0)⟩ (fun hHeld=>?_);refine zve q4_At.tab5 q4_At.bits5 (fun HT_ HW_=>?_)
   generalize wr.drew = w15 at HO_490002 BK489 BK490 HB GG14 HQ16 hf14_0 hf14_1 hx14_0 hx14_1 hx494_0 hHeld ⊢
   refine pure_ (i:=0) (N:=some 16) (v:=?_) (a':=?_) (ba 10 1) rfl rfl (zqs HT_.out (by kernel_rfl)) (fun _ _ _ h=>h) (Or.inl ⟨by rfl,?_⟩) ?_ ?_
   rotate_left
   ·intro w'
    go_simp
    with_reducible rfl
   rotate_left
   ·simp only [Act.put,NRM]
    rfl
   refine pure_ (i:=2) (N:=some 18) (v:=?_) (a':=?_) (ba 10 5) rfl rfl (zqs HT_.out (by kernel_rfl)) (fun _ _ _ h=>h) (Or.inl ⟨by rfl,?_⟩) ?_ ?_
   rotate_left
   ·intro w'
    go_simp
    with_reducible rfl
   rotate_left
   ·simp only [Act.put,NRM]
    rfl
   refine pure_ (i:=3) (N:=some 19) (v:=?_) (a':=?_) (ba 10 13) rfl rfl (zqs HT_.out (by kernel_rfl)) (fun _ _ _ h=>h) (Or.inl ⟨by rfl,?_⟩) ?_ ?_
   rotate_left
   ·intro w'
    go_simp
    with_reducible rfl
   rotate_left
   ·simp only [Act.put,NRM]
    rfl
   refine pure_ (i:=4) (N:=some 20) (v:=?_) (a':=?_) (ba 10 29) rfl rfl (zqs HT_.out (by kernel_rfl)) (fun _ _ _ h=>h) (Or.inl ⟨by rfl,?_⟩) ?_ ?_
   rotate_left
   ·intro w'
    go_simp
    with_reducible rfl
   rotate_left
   ·simp only [Act.put,NRM]
    rfl
   refine pure_ (i:=5) (N:=some 21) (v:=?_) (a':=?_) (ba 10 61) rfl rfl (zqs HT_.out (by kernel_rfl)) (fun _ _ _ h=>h) (Or.inl ⟨by rfl,?_⟩) ?_ ?_
   rotate_left
   ·intro w'
    go_simp
    with_reducible rfl
   rotate_left
   ·simp only [Act.put,NRM]
    rfl
   refine take_ (i:=1) (N:=some 17) (v:=?_) (a':=?_) (ba 10 63) rfl rfl (zq8 HT_.out HW_.out (by kernel_rfl)) (fun _ _ _ h=>h) (Or.inl ⟨by rfl,?_⟩) hHeld ?_ ?_
   rotate_left
   ·rintro w' ⟨s0,s1,s2,s3,s4,s5⟩
    go_simp
    with_reducible rfl
   rotate_left
   ·simp only [Act.put,NRM]
    rfl
   refine take_ (i:=6) (N:=some 22) (v:=?_) (a':=?_) (ba 10 127) rfl rfl (zq8 HT_.out HW_.out (by kernel_rfl)) (fun _ _ _ h=>h) (Or.inl ⟨by rfl,?_⟩) hHeld ?_ ?_
   rotate_left
   ·rintro w' ⟨s0,s1,s2,s3,s4,s5⟩
    go_simp
    with_reducible rfl
   rotate_left
   ·simp only [Act.put,NRM]
    rfl
   refine pure_ (i:=7) (N:=some 23) (v:=?_) (a':=?_) (ba 10 255) rfl rfl (zqs HT_.out (by kernel_rfl)) (fun _ _ _ h=>h) (Or.inl ⟨by rfl,?_⟩) ?_ ?_
   rotate_left
   ·intro w'
    go_simp
    with_reducible rfl
   rotate_left
   ·simp only [Act.put,NRM]
    rfl
   refine pure_ (i:=8) (N:=some 24) (v:=?_) (a':=?_) (ba 10 511) rfl rfl (zqs HT_.out (by kernel_rfl)) (fun _ _ _ h=>h) (Or.inl ⟨by rfl,?_⟩) ?_ ?_
   rotate_left
   ·intro w'
    go_simp
    with_reducible rfl
   rotate_left
   ·simp only [Act.put,NRM]
    rfl
   refine last_ (i:=9) (N:=none) (ba 10 1023) rfl rfl (zxw HT_.out (by kernel_rfl)) (by decide) (fun K hK=>?_)
   refine skip_ (w1:=?_) (by rfl) rfl ?_ ?_
   rotate_left
   ·go_simp
    rfl
   refine hK.out _ _ ?_
   clear hK K
   refine done_ (zx4 HT_.out (by kernel_rfl)) ?_
   try go_wp2
   go_roundg k1
   case measure=>have:=HK1.out;omega
   case rel=>exact ⟨(wrap64 (x5_1 + 1)),(y495),(.slice (some ⟨go14,0,none⟩) x490002_1.length co14),(by first | rfl | (simp;done) | (simp [*];done)),H',⟨by have:=HK1.out;omega⟩,⟨by (with_reducible repeat (first | apply Kd.R_alloc | apply Kd.R_drewN | apply Kd.R_drew));exact HQ16.out⟩,⟨(zq4 BK489.out (by have h_:=Kd.R_ne HO_490002.out BK489.out (by decide);intro e_;exact h_ (by rw [e_];rfl)) _)⟩,⟨(zq4 BK490.out (by have h_:=Kd.R_ne HO_490002.out BK490.out (by decide);intro e_;exact h_ (by rw [e_];rfl)) _)⟩,⟨by repeat (first | (with_reducible first | exact HB.out | refine zqf ?_ (zqk.out (by assumption)) | apply zqc | apply zqa) | exact HB.out)⟩⟩
def q4_Out.l0 : Nat→Int→List Int→Int→List (S126)→Int→List (S48)→Int→Int→Option (List Int × Int)
 | 0,_,_,_,_,_,_,_,_=>none
 | k + 1,x1,x6,x7,x497000,x497001,x497002,x497003,x497004=>if x7 < (x497002.length : Int) then (if 0≤x7 then (if 0≤((zql x497002 x7).f0) then (if ((zql x497002 x7).f0) < (x497000.length : Int) then (if x6.length < 17592186044416 then (q4_Out.l0 k x1 (x6 ++ [wrap64 (Int.tdiv (wrap64 (((zqw x497000 ((zql x497002 x7).f0)).f2) * (mn 5 (mx 0 (wrap64 (x1 - ((zql x497002 x7).f1))))))) 5)]) (wrap64 (x7 + 1)) x497000 x497001 x497002 x497003 x497004) else (none)) else (none)) else (none)) else (none)) else (some (x6,wrap64 (x497004 * (mx 0 (wrap64 (x1 - x497003))))))
def q4_Out.f (k : Nat) (lA : List (S126)) (aA : Int) (lB : List (S48)) (a0_3 : Int) (aC : Int) (a1 : Int) : Option (List Int × Int):=q4_Out.l0 k a1 ([] : List Int) 0 lA aA lB a0_3 aC
def q4_Out.T6 : Bool × List (List Nat × List Nat):=(true,[([],[]),([],[]),([1],[1]),([2],[2]),([],[]),([4],[4]),([3,5],[3,5]),([6],[6]),([7],[7]),([],[]),([],[]),([10],[10]),([9,11],[9,11]),([12],[12]),([13],[13]),([8,14],[8,14]),([15],[15]),([16],[16]),([0,17],[0,17]),([18,18,0,1,2,3,4,5,6,7,8,9,10,11,12,13,14,15,16,17,18],[0,18])])
def q4_Out.B6 : List Nat:=[0,0,2,6,0,16,62,126,254,0,0,1024,3584,7680,15872,32766,65534,131070,262143,524287]
theorem q4_Out.tab6 : rtab .any (opsOf Tryz.f44 6) = q4_Out.T6:=by kernel_rfl
theorem q4_Out.bits6 : zv3 q4_Out.T6.2 q4_Out.B6 = true:=by kernel_rfl
def q4_Out.T7 : Bool × List (List Nat × List Nat):=(true,[([],[]),([],[]),([1],[1]),([],[]),([],[]),([4],[4]),([3,5],[3,5]),([6],[6]),([2,7],[2,7]),([0,0],[0]),([8,9,0,1,2,3,4,5,6,7,8,9],[8])])
def q4_Out.B7 : List Nat:=[0,0,2,0,0,16,56,120,254,1,1023]
theorem q4_Out.tab7 : rtab .any (opsOf Tryz.f44 7) = q4_Out.T7:=by kernel_rfl
theorem q4_Out.bits7 : zv3 q4_Out.T7.2 q4_Out.B7 = true:=by kernel_rfl
theorem q4_Out.calls (k : Nat) (AX : Option Addr) (c0_0 : Nat) (lA : List (S126)) (aA : Int) (AY : Option Addr) (cB : Nat) (lB : List (S48)) (a0_3 : Int) (aC : Int) (a1 : Int) (r1 : List Int) (r2 : Int) (w : World) (hra : Kd.C k126 w AX lA.length lA) (hc0_0 : lA.length≤c0_0) (hrb : Kd.C k48 w AY lB.length lB) (hcb : lB.length≤cB) (h : q4_Out.f k lA aA lB a0_3 aC a1 = some (r1,r2)) :
 Calls Tryz.prog 44 #[.agg #[.slice AX lA.length c0_0,.int .i64 aA,.slice AY lB.length cB,.int .i64 a0_3,.int .i64 aC],.int .i64 a1] w fun e w'=>∃ v0_ : Value,e = .returned (.tuple #[v0_,.int .i64 r2])∧Kd.R (Kd.int .i64) 3 w' w.heap.size (fun _=>True) v0_ r1∧Below w.heap.size w w':=by
 have hu27:=Tryz.underlying27
 have hu48:=Tryz.underlying48
 have HRA:=am hra
 have HCA:=am hc0_0
 clear hra hc0_0
 have HRB:=am hrb
 have HCB:=am hcb
 clear hrb hcb
 have HB:=am (Below.refl w.heap.size w)
 have H : (q4_Out.l0 k a1 ([] : List Int) 0 lA aA lB a0_3 aC) = some (r1,r2):=h
 clear h
 replace H':=am H
 go_enter Tryz.func44,Tryz.ntmps44
 go_wp2_with (first | ((refine zqn (N:=2) rfl ?_);refine zqm rfl (N:=2) rfl (cs:=#[.slice AX lA.length c0_0,.int .i64 aA,.slice AY lB.length cB,.int .i64 a0_3,.int .i64 aC]) (t:=27) ?hr ?_;(case hr=>go_simp;try rfl);intro gb496 hg w3 hbox hb;have BK496:=am (hbox);have GW496:=am (zqq (HB.out) hg);have GE496:=am (zqq (HB.out) hg);replace HB:=am (zqb (HB.out) hb);clear hb hbox hg))
 go_loopg [6,7] k (fun kq v6 v7 w'=>∃ (x6_1 : List Int) (x7_1 : Int),v7 = .int .i64 x7_1∧zqk (q4_Out.l0 kq a1 x6_1 x7_1 lA aA lB a0_3 aC = some (r1,r2))∧zqk (kq≤k)∧zqk (Kd.R (Kd.int .i64) 3 w' w.heap.size (fun _=>True) v6 x6_1)∧zqk (w'.heap[gb496]? = some (.cells #[(.slice AX lA.length c0_0),.int .i64 aA,(.slice AY lB.length cB),.int .i64 a0_3,.int .i64 aC] 27 (0,0)))∧zqk (Below w.heap.size w w'))
 case atStart=>exact ⟨(([] : List Int)),(0),(by first | rfl | (simp;done) | (simp [*];done)),H',⟨Nat.le_refl _⟩,⟨by first | exact Kd.R_nil _ _ _ _ _ | exact Kd.N_nil _ _ _ _ _ | exact Kd.V_nil _ _ _ _ _ | exact Kd.Q_nil _ _ _ _ _ | exact Kd.S_nil _ _ _ _ _⟩,⟨BK496.out⟩,⟨HB.out⟩⟩
 case round =>
  clear H'
  obtain ⟨x6_1,x7_1,rfl,HA,HK1,HO_6,BK496,HB⟩:=hrel
  cases gk with
  | zero=>exact absurd HA.out (by simp [q4_Out.l0])
  | succ k1 =>
   have H:=HA.out
   clear HA
   simp only [q4_Out.l0] at H
   by_cases c4 : x7_1 < (lB.length : Int)
   case neg =>
    rw [if_neg c4] at H
    have c4b0 : decide (x7_1 < (lB.length : Int)) = false:=decide_eq_false c4
    clear c4
    obtain ⟨ji18,hji18⟩ : ∃ j_ : Int,(mx 0 (wrap64 (a1 - a0_3))) = j_:=⟨_,rfl⟩
    replace H : (some (x6_1,wrap64 (aC * (ji18)))) = some (r1,r2):=by first | (rw [hji18] at H;exact H) | (simp only [hji18] at H ⊢;exact H)
    (try (have hji18l : 0≤ji18:=by (rw [← hji18];unfold mx;(repeat' split)<;>omega)))
    (try (have hji18m : 0≤ji18:=by omega))
    have hji18_ : (if 0 < (wrap64 (a1 - a0_3)) then (wrap64 (a1 - a0_3)) else 0) = ji18:=hji18
    simp only [Option.some.injEq,Prod.mk.injEq] at H
    obtain ⟨rfl,rfl⟩:=H
    obtain ⟨hcz19_0,hcz19_1,hcz19_2,hcz19_3,hcz19_4⟩:=cO5 BK496.out
    try go_wp2
    replace HO_6:=am (Kd.R_drew HO_6.out)
    replace BK496:=am (zqj BK496.out)
    replace HB:=am (zwc HB.out)
    refine zbe (n:=11) (S:=fun w'=>w'.cell? ⟨gb496,0,none⟩ = some (.slice AX lA.length c0_0)∧w'.cell? ⟨gb496,1,none⟩ = some (.int .i64 aA)∧w'.cell? ⟨gb496,2,none⟩ = some (.slice AY lB.length cB)∧w'.cell? ⟨gb496,3,none⟩ = some (.int .i64 a0_3)∧w'.cell? ⟨gb496,4,none⟩ = some (.int .i64 aC)) (ds:=[]) (ba 11 0) (by kernel_rfl) rfl rfl ⟨(zqe BK496.out 0).trans rfl,(zqe BK496.out 1).trans rfl,(zqe BK496.out 2).trans rfl,(zqe BK496.out 3).trans rfl,(zqe BK496.out 4).trans rfl⟩ (fun hHeld=>?_);refine zve q4_Out.tab7 q4_Out.bits7 (fun HT_ HW_=>?_)
    generalize wr.drew = w20 at HO_6 BK496 HB hHeld ⊢
    refine pure_ (i:=0) (N:=some 40) (v:=?_) (a':=?_) (ba 11 1) rfl rfl (zqs HT_.out (by kernel_rfl)) (fun _ _ _ h=>h) (Or.inl ⟨by rfl,?_⟩) ?_ ?_
    rotate_left
    ·intro w'
     go_simp
     with_reducible rfl
    rotate_left
    ·simp only [Act.put,NRM]
     rfl
    refine pure_ (i:=1) (N:=some 41) (v:=?_) (a':=?_) (ba 11 3) rfl rfl (zqs HT_.out (by kernel_rfl)) (fun _ _ _ h=>h) (Or.inl ⟨by rfl,?_⟩) ?_ ?_
    rotate_left
    ·intro w'
     go_simp
     with_reducible rfl
    rotate_left
    ·simp only [Act.put,NRM]
     rfl
    refine pure_ (i:=3) (N:=some 43) (v:=?_) (a':=?_) (ba 11 11) rfl rfl (zqs HT_.out (by kernel_rfl)) (fun _ _ _ h=>h) (Or.inl ⟨by rfl,?_⟩) ?_ ?_
    rotate_left
    ·intro w'
     go_simp
     with_reducible rfl
    rotate_left
    ·simp only [Act.put,NRM]
     rfl
    refine pure_ (i:=4) (N:=some 44) (v:=?_) (a':=?_) (ba 11 27) rfl rfl (zqs HT_.out (by kernel_rfl)) (fun _ _ _ h=>h) (Or.inl ⟨by rfl,?_⟩) ?_ ?_
    rotate_left
    ·intro w'
     go_simp
     with_reducible rfl
    rotate_left
    ·simp only [Act.put,NRM]
     rfl
    refine pure_ (i:=9) (N:=some 4) (v:=?_) (a':=?_) (ba 11 539) rfl rfl (zqs HT_.out (by kernel_rfl)) (fun _ _ _ h=>h) (Or.inl ⟨by rfl,?_⟩) ?_ ?_
    rotate_left
    ·intro w'
     go_simp
     with_reducible rfl
    rotate_left
    ·simp only [Act.put,NRM]
     rfl
    refine take_ (i:=2) (N:=some 42) (v:=?_) (a':=?_) (ba 11 543) rfl rfl (zq8 HT_.out HW_.out (by kernel_rfl)) (fun _ _ _ h=>h) (Or.inl ⟨by rfl,?_⟩) hHeld ?_ ?_
    rotate_left
    ·rintro w' ⟨s0,s1,s2,s3,s4⟩
     go_simp
     with_reducible rfl
    rotate_left
    ·simp only [Act.put,NRM]
     rfl
    refine take_ (i:=5) (N:=some 45) (v:=?_) (a':=?_) (ba 11 575) rfl rfl (zq8 HT_.out HW_.out (by kernel_rfl)) (fun _ _ _ h=>h) (Or.inl ⟨by rfl,?_⟩) hHeld ?_ ?_
    rotate_left
    ·rintro w' ⟨s0,s1,s2,s3,s4⟩
     go_simp
     with_reducible rfl
    rotate_left
    ·simp only [Act.put,NRM]
     rfl
    refine pure_ (i:=6) (N:=some 46) (v:=?_) (a':=?_) (ba 11 639) rfl rfl (zqs HT_.out (by kernel_rfl)) (fun _ _ _ h=>h) (Or.inl ⟨by rfl,?_⟩) ?_ ?_
    rotate_left
    ·intro w'
     go_simp
     with_reducible rfl
    rotate_left
    ·simp only [Act.put,NRM]
     rfl
    refine pure_ (i:=7) (N:=some 47) (v:=?_) (a':=?_) (ba 11 767) rfl rfl (zqs HT_.out (by kernel_rfl)) (fun _ _ _ h=>h) (Or.inl ⟨by rfl,?_⟩) ?_ ?_
    rotate_left
    ·intro w'
     go_simp
     with_reducible rfl
    rotate_left
    ·simp only [Act.put,NRM]
     rfl
    refine pure_ (i:=8) (N:=some 48) (v:=?_) (a':=?_) (ba 11 1023) rfl rfl (zqs HT_.out (by kernel_rfl)) (fun _ _ _ h=>h) (Or.inl ⟨by rfl,?_⟩) ?_ ?_
    rotate_left
    ·intro w'
     go_simp
     with_reducible rfl
    rotate_left
    ·simp only [Act.put,NRM]
     rfl
    refine pure_ (i:=10) (N:=some 5) (v:=?_) (a':=?_) (ba 11 2047) rfl rfl (zqs HT_.out (by kernel_rfl)) (fun _ _ _ h=>h) (Or.inl ⟨by rfl,?_⟩) ?_ ?_
    rotate_left
    ·intro w'
     go_simp
     with_reducible rfl
    rotate_left
    ·simp only [Act.put,NRM]
     rfl
    refine done_ (zx4 HT_.out (by kernel_rfl)) ?_
    try go_wp2
    go_ret2
    exact ⟨_,by first | rfl | (simp [errW_none,errW_some]<;>rfl) | (simp only [← hji18];first | rfl | (simp [errW_none,errW_some]<;>rfl)) | (simp [*,errW_none,errW_some]<;>rfl),by (with_reducible repeat (first | apply Kd.R_alloc | apply Kd.R_drewN | apply Kd.R_drew));exact HO_6.out,HB.out⟩
   rw [if_pos c4] at H
   have c4b0 : decide (x7_1 < (lB.length : Int)) = true:=decide_eq_true c4
   clear c4
   by_cases c5 : 0≤x7_1
   case neg =>
    rw [if_neg c5] at H
    exact absurd H (by simp)
   rw [if_pos c5] at H
   have c5b0 : decide (0≤x7_1) = true:=decide_eq_true c5
   clear c5
   by_cases c6 : 0≤((zql lB x7_1).f0)
   case neg =>
    rw [if_neg c6] at H
    exact absurd H (by simp)
   rw [if_pos c6] at H
   have c6b0 : decide (0≤((zql lB x7_1).f0)) = true:=decide_eq_true c6
   clear c6
   by_cases c7 : ((zql lB x7_1).f0) < (lA.length : Int)
   case neg =>
    rw [if_neg c7] at H
    exact absurd H (by simp)
   rw [if_pos c7] at H
   have c7b0 : decide (((zql lB x7_1).f0) < (lA.length : Int)) = true:=decide_eq_true c7
   clear c7
   obtain ⟨ji8,hji8⟩ : ∃ j_ : Int,(mx 0 (wrap64 (a1 - ((zql lB x7_1).f1)))) = j_:=⟨_,rfl⟩
   replace H : (if x6_1.length < 17592186044416 then (q4_Out.l0 k1 a1 (x6_1 ++ [wrap64 (Int.tdiv (wrap64 (((zqw lA ((zql lB x7_1).f0)).f2) * (mn 5 (ji8)))) 5)]) (wrap64 (x7_1 + 1)) lA aA lB a0_3 aC) else (none)) = some (r1,r2):=by first | (rw [hji8] at H;exact H) | (simp only [hji8] at H ⊢;exact H)
   have hji8_ : (if 0 < (wrap64 (a1 - ((zql lB x7_1).f1))) then (wrap64 (a1 - ((zql lB x7_1).f1))) else 0) = ji8:=hji8
   obtain ⟨ji9,hji9⟩ : ∃ j_ : Int,(mn 5 (ji8)) = j_:=⟨_,rfl⟩
   replace H : (if x6_1.length < 17592186044416 then (q4_Out.l0 k1 a1 (x6_1 ++ [wrap64 (Int.tdiv (wrap64 (((zqw lA ((zql lB x7_1).f0)).f2) * (ji9))) 5)]) (wrap64 (x7_1 + 1)) lA aA lB a0_3 aC) else (none)) = some (r1,r2):=by first | (rw [hji9] at H;exact H) | (simp only [hji9] at H ⊢;exact H)
   have hji9_ : (if (ji8) < 5 then (ji8) else 5) = ji9:=hji9
   by_cases c10 : x6_1.length < 17592186044416
   case neg =>
    rw [if_neg c10] at H
    exact absurd H (by simp)
   rw [if_pos c10] at H
   have LMc10:=am c10
   clear c10
   obtain ⟨y500,hy500⟩ : ∃ y_ : List Int,y_ = (x6_1 ++ [wrap64 (Int.tdiv (wrap64 (((zqw lA ((zql lB x7_1).f0)).f2) * (ji9))) 5)]):=⟨_,rfl⟩
   replace H : (q4_Out.l0 k1 a1 y500 (wrap64 (x7_1 + 1)) lA aA lB a0_3 aC) = some (r1,r2):=by first | (rw [hy500];with_reducible exact H) | (have H2_:=(Option.bind_some _ _).symm.trans H;rw [hy500];with_reducible exact H2_) | (have H2_:=(Option.bind_some _ _).symm.trans H;with_reducible exact H2_) | with_reducible exact H | (rw [hy500];exact H) | exact H
   have Ny500:=am hy500
   clear hy500
   replace H':=am H
   obtain ⟨hcz11_0,hcz11_1,hcz11_2,hcz11_3,hcz11_4⟩:=cO5 BK496.out
   have p497 : 0≤(x7_1 : Int):=of_decide_eq_true (by assumption)
   have q497 : x7_1 < (lB.length : Int):=of_decide_eq_true (by assumption)
   obtain ⟨ad497,e497,hx497_0,hx497_1⟩:=zvi HRB.out x7_1 p497 q497
   cases e497
   replace hx497_0:=(HB.out.cell (wbl hx497_0)).trans hx497_0
   replace hx497_1:=(HB.out.cell (wbl hx497_1)).trans hx497_1
   replace p497:=eq_true p497
   replace q497:=eq_true q497
   try go_wp2_with (first | ((refine zqn (N:=8) rfl ?_);refine zqm rfl (N:=8) rfl (cs:=#[.int .i64 0,.int .i64 0]) (t:=48) ?hr ?_;(case hr=>go_simp;try rfl);intro gb498 hg w12 hbox hb;have BK498:=am (hbox);have GW498:=am (zqq (HB.out) hg);have GE498:=am (zqq (HB.out) hg);have NB496_498:=am (zv9 BK496.out hg);have NB498_496:=am (zvj BK496.out hg);replace HO_6:=am (Kd.R_below HO_6.out hb);replace BK496:=(kmv hb BK496);replace HB:=am (zqb (HB.out) hb);clear hb hbox hg;have hnb13:=NB498_496.out;have hnc13:=NB496_498.out;obtain ⟨hcz14_0,hcz14_1⟩:=cO2 BK498.out;have hfz14_0:=zqd BK498.out 0;have hfz14_1:=zqd BK498.out 1))
   have n0_ : zqk (Kd.R (Kd.int .i64) 3 ((w12.setCell ⟨gb498,0,none⟩ (.int .i64 ((zql lB x7_1).f0))).setCell ⟨gb498,1,none⟩ (.int .i64 ((zql lB x7_1).f1))) w.heap.size (fun _=>True) u6 x6_1):=⟨by (with_reducible repeat (first | apply Kd.R_alloc | apply Kd.R_drewN | apply Kd.R_drew));exact Kd.R_mono (Kd.R_far (p:=⟨gb498,1,none⟩) (Kd.R_far (p:=⟨gb498,0,none⟩) (Kd.R_types HO_6.out BK498.out (by decide)) (fun _ hk=>hk.2) (.int .i64 ((zql lB x7_1).f0))) (fun _ hk=>hk.2) (.int .i64 ((zql lB x7_1).f1))) (fun _ hk=>trivial)⟩
   have n1_ : zqk (((w12.setCell ⟨gb498,0,none⟩ (.int .i64 ((zql lB x7_1).f0))).setCell ⟨gb498,1,none⟩ (.int .i64 ((zql lB x7_1).f1))).heap[gb496]? = some (.cells #[.slice AX lA.length c0_0,.int .i64 aA,.slice (some ad497) lB.length cB,.int .i64 a0_3,.int .i64 aC] 27 (0,0))):=⟨(zq4 (zq4 BK496.out NB496_498.out _) NB496_498.out _)⟩
   have n2_ : zqk (((w12.setCell ⟨gb498,0,none⟩ (.int .i64 ((zql lB x7_1).f0))).setCell ⟨gb498,1,none⟩ (.int .i64 ((zql lB x7_1).f1))).heap[gb498]? = some (.cells #[.int .i64 ((zql lB x7_1).f0),.int .i64 ((zql lB x7_1).f1)] 48 (0,0))):=⟨(zq5 (cs:=#[.int .i64 ((zql lB x7_1).f0),.int .i64 0]) (zq5 (cs:=#[.int .i64 0,.int .i64 0]) BK498.out 0 _ rfl) 1 _ rfl)⟩
   have n3_ : zqk (Below w.heap.size w ((w12.setCell ⟨gb498,0,none⟩ (.int .i64 ((zql lB x7_1).f0))).setCell ⟨gb498,1,none⟩ (.int .i64 ((zql lB x7_1).f1)))):=⟨by repeat (first | (with_reducible first | exact HB.out | refine zqf ?_ (zqk.out (by assumption)) | apply zqc | apply zqa) | exact HB.out)⟩
   (try clear HO_6)
   (try clear BK496)
   (try clear BK498)
   (try clear HB)
   generalize ((w12.setCell ⟨gb498,0,none⟩ (.int .i64 ((zql lB x7_1).f0))).setCell ⟨gb498,1,none⟩ (.int .i64 ((zql lB x7_1).f1))) = w15 at n0_ n1_ n2_ n3_ ⊢
   have HO_6:=n0_
   have BK496:=n1_
   have BK498:=n2_
   have HB:=n3_
   clear n0_ n1_ n2_ n3_
   replace HO_6:=am (Kd.R_drew HO_6.out)
   replace BK496:=am (zqj BK496.out)
   replace BK498:=am (zqj BK498.out)
   replace HB:=am (zwc HB.out)
   have p499 : 0≤(((zql lB x7_1).f0) : Int):=of_decide_eq_true (by assumption)
   have q499 : ((zql lB x7_1).f0) < (lA.length : Int):=of_decide_eq_true (by assumption)
   obtain ⟨ad499,e499,hx499_0,hx499_1,hx499_2⟩:=zkx HRA.out ((zql lB x7_1).f0) p499 q499
   have hw499_2:=hx499_2
   have hw499_1:=hx499_1
   have hw499_0:=hx499_0
   cases e499
   replace hx499_0:=(HB.out.cell (wbl hx499_0)).trans hx499_0
   replace hx499_1:=(HB.out.cell (wbl hx499_1)).trans hx499_1
   replace hx499_2:=(HB.out.cell (wbl hx499_2)).trans hx499_2
   replace p499:=eq_true p499
   replace q499:=eq_true q499
   refine zbe (n:=20) (S:=fun w'=>w'.cell? ⟨gb496,0,none⟩ = some (.slice (some ad499) lA.length c0_0)∧w'.cell? ⟨gb496,1,none⟩ = some (.int .i64 aA)∧w'.cell? ⟨gb496,2,none⟩ = some (.slice (some ad497) lB.length cB)∧w'.cell? ⟨gb496,3,none⟩ = some (.int .i64 a0_3)∧w'.cell? ⟨gb496,4,none⟩ = some (.int .i64 aC)∧w'.cell? ⟨gb498,0,none⟩ = some (.int .i64 ((zql lB x7_1).f0))∧w'.cell? ⟨gb498,1,none⟩ = some (.int .i64 ((zql lB x7_1).f1))∧w'.cell? (ad499.add ((((zql lB x7_1).f0)).toNat * 3)) = some (.int .i64 ((zqw lA ((zql lB x7_1).f0)).f0))∧w'.cell? ⟨(ad499.add ((((zql lB x7_1).f0)).toNat * 3)).block,(ad499.add ((((zql lB x7_1).f0)).toNat * 3)).off + 1,none⟩ = some (.int .i64 ((zqw lA ((zql lB x7_1).f0)).f1))∧w'.cell? ⟨(ad499.add ((((zql lB x7_1).f0)).toNat * 3)).block,(ad499.add ((((zql lB x7_1).f0)).toNat * 3)).off + 2,none⟩ = some (.int .i64 ((zqw lA ((zql lB x7_1).f0)).f2))) (ds:=[]) (ba 20 0) (by kernel_rfl) rfl rfl ⟨(zqe BK496.out 0).trans rfl,(zqe BK496.out 1).trans rfl,(zqe BK496.out 2).trans rfl,(zqe BK496.out 3).trans rfl,(zqe BK496.out 4).trans rfl,(zqe BK498.out 0).trans rfl,(zqe BK498.out 1).trans rfl,((HB.out.cell (wbl hw499_0)).trans hw499_0),((HB.out.cell (wbl hw499_1)).trans hw499_1),((HB.out.cell (wbl hw499_2)).trans hw499_2)⟩ (fun hHeld=>?_);refine zve q4_Out.tab6 q4_Out.bits6 (fun HT_ HW_=>?_)
   generalize w15.drew = w16 at HO_6 BK496 BK498 HB hx499_0 hx499_1 hx499_2 hHeld ⊢
   refine pure_ (i:=0) (N:=some 21) (v:=?_) (a':=?_) (ba 20 1) rfl rfl (zqs HT_.out (by kernel_rfl)) (fun _ _ _ h=>h) (Or.inl ⟨by rfl,?_⟩) ?_ ?_
   rotate_left
   ·intro w'
    go_simp
    with_reducible rfl
   rotate_left
   ·simp only [Act.put,NRM]
    rfl
   refine pure_ (i:=1) (N:=some 22) (v:=?_) (a':=?_) (ba 20 3) rfl rfl (zqs HT_.out (by kernel_rfl)) (fun _ _ _ h=>h) (Or.inl ⟨by rfl,?_⟩) ?_ ?_
   rotate_left
   ·intro w'
    go_simp
    with_reducible rfl
   rotate_left
   ·simp only [Act.put,NRM]
    rfl
   refine pure_ (i:=2) (N:=some 23) (v:=?_) (a':=?_) (ba 20 7) rfl rfl (zqs HT_.out (by kernel_rfl)) (fun _ _ _ h=>h) (Or.inl ⟨by rfl,?_⟩) ?_ ?_
   rotate_left
   ·intro w'
    go_simp
    with_reducible rfl
   rotate_left
   ·simp only [Act.put,NRM]
    rfl
   refine pure_ (i:=4) (N:=some 25) (v:=?_) (a':=?_) (ba 20 23) rfl rfl (zqs HT_.out (by kernel_rfl)) (fun _ _ _ h=>h) (Or.inl ⟨by rfl,?_⟩) ?_ ?_
   rotate_left
   ·intro w'
    go_simp
    with_reducible rfl
   rotate_left
   ·simp only [Act.put,NRM]
    rfl
   refine pure_ (i:=9) (N:=some 30) (v:=?_) (a':=?_) (ba 20 535) rfl rfl (zqs HT_.out (by kernel_rfl)) (fun _ _ _ h=>h) (Or.inl ⟨by rfl,?_⟩) ?_ ?_
   rotate_left
   ·intro w'
    go_simp
    with_reducible rfl
   rotate_left
   ·simp only [Act.put,NRM]
    rfl
   refine pure_ (i:=10) (N:=some 31) (v:=?_) (a':=?_) (ba 20 1559) rfl rfl (zqs HT_.out (by kernel_rfl)) (fun _ _ _ h=>h) (Or.inl ⟨by rfl,?_⟩) ?_ ?_
   rotate_left
   ·intro w'
    go_simp
    with_reducible rfl
   rotate_left
   ·simp only [Act.put,NRM]
    rfl
   refine take_ (i:=3) (N:=some 24) (v:=?_) (a':=?_) (ba 20 1567) rfl rfl (zq8 HT_.out HW_.out (by kernel_rfl)) (fun _ _ _ h=>h) (Or.inl ⟨by rfl,?_⟩) hHeld ?_ ?_
   rotate_left
   ·rintro w' ⟨s0,s1,s2,s3,s4,s5,s6,s7,s8,s9⟩
    go_simp
    with_reducible rfl
   rotate_left
   ·simp only [Act.put,NRM]
    rfl
   refine take_ (i:=5) (N:=some 26) (v:=?_) (a':=?_) (ba 20 1599) rfl rfl (zq8 HT_.out HW_.out (by kernel_rfl)) (fun _ _ _ h=>h) (Or.inl ⟨by rfl,?_⟩) hHeld ?_ ?_
   rotate_left
   ·rintro w' ⟨s0,s1,s2,s3,s4,s5,s6,s7,s8,s9⟩
    go_simp
    with_reducible rfl
   rotate_left
   ·simp only [Act.put,NRM]
    rfl
   refine pure_ (i:=6) (N:=some 27) (v:=?_) (a':=?_) (ba 20 1663) rfl rfl (zqs HT_.out (by kernel_rfl)) (fun _ _ _ h=>h) (Or.inl ⟨by rfl,?_⟩) ?_ ?_
   rotate_left
   ·intro w'
    go_simp
    with_reducible rfl
   rotate_left
   ·simp only [Act.put,NRM]
    rfl
   refine pure_ (i:=7) (N:=some 28) (v:=?_) (a':=?_) (ba 20 1791) rfl rfl (zqs HT_.out (by kernel_rfl)) (fun _ _ _ h=>h) (Or.inl ⟨by rfl,?_⟩) ?_ ?_
   rotate_left
   ·intro w'
    go_simp
    with_reducible rfl
   rotate_left
   ·simp only [Act.put,NRM]
    rfl
   refine take_ (i:=8) (N:=some 29) (v:=?_) (a':=?_) (ba 20 2047) rfl rfl (zq8 HT_.out HW_.out (by kernel_rfl)) (fun _ _ _ h=>h) (Or.inl ⟨by rfl,?_⟩) hHeld ?_ ?_
   rotate_left
   ·rintro w' ⟨s0,s1,s2,s3,s4,s5,s6,s7,s8,s9⟩
    go_simp
    with_reducible rfl
   rotate_left
   ·simp only [Act.put,NRM]
    rfl
   refine take_ (i:=11) (N:=some 32) (v:=?_) (a':=?_) (ba 20 4095) rfl rfl (zq8 HT_.out HW_.out (by kernel_rfl)) (fun _ _ _ h=>h) (Or.inl ⟨by rfl,?_⟩) hHeld ?_ ?_
   rotate_left
   ·rintro w' ⟨s0,s1,s2,s3,s4,s5,s6,s7,s8,s9⟩
    go_simp
    with_reducible rfl
   rotate_left
   ·simp only [Act.put,NRM]
    rfl
   refine pure_ (i:=12) (N:=some 33) (v:=?_) (a':=?_) (ba 20 8191) rfl rfl (zqs HT_.out (by kernel_rfl)) (fun _ _ _ h=>h) (Or.inl ⟨by rfl,?_⟩) ?_ ?_
   rotate_left
   ·intro w'
    go_simp
    with_reducible rfl
   rotate_left
   ·simp only [Act.put,NRM]
    rfl
   refine pure_ (i:=13) (N:=some 34) (v:=?_) (a':=?_) (ba 20 16383) rfl rfl (zqs HT_.out (by kernel_rfl)) (fun _ _ _ h=>h) (Or.inl ⟨by rfl,?_⟩) ?_ ?_
   rotate_left
   ·intro w'
    go_simp
    with_reducible rfl
   rotate_left
   ·simp only [Act.put,NRM]
    rfl
   refine pure_ (i:=14) (N:=some 35) (v:=?_) (a':=?_) (ba 20 32767) rfl rfl (zqs HT_.out (by kernel_rfl)) (fun _ _ _ h=>h) (Or.inl ⟨by rfl,?_⟩) ?_ ?_
   rotate_left
   ·intro w'
    go_simp
    with_reducible rfl
   rotate_left
   ·simp only [Act.put,NRM]
    rfl
   refine pure_ (i:=15) (N:=some 36) (v:=?_) (a':=?_) (ba 20 65535) rfl rfl (zqs HT_.out (by kernel_rfl)) (fun _ _ _ h=>h) (Or.inl ⟨by rfl,?_⟩) ?_ ?_
   rotate_left
   ·intro w'
    go_simp
    with_reducible rfl
   rotate_left
   ·simp only [Act.put,NRM]
    rfl
   refine pure_ (i:=16) (N:=some 37) (v:=?_) (a':=?_) (ba 20 131071) rfl rfl (zqs HT_.out (by kernel_rfl)) (fun _ _ _ h=>h) (Or.inl ⟨by rfl,?_⟩) ?_ ?_
   rotate_left
   ·intro w'
    go_simp
    with_reducible rfl
   rotate_left
   ·simp only [Act.put,NRM]
    rfl
   refine one_ (i:=17) (N:=some 38) (ba 20 262143) rfl rfl (zxw HT_.out (by kernel_rfl)) (by decide) (fun K hK=>?_)
   refine value_ (w1:=?_) (v:=?_) (by rfl) rfl ?_ ?_
   rotate_left 2
   ·go_simp
    constructor
    ·rfl
    ·rfl
   refine hK.out _ _ ⟨(zqe (zqg BK496.out _) 0).trans rfl,(zqe (zqg BK496.out _) 1).trans rfl,(zqe (zqg BK496.out _) 2).trans rfl,(zqe (zqg BK496.out _) 3).trans rfl,(zqe (zqg BK496.out _) 4).trans rfl,(zqe (zqg BK498.out _) 0).trans rfl,(zqe (zqg BK498.out _) 1).trans rfl,(World.cell?_alloc_lt _ _ _ (World.block_lt_of_cell? _ _ (((HB.out.cell (wbl hw499_0)).trans hw499_0)))).trans (((HB.out.cell (wbl hw499_0)).trans hw499_0)),(World.cell?_alloc_lt _ _ _ (World.block_lt_of_cell? _ _ (((HB.out.cell (wbl hw499_1)).trans hw499_1)))).trans (((HB.out.cell (wbl hw499_1)).trans hw499_1)),(World.cell?_alloc_lt _ _ _ (World.block_lt_of_cell? _ _ (((HB.out.cell (wbl hw499_2)).trans hw499_2)))).trans (((HB.out.cell (wbl hw499_2)).trans hw499_2))⟩ (fun hHeld=>?_)
   clear hK K
   refine norm_ (a':=?_) ?_ ?_
   rotate_left
   ·show Act.put _ (some 38) _ = _
    simp only [Act.put,NRM]
    rfl
   refine one_ (i:=18) (N:=some 39) (ba 20 524287) rfl rfl (zxw HT_.out (by kernel_rfl)) (by decide) (fun K hK=>?_)
   refine Kd.R_append_step (Kd.int .i64) (w0:=w) w.heap.size (by rfl) (.tmp 21) (.tmp 38) 28 3 (.int .i64 0) 8 rfl Tryz.underlying28 info3 rfl (by decide) (by omega) u6 x6_1 (wrap64 (Int.tdiv (wrap64 (((zqw lA ((zql lB x7_1).f0)).f2) * (ji9))) 5)) [.int .i64 (wrap64 (Int.tdiv (wrap64 (((zqw lA ((zql lB x7_1).f0)).f2) * (ji9))) 5))] (fun _=>True) (fun _=>False) rfl rfl ?aP (fun _ hk=>hk.elim) ?aF ?aO ?aB ?aS ?aL ?_
   (case aP=>exact rfl)
   (case aB=>exact (HB.out))
   (case aF=>exact (fun _ _=>trivial))
   (case aO=>exact HO_6.out)
   (case aS=>exact (zqr (HB.out)))
   (case aL=>have:=LMc10.out;omega)
   intro v501 w17 ho hb hg hat
   rw [← Ny500.out] at ho
   have n0_:=am (zq2 (g:=gb496) (o:=.cells #[.slice (some ad499) lA.length c0_0,.int .i64 aA,.slice (some ad497) lB.length cB,.int .i64 a0_3,.int .i64 aC] 27 (0,0)) BK496.out hg (Kd.R_ne HO_6.out BK496.out (by decide)))
   have n1_:=am (zq2 (g:=gb498) (o:=.cells #[.int .i64 ((zql lB x7_1).f0),.int .i64 ((zql lB x7_1).f1)] 48 (0,0)) BK498.out hg (Kd.R_ne HO_6.out BK498.out (by decide)))
   have n2_:=am (hb)
   have n3_:=am (ho)
   clear BK496
   clear BK498
   clear HB
   clear HO_6
   have BK496:=n0_
   have BK498:=n1_
   have HB:=n2_
   have HO502:=n3_
   clear n0_ n1_ n2_ n3_
   clear ho hb hg hat
   refine hK.out _ _ ⟨(zqe BK496.out 0).trans rfl,(zqe BK496.out 1).trans rfl,(zqe BK496.out 2).trans rfl,(zqe BK496.out 3).trans rfl,(zqe BK496.out 4).trans rfl,(zqe BK498.out 0).trans rfl,(zqe BK498.out 1).trans rfl,((HB.out.cell (wbl hw499_0)).trans hw499_0),((HB.out.cell (wbl hw499_1)).trans hw499_1),((HB.out.cell (wbl hw499_2)).trans hw499_2)⟩ (fun hHeld=>?_)
   clear hK K
   refine norm_ (a':=?_) ?_ ?_
   rotate_left
   ·show Act.put _ (some 39) _ = _
    simp only [Act.put,NRM]
    rfl
   refine pure_ (i:=19) (N:=some 6) (v:=?_) (a':=?_) (ba 20 1048575) rfl rfl (zqs HT_.out (by kernel_rfl)) (fun _ _ _ h=>h) (Or.inl ⟨by rfl,?_⟩) ?_ ?_
   rotate_left
   ·intro w'
    go_simp
    with_reducible rfl
   rotate_left
   ·simp only [Act.put,NRM]
    rfl
   refine done_ (zx4 HT_.out (by kernel_rfl)) ?_
   try go_wp2
   go_roundg k1
   case measure=>have:=HK1.out;omega
   case rel=>exact ⟨(y500),(wrap64 (x7_1 + 1)),(by first | rfl | (simp;done) | (simp [*];done)),H',⟨by have:=HK1.out;omega⟩,⟨by (with_reducible repeat (first | apply Kd.R_alloc | apply Kd.R_drewN | apply Kd.R_drew));exact HO502.out⟩,⟨BK496.out⟩,⟨HB.out⟩⟩
def q4_Total.l0 : Nat→List Int→Int→Int→Option (Int)
 | 0,_,_,_=>none
 | k + 1,x5,x6,x7=>if x7 < (x5.length : Int) then (if 0≤x7 then (q4_Total.l0 k x5 (wrap64 (x6 + (rd x5 x7))) (wrap64 (x7 + 1))) else (none)) else (some x6)
def q4_Total.f (k : Nat) (lA : List (S126)) (aA : Int) (lB : List (S48)) (a0_3 : Int) (aC : Int) (a1 : Int) : Option (Int):=(q4_Out.f k lA aA lB a0_3 aC a1).bind fun bt504=>(q4_Total.l0 k bt504.1 bt504.2 0)
theorem q4_Total.calls (k : Nat) (AX : Option Addr) (c0_0 : Nat) (lA : List (S126)) (aA : Int) (AY : Option Addr) (cB : Nat) (lB : List (S48)) (a0_3 : Int) (aC : Int) (a1 : Int) (r : Int) (w : World) (hra : Kd.C k126 w AX lA.length lA) (hc0_0 : lA.length≤c0_0) (hrb : Kd.C k48 w AY lB.length lB) (hcb : lB.length≤cB) (h : q4_Total.f k lA aA lB a0_3 aC a1 = some r) :
 Calls Tryz.prog 114 #[.agg #[.slice AX lA.length c0_0,.int .i64 aA,.slice AY lB.length cB,.int .i64 a0_3,.int .i64 aC],.int .i64 a1] w fun e w'=>e = .returned (.int .i64 r)∧Below w.heap.size w w':=by
 have hu27:=Tryz.underlying27
 have HRA:=am hra
 have HCA:=am hc0_0
 clear hra hc0_0
 have HRB:=am hrb
 have HCB:=am hcb
 clear hrb hcb
 have HB:=am (Below.refl w.heap.size w)
 have H : ((q4_Out.f k lA aA lB a0_3 aC a1).bind fun bt504=>(q4_Total.l0 k bt504.1 bt504.2 0)) = some r:=h
 clear h
 replace H:=obm H
 obtain ⟨⟨t504,t507⟩,A30,H⟩:=H
 replace H : (q4_Total.l0 k t504 t507 0) = some r:=H
 have A3:=am A30
 clear A30
 replace H':=am H
 go_enter Tryz.func114,Tryz.ntmps114
 go_wp2_with (first | ((refine zqn (N:=2) rfl ?_);refine zqm rfl (N:=2) rfl (cs:=#[.slice AX lA.length c0_0,.int .i64 aA,.slice AY lB.length cB,.int .i64 a0_3,.int .i64 aC]) (t:=27) ?hr ?_;(case hr=>go_simp;try rfl);intro gb503 hg w4 hbox hb;have BK503:=am (hbox);have GW503:=am (zqq (HB.out) hg);have GE503:=am (zqq (HB.out) hg);replace HB:=am (zqb (HB.out) hb);clear hb hbox hg;obtain ⟨hcz5_0,hcz5_1,hcz5_2,hcz5_3,hcz5_4⟩:=cO5 BK503.out) | ((with_reducible refine zqo (f:=44) rfl ?_);refine zq3 (some 11) rfl rfl Tryz.func44 (by kernel_rfl) rfl #[.agg #[.slice AX lA.length c0_0,.int .i64 aA,.slice AY lB.length cB,.int .i64 a0_3,.int .i64 aC],.int .i64 a1] rfl (by (try simp only [List.map_toArray,List.map_cons,List.map_nil]);first | done | rfl | (simp only [List.length_drop,List.length_take];rfl)) ?_;(refine (q4_Out.calls k _ _ lA aA _ _ lB a0_3 aC a1 t504 t507 _ ?side1 ?side2 ?side3 ?side4 A3.out).mono ?_);(case side1=>exact kC HRA.out HB.out);(case side2=>exact HCA.out);(case side3=>exact kC HRB.out HB.out);(case side4=>exact HCB.out);rintro e w6 ⟨v505,rfl,ho0,hb⟩;refine ⟨_,rfl,?_⟩;have HO506:=am (Kd.R_lower ho0 (zqr (HB.out)));replace BK503:=(kmv hb BK503);replace HB:=am (zqb (HB.out) hb);(try clear hb);(try clear hb2);(try clear hk);(try clear hi);(try clear ho0)))
 go_loopg [6,7] k (fun kq v6 v7 w'=>∃ (x6_1 : Int) (x7_1 : Int),v6 = .int .i64 x6_1∧v7 = .int .i64 x7_1∧zqk (q4_Total.l0 kq t504 x6_1 x7_1 = some r)∧zqk (kq≤k)∧zqk (Kd.R (Kd.int .i64) 3 w' w.heap.size (fun _=>True) v505 t504)∧zqk (w'.heap[gb503]? = some (.cells #[(.slice AX lA.length c0_0),.int .i64 aA,(.slice AY lB.length cB),.int .i64 a0_3,.int .i64 aC] 27 (0,0)))∧zqk (Below w.heap.size w w'))
 case atStart=>exact ⟨(t507),(0),(by first | rfl | (simp;done) | (simp [*];done)),(by first | rfl | (simp;done) | (simp [*];done)),H',⟨Nat.le_refl _⟩,⟨by (with_reducible repeat (first | apply Kd.R_alloc | apply Kd.R_drewN | apply Kd.R_drew));exact HO506.out⟩,⟨BK503.out⟩,⟨HB.out⟩⟩
 case round =>
  clear H'
  obtain ⟨x6_1,x7_1,rfl,rfl,HA,HK1,HO_5,BK503,HB⟩:=hrel
  cases gk with
  | zero=>exact absurd HA.out (by simp [q4_Total.l0])
  | succ k1 =>
   have H:=HA.out
   clear HA
   simp only [q4_Total.l0] at H
   by_cases c7 : x7_1 < (t504.length : Int)
   case neg =>
    rw [if_neg c7] at H
    have c7b0 : decide (x7_1 < (t504.length : Int)) = false:=decide_eq_false c7
    clear c7
    obtain rfl:=Option.some.inj H
    obtain ⟨Ao10,co10,eo10⟩:=Kd.R_slice HO_5.out
    subst eo10
    go_wp2
    go_ret
    exact ⟨by first | rfl | (simp [*]<;>rfl),HB.out⟩
   rw [if_pos c7] at H
   have c7b0 : decide (x7_1 < (t504.length : Int)) = true:=decide_eq_true c7
   clear c7
   by_cases c8 : 0≤x7_1
   case neg =>
    rw [if_neg c8] at H
    exact absurd H (by simp)
   rw [if_pos c8] at H
   have c8b0 : decide (0≤x7_1) = true:=decide_eq_true c8
   clear c8
   replace H':=am H
   obtain ⟨Ao9,co9,eo9⟩:=Kd.R_slice HO_5.out
   subst eo9
   have p508 : 0≤(x7_1 : Int):=of_decide_eq_true (by assumption)
   have q508 : x7_1 < (t504.length : Int):=of_decide_eq_true (by assumption)
   obtain ⟨ad508,e508,hx508_0⟩:=Kd.at_int (Kd.R_reads' HO_5.out).2.2 x7_1 p508 q508
   cases e508
   replace p508:=eq_true p508
   replace q508:=eq_true q508
   go_wp2
   go_roundg k1
   case measure=>have:=HK1.out;omega
   case rel=>exact ⟨(wrap64 (x6_1 + (rd t504 x7_1))),(wrap64 (x7_1 + 1)),(by first | rfl | (simp;done) | (simp [*];done)),(by first | rfl | (simp;done) | (simp [*];done)),H',⟨by have:=HK1.out;omega⟩,⟨by (with_reducible repeat (first | apply Kd.R_alloc | apply Kd.R_drewN | apply Kd.R_drew));exact HO_5.out⟩,⟨BK503.out⟩,⟨HB.out⟩⟩
def q4_Stands.l0 : Nat→Int→Int→List (S126)→Int→List (S48)→Int→Int→Option (Int)
 | 0,_,_,_,_,_,_,_=>none
 | k + 1,x1,x5,x510000,x510001,x510002,x510003,x510004=>(q4_Total.f k x510000 x510001 x510002 x510003 x510004 x5).bind fun t510=>(if t510 > x1 then (q4_Stands.l0 k x1 (wrap64 (x5 - 1)) x510000 x510001 x510002 x510003 x510004) else (some x5))
def q4_Stands.f (k : Nat) (lA : List (S126)) (aA : Int) (lB : List (S48)) (a0_3 : Int) (aC : Int) (a1 : Int) : Option (Int):=q4_Stands.l0 k a1 40 lA aA lB a0_3 aC
theorem q4_Stands.calls (k : Nat) (AX : Option Addr) (c0_0 : Nat) (lA : List (S126)) (aA : Int) (AY : Option Addr) (cB : Nat) (lB : List (S48)) (a0_3 : Int) (aC : Int) (a1 : Int) (r : Int) (w : World) (hra : Kd.C k126 w AX lA.length lA) (hc0_0 : lA.length≤c0_0) (hrb : Kd.C k48 w AY lB.length lB) (hcb : lB.length≤cB) (h : q4_Stands.f k lA aA lB a0_3 aC a1 = some r) :
 Calls Tryz.prog 113 #[.agg #[.slice AX lA.length c0_0,.int .i64 aA,.slice AY lB.length cB,.int .i64 a0_3,.int .i64 aC],.int .i64 a1] w fun e w'=>e = .returned (.int .i64 r)∧Below w.heap.size w w':=by
 have hu27:=Tryz.underlying27
 have HRA:=am hra
 have HCA:=am hc0_0
 clear hra hc0_0
 have HRB:=am hrb
 have HCB:=am hcb
 clear hrb hcb
 have HB:=am (Below.refl w.heap.size w)
 have H : (q4_Stands.l0 k a1 40 lA aA lB a0_3 aC) = some r:=h
 clear h
 replace H':=am H
 go_enter Tryz.func113,Tryz.ntmps113
 go_wp2_with (first | ((refine zqn (N:=2) rfl ?_);refine zqm rfl (N:=2) rfl (cs:=#[.slice AX lA.length c0_0,.int .i64 aA,.slice AY lB.length cB,.int .i64 a0_3,.int .i64 aC]) (t:=27) ?hr ?_;(case hr=>go_simp;try rfl);intro gb509 hg w3 hbox hb;have BK509:=am (hbox);have GW509:=am (zqq (HB.out) hg);have GE509:=am (zqq (HB.out) hg);replace HB:=am (zqb (HB.out) hb);clear hb hbox hg))
 go_loopg [5] k (fun kq v5 w'=>∃ (x5_1 : Int),v5 = .int .i64 x5_1∧zqk (q4_Stands.l0 kq a1 x5_1 lA aA lB a0_3 aC = some r)∧zqk (kq≤k)∧zqk (w'.heap[gb509]? = some (.cells #[(.slice AX lA.length c0_0),.int .i64 aA,(.slice AY lB.length cB),.int .i64 a0_3,.int .i64 aC] 27 (0,0)))∧zqk (Below w.heap.size w w'))
 case atStart=>exact ⟨(40),(by first | rfl | (simp;done) | (simp [*];done)),H',⟨Nat.le_refl _⟩,⟨BK509.out⟩,⟨HB.out⟩⟩
 case round =>
  clear H'
  obtain ⟨x5_1,rfl,HA,HK1,BK509,HB⟩:=hrel
  cases gk with
  | zero=>exact absurd HA.out (by simp [q4_Stands.l0])
  | succ k1 =>
   have H:=HA.out
   clear HA
   simp only [q4_Stands.l0] at H
   replace H:=obm H
   obtain ⟨t510,A40,H⟩:=H
   replace H : (if t510 > a1 then (q4_Stands.l0 k1 a1 (wrap64 (x5_1 - 1)) lA aA lB a0_3 aC) else (some x5_1)) = some r:=H
   have A4:=am A40
   clear A40
   by_cases c5 : t510 > a1
   ·rw [if_pos c5] at H
    have c5b0 : decide (a1 < t510) = true:=decide_eq_true c5
    clear c5
    replace H':=am H
    obtain ⟨hcz6_0,hcz6_1,hcz6_2,hcz6_3,hcz6_4⟩:=cO5 BK509.out
    go_wp2_with (first | ((with_reducible refine zqo (f:=114) rfl ?_);refine zq3 (some 8) rfl rfl Tryz.func114 (by kernel_rfl) rfl #[.agg #[.slice AX lA.length c0_0,.int .i64 aA,.slice AY lB.length cB,.int .i64 a0_3,.int .i64 aC],.int .i64 x5_1] rfl (by (try simp only [List.map_toArray,List.map_cons,List.map_nil]);first | done | rfl | (simp only [List.length_drop,List.length_take];rfl)) ?_;(refine (q4_Total.calls k1 _ _ lA aA _ _ lB a0_3 aC x5_1 t510 _ ?side1 ?side2 ?side3 ?side4 A4.out).mono ?_);(case side1=>exact kC HRA.out HB.out);(case side2=>exact HCA.out);(case side3=>exact kC HRB.out HB.out);(case side4=>exact HCB.out);rintro e w7 ⟨rfl,hb⟩;refine ⟨_,rfl,?_⟩;replace BK509:=(kmv hb BK509);replace HB:=am (zqb (HB.out) hb);(try clear hb);(try clear hb2);(try clear hk);(try clear hi)))
    go_roundg k1
    case measure=>have:=HK1.out;omega
    case rel=>exact ⟨(wrap64 (x5_1 - 1)),(by first | rfl | (simp;done) | (simp [*];done)),H',⟨by have:=HK1.out;omega⟩,⟨BK509.out⟩,⟨HB.out⟩⟩
   ·rw [if_neg c5] at H
    have c5b0 : decide (a1 < t510) = false:=decide_eq_false c5
    clear c5
    obtain rfl:=Option.some.inj H
    obtain ⟨hcz8_0,hcz8_1,hcz8_2,hcz8_3,hcz8_4⟩:=cO5 BK509.out
    go_wp2_with (first | ((with_reducible refine zqo (f:=114) rfl ?_);refine zq3 (some 8) rfl rfl Tryz.func114 (by kernel_rfl) rfl #[.agg #[.slice AX lA.length c0_0,.int .i64 aA,.slice AY lB.length cB,.int .i64 a0_3,.int .i64 aC],.int .i64 x5_1] rfl (by (try simp only [List.map_toArray,List.map_cons,List.map_nil]);first | done | rfl | (simp only [List.length_drop,List.length_take];rfl)) ?_;(refine (q4_Total.calls k1 _ _ lA aA _ _ lB a0_3 aC x5_1 t510 _ ?side1 ?side2 ?side3 ?side4 A4.out).mono ?_);(case side1=>exact kC HRA.out HB.out);(case side2=>exact HCA.out);(case side3=>exact kC HRB.out HB.out);(case side4=>exact HCB.out);rintro e w9 ⟨rfl,hb⟩;refine ⟨_,rfl,?_⟩;replace BK509:=(kmv hb BK509);replace HB:=am (zqb (HB.out) hb);(try clear hb);(try clear hb2);(try clear hk);(try clear hi)))
    go_ret
    exact ⟨by first | rfl | (simp [*]<;>rfl),HB.out⟩
end
end Go.Proofs.YtnnmnhpeblhiiaaGreatDoor.C

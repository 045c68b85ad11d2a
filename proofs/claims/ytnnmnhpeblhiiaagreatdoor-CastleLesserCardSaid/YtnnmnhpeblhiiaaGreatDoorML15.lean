/- A part of the proof: the walks of the functions that it reaches. TIGHT. -/
import Derived.Test.YtnnmnhpeblhiiaaGreatDoorML14
import Derived.Laws.EntriesVeiled
import Derived.Outline
set_option linter.unusedSimpArgs false
set_option linter.unusedVariables false
namespace Go.Proofs.YtnnmnhpeblhiiaaGreatDoor.C
open Go.RowKit Go.Proofs.YtnnmnhpeblhiiaaGreatDoorW.PrintWords Go.Proofs.YtnnmnhpeblhiiaaGreatDoorW.PrintLast Go.Proofs.YtnnmnhpeblhiiaaGreatDoorW.PrintMore
set_option maxHeartbeats 16000000
set_option maxRecDepth 100000
def gf_out.f (lA : List S126) (aA : Int) (lB : List S48) (a0_3 aC : Int) (l0_5 : List (List Int)) (a1 : Int) : Option Int:=
 (gf_nozzles.f ((rd_L3 l0_5 a1).length + 1) lA aA lB a0_3 aC l0_5 a1).bind fun x=>(gf_weir.f lA aA lB a0_3 aC l0_5 a1).bind fun y=>some (wrap64 (wrap64 x + y))
theorem gf_out.calls (AX : Option Addr) (c0_0 : Nat) (lA : List S126) (aA : Int) (AY : Option Addr) (cB : Nat) (lB : List S48) (a0_3 aC : Int) (A0_5 : Option Addr) (c0_5 : Nat) (l0_5 : List (List Int)) (a1 : Int) (r : Int) (w : World) (hra : Kd.C k126 w AX lA.length lA) (hc0_0 : lA.length≤c0_0) (hrb : Kd.C k48 w AY lB.length lB) (hcb : lB.length≤cB) (hr0_5 : Kd.C (Kd.slice 3 (Kd.int .i64)) w A0_5 l0_5.length l0_5) (hc0_5 : l0_5.length≤c0_5) (h : gf_out.f lA aA lB a0_3 aC l0_5 a1 = some r) :
 Calls Tryz.prog 109 #[.agg #[.slice AX lA.length c0_0,.int .i64 aA,.slice AY lB.length cB,.int .i64 a0_3,.int .i64 aC,.slice A0_5 l0_5.length c0_5],.int .i64 a1] w fun e w'=>e = .returned (.int .i64 r)∧Below w.heap.size w w':=by
 have hu:=Tryz.underlying110
 have HB:=am (Below.refl w.heap.size w)
 have HR0:=am hra
 have HC0:=am hc0_0
 have HR2:=am hrb
 have HC2:=am hcb
 have HR5:=am hr0_5
 have HC5:=am hc0_5
 clear hra hc0_0 hrb hcb hr0_5 hc0_5
 unfold gf_out.f at h
 obtain ⟨x,hx,h⟩:=obm h
 obtain ⟨y,hy,h⟩:=obm h
 have H1:=am hx
 have H2:=am hy
 have H3:=am (Option.some.inj h)
 clear hx hy h
 go_enter Tryz.func109,Tryz.ntmps109
 go_wp2_with ((refine zqn (N:=2) rfl ?_);(try (refine zqu (by rfl) ?_;dsimp only));refine zqm rfl (N:=2) rfl (cs:=#[.slice AX lA.length c0_0,.int .i64 aA,.slice AY lB.length cB,.int .i64 a0_3,.int .i64 aC,.slice A0_5 l0_5.length c0_5]) (t:=110) ?hr ?_;(case hr=>go_simp;try rfl);intro g hg w2 hbox hb;replace HB:=(bmv HB hb);clear hg;have BKg:=am hbox;clear hbox;(try clear hczg_0 hczg_1 hczg_2 hczg_3 hczg_4 hczg_5);obtain ⟨hczg_0,hczg_1,hczg_2,hczg_3,hczg_4,hczg_5⟩:=cO6 BKg.out;clear hb)
 have hi0 : ∀ W,(Instr.index 178 (.agg #[.func (.func 131) #[.agg #[.slice AX lA.length c0_0,.int .i64 aA,.slice AY lB.length cB,.int .i64 a0_3,.int .i64 aC,.slice A0_5 l0_5.length c0_5]] #[],.func (.func 87) #[.agg #[.slice AX lA.length c0_0,.int .i64 aA,.slice AY lB.length cB,.int .i64 a0_3,.int .i64 aC,.slice A0_5 l0_5.length c0_5]] #[]]) (.int .i64 0)).run Tryz.prog W = .ok (.func (.func 131) #[.agg #[.slice AX lA.length c0_0,.int .i64 aA,.slice AY lB.length cB,.int .i64 a0_3,.int .i64 aC,.slice A0_5 l0_5.length c0_5]] #[]) W:=fun W=>by rfl
 have hi1 : ∀ W,(Instr.index 178 (.agg #[.func (.func 131) #[.agg #[.slice AX lA.length c0_0,.int .i64 aA,.slice AY lB.length cB,.int .i64 a0_3,.int .i64 aC,.slice A0_5 l0_5.length c0_5]] #[],.func (.func 87) #[.agg #[.slice AX lA.length c0_0,.int .i64 aA,.slice AY lB.length cB,.int .i64 a0_3,.int .i64 aC,.slice A0_5 l0_5.length c0_5]] #[]]) (.int .i64 1)).run Tryz.prog W = .ok (.func (.func 87) #[.agg #[.slice AX lA.length c0_0,.int .i64 aA,.slice AY lB.length cB,.int .i64 a0_3,.int .i64 aC,.slice A0_5 l0_5.length c0_5]] #[]) W:=fun W=>by rfl
 go_loopw [6,8,15] (fun v6 v8 v15 w'=>((v6 = .int .i64 0∧v15 = .int .i64 0)∨(v6 = .int .i64 (wrap64 x)∧v15 = .int .i64 1)∨(v6 = .int .i64 (wrap64 (wrap64 x + y))∧v15 = .int .i64 2))∧zqk (Below w.heap.size w w')) (fun _ _ v15 _=>2 - (intOf v15).toNat)
 case atStart=>exact ⟨.inl ⟨rfl,rfl⟩,⟨zqc HB.out _⟩⟩
 case round =>
  obtain ⟨hc,HBr⟩:=hrel
  rcases hc with ⟨rfl,rfl⟩ | ⟨rfl,rfl⟩ | ⟨rfl,rfl⟩
  ·go_wp2_with (go_at_call 131;refine (gf_nozzles.calls _ AX c0_0 lA aA AY cB lB a0_3 aC A0_5 c0_5 l0_5 a1 x _ (kC HR0.out HBr.out) HC0.out (kC HR2.out HBr.out) HC2.out (kC HR5.out HBr.out) HC5.out H1.out).mono ?_;rintro e w3 ⟨rfl,hb⟩)
   go_roundw
   case rel=>exact ⟨.inr (.inl ⟨by simp,by simp⟩),⟨zq0 HBr.out HBr.out.size hb⟩⟩
   case measure=>simp [intOf]
  ·go_wp2_with (go_at_call 87;refine (gf_weir.calls AX c0_0 lA aA AY cB lB a0_3 aC A0_5 c0_5 l0_5 a1 y _ (kC HR0.out HBr.out) HC0.out (kC HR2.out HBr.out) HC2.out (kC HR5.out HBr.out) HC5.out H2.out).mono ?_;rintro e w3 ⟨rfl,hb⟩)
   go_roundw
   case rel=>exact ⟨.inr (.inr ⟨by simp,by simp⟩),⟨zq0 HBr.out HBr.out.size hb⟩⟩
   case measure=>simp [intOf]
  ·go_wp2
   go_ret
   exact ⟨zwi H3.out,HBr.out⟩
def zkp (lA : List S126) (aA : Int) (lB : List S48) (a0_3 aC : Int) (l0_5 : List (List Int)) (a1 : Int) : Nat→Int→Int→Option Int
 | 0,_,out=>some out
 | n + 1,h,out=>(gf_out.f lA aA lB a0_3 aC l0_5 h).bind fun t=>if t > a1 then some out else zkp lA aA lB a0_3 aC l0_5 a1 n (h + 1) h
def gf_level.f (lA : List S126) (aA : Int) (lB : List S48) (a0_3 aC : Int) (l0_5 : List (List Int)) (a1 : Int) : Option Int:=zkp lA aA lB a0_3 aC l0_5 a1 l0_5.length 0 0
theorem gf_level.calls (AX : Option Addr) (c0_0 : Nat) (lA : List S126) (aA : Int) (AY : Option Addr) (cB : Nat) (lB : List S48) (a0_3 aC : Int) (A0_5 : Option Addr) (c0_5 : Nat) (l0_5 : List (List Int)) (a1 : Int) (r : Int) (w : World) (hra : Kd.C k126 w AX lA.length lA) (hc0_0 : lA.length≤c0_0) (hrb : Kd.C k48 w AY lB.length lB) (hcb : lB.length≤cB) (hr0_5 : Kd.C (Kd.slice 3 (Kd.int .i64)) w A0_5 l0_5.length l0_5) (hc0_5 : l0_5.length≤c0_5) (h : gf_level.f lA aA lB a0_3 aC l0_5 a1 = some r) :
 Calls Tryz.prog 85 #[.agg #[.slice AX lA.length c0_0,.int .i64 aA,.slice AY lB.length cB,.int .i64 a0_3,.int .i64 aC,.slice A0_5 l0_5.length c0_5],.int .i64 a1] w fun e w'=>e = .returned (.int .i64 r)∧Below w.heap.size w w':=by
 have hu:=Tryz.underlying110
 have HB:=am (Below.refl w.heap.size w)
 have hm : l0_5.length≤9223372036854775807:=Kd.C_max hr0_5
 have HR0:=am hra
 have HC0:=am hc0_0
 have HR2:=am hrb
 have HC2:=am hcb
 have HR5:=am hr0_5
 have HC5:=am hc0_5
 clear hra hc0_0 hrb hcb hr0_5 hc0_5
 have HQ:=am (show zkp lA aA lB a0_3 aC l0_5 a1 ((l0_5.length : Int) - 0).toNat 0 0 = some r from h)
 clear h
 go_enter Tryz.func85,Tryz.ntmps85
 go_wp2_with ((refine zqn (N:=2) rfl ?_);(try (refine zqu (by rfl) ?_;dsimp only));refine zqm rfl (N:=2) rfl (cs:=#[.slice AX lA.length c0_0,.int .i64 aA,.slice AY lB.length cB,.int .i64 a0_3,.int .i64 aC,.slice A0_5 l0_5.length c0_5]) (t:=110) ?hr ?_;(case hr=>go_simp;try rfl);intro g hg w2 hbox hb;replace HB:=(bmv HB hb);clear hg;have BKg:=am hbox;clear hbox;(try clear hczg_0 hczg_1 hczg_2 hczg_3 hczg_4 hczg_5);obtain ⟨hczg_0,hczg_1,hczg_2,hczg_3,hczg_4,hczg_5⟩:=cO6 BKg.out;clear hb)
 go_step3
 go_wp2
 go_step3
 go_wp2
 go_loopw [5,6,10] (fun v5 v6 v10 w'=>∃ i out : Int,0≤i∧i≤l0_5.length∧v5 = .int .i64 out∧v10 = .int .i64 i∧zqk (zkp lA aA lB a0_3 aC l0_5 a1 ((l0_5.length : Int) - i).toNat i out = some r)∧zqk (Below w.heap.size w w')∧zqk (w'.heap[g]? = some (.cells #[.slice AX lA.length c0_0,.int .i64 aA,.slice AY lB.length cB,.int .i64 a0_3,.int .i64 aC,.slice A0_5 l0_5.length c0_5] 110 (0,0)))) (fun _ _ v10 _=>l0_5.length - (intOf v10).toNat)
 case atStart=>exact ⟨0,0,by omega,by omega,rfl,rfl,HQ,HB,BKg⟩
 case round =>
  clear HQ HB BKg
  obtain ⟨i,out,p1,hi,rfl,rfl,HQ,HB,BKg⟩:=hrel
  by_cases hlt : i < (l0_5.length : Int)
  case neg =>
   go_wp2
   (try rw [Exit.noGoto_ret])
   go_ret
   have hq:=HQ.out
   rw [show ((l0_5.length : Int) - i).toNat = 0 by omega] at hq
   exact ⟨zwi (Option.some.inj hq),HB.out⟩
  have hq:=HQ.out
  rw [show ((l0_5.length : Int) - i).toNat = ((l0_5.length : Int) - (i + 1)).toNat + 1 by omega] at hq
  simp only [zkp] at hq
  obtain ⟨t,ht,hq⟩:=obm hq
  have H1:=am ht
  clear ht HQ
  (try clear hczg_0 hfzg_0);have hczg_0 : wr.cell? ⟨g,0,none⟩ = some (.slice AX lA.length c0_0):=(zqe BKg.out 0).trans rfl;have hfzg_0:=zqd BKg.out 0
  (try clear hczg_1 hfzg_1);have hczg_1 : wr.cell? ⟨g,1,none⟩ = some (.int .i64 aA):=(zqe BKg.out 1).trans rfl;have hfzg_1:=zqd BKg.out 1
  (try clear hczg_2 hfzg_2);have hczg_2 : wr.cell? ⟨g,2,none⟩ = some (.slice AY lB.length cB):=(zqe BKg.out 2).trans rfl;have hfzg_2:=zqd BKg.out 2
  (try clear hczg_3 hfzg_3);have hczg_3 : wr.cell? ⟨g,3,none⟩ = some (.int .i64 a0_3):=(zqe BKg.out 3).trans rfl;have hfzg_3:=zqd BKg.out 3
  (try clear hczg_4 hfzg_4);have hczg_4 : wr.cell? ⟨g,4,none⟩ = some (.int .i64 aC):=(zqe BKg.out 4).trans rfl;have hfzg_4:=zqd BKg.out 4
  (try clear hczg_5 hfzg_5);have hczg_5 : wr.cell? ⟨g,5,none⟩ = some (.slice A0_5 l0_5.length c0_5):=(zqe BKg.out 5).trans rfl;have hfzg_5:=zqd BKg.out 5
  by_cases hgt : t > a1
  ·rw [if_pos hgt] at hq
   have H2:=am (Option.some.inj hq)
   have b1 : decide (a1 < t) = true:=decide_eq_true hgt
   clear hq hgt
   go_wp2_with (go_at_call 109;refine (gf_out.calls AX c0_0 lA aA AY cB lB a0_3 aC A0_5 c0_5 l0_5 i t _ (kC HR0.out HB.out) HC0.out (kC HR2.out HB.out) HC2.out (kC HR5.out HB.out) HC5.out H1.out).mono ?_;rintro e w3 ⟨rfl,hb⟩;have n_:=(kmv hb BKg);have m_:=(bmv HB hb);clear BKg HB hb hczg_0 hczg_1 hczg_2 hczg_3 hczg_4 hczg_5 hfzg_0 hfzg_1 hfzg_2 hfzg_3 hfzg_4 hfzg_5;have BKg:=n_;have HB:=m_;clear n_ m_)
   (try rw [Exit.noGoto_ret])
   go_ret
   exact ⟨zwi H2.out,HB.out⟩
  ·rw [if_neg hgt] at hq
   have H2:=am hq
   have b1 : decide (a1 < t) = false:=decide_eq_false hgt
   clear hq hgt
   go_wp2_with (go_at_call 109;refine (gf_out.calls AX c0_0 lA aA AY cB lB a0_3 aC A0_5 c0_5 l0_5 i t _ (kC HR0.out HB.out) HC0.out (kC HR2.out HB.out) HC2.out (kC HR5.out HB.out) HC5.out H1.out).mono ?_;rintro e w3 ⟨rfl,hb⟩;have n_:=(kmv hb BKg);have m_:=(bmv HB hb);clear BKg HB hb hczg_0 hczg_1 hczg_2 hczg_3 hczg_4 hczg_5 hfzg_0 hfzg_1 hfzg_2 hfzg_3 hfzg_4 hfzg_5;have BKg:=n_;have HB:=m_;clear n_ m_)
   go_roundw
   case rel=>exact ⟨i + 1,i,by omega,by omega,rfl,by go_num,H2,HB,BKg⟩
   case measure=>simp [intOf];omega
section
attribute [local go_sem] zwa zq9 zwf zwe
def gf_shares.l0 : Nat→Int→List Int→Int→List Int→Int→Int→Option (List Int × Int)
 | 0,_,_,_,_,_,_=>none
 | k + 1,x1,x7,x8,x33,x34,x35=>if x35 < x34 then (if 0≤x35 then (if x35 < (x33.length : Int) then (if x35 < (x7.length : Int) then (gf_shares.l0 k x1 (x7.set (x35 : Int).toNat (wrap64 ((rd x7 x35) + (mn x8 (wrap64 ((rd x33 x35) - (rd x7 x35))))))) (wrap64 (x8 - (mn x8 (wrap64 ((rd x33 x35) - (rd x7 x35)))))) x33 x34 (wrap64 (x35 + 1))) else (none)) else (none)) else (none)) else ((ca_sum.f k x7).bind fun t190=>(some (x7,wrap64 (x1 - t190))))
def gf_shares.f (k : Nat) (lA : List (S126)) (aA : Int) (lB : List (S48)) (a0_3 : Int) (aC : Int) (l0_5 : List (List Int)) (a1 : Int) : Option (List Int × Int):=(gf_level.f lA aA lB a0_3 aC l0_5 a1).bind fun t179=>(if 0≤t179 then (if t179 < (l0_5.length : Int) then ((sl_Clone_int.f (rd_L3 l0_5 t179)).bind fun t181=>(if t179 < 40 then ((gf_out.f lA aA lB a0_3 aC l0_5 t179).bind fun t184=>(if 0≤(wrap64 (t179 + 1)) then (if (wrap64 (t179 + 1)) < (l0_5.length : Int) then (gf_shares.l0 k a1 t181 (wrap64 (a1 - t184)) (rd_L3 l0_5 (wrap64 (t179 + 1))) ((rd_L3 l0_5 (wrap64 (t179 + 1))).length : Int) 0) else (none)) else (none))) else ((ca_sum.f k t181).bind fun t191=>(some (t181,wrap64 (a1 - t191)))))) else (none)) else (none))
theorem gf_shares.calls (k : Nat) (AX : Option Addr) (c0_0 : Nat) (lA : List (S126)) (aA : Int) (AY : Option Addr) (cB : Nat) (lB : List (S48)) (a0_3 : Int) (aC : Int) (A0_5 : Option Addr) (c0_5 : Nat) (l0_5 : List (List Int)) (a1 : Int) (r1 : List Int) (r2 : Int) (w : World) (hra : Kd.C k126 w AX lA.length lA) (hc0_0 : lA.length≤c0_0) (hrb : Kd.C k48 w AY lB.length lB) (hcb : lB.length≤cB) (hr0_5 : Kd.C (Kd.slice 3 (Kd.int .i64)) w A0_5 l0_5.length l0_5) (hc0_5 : l0_5.length≤c0_5) (h : gf_shares.f k lA aA lB a0_3 aC l0_5 a1 = some (r1,r2)) :
 Calls Tryz.prog 71 #[.agg #[.slice AX lA.length c0_0,.int .i64 aA,.slice AY lB.length cB,.int .i64 a0_3,.int .i64 aC,.slice A0_5 l0_5.length c0_5],.int .i64 a1] w fun e w'=>∃ v0_ : Value,e = .returned (.tuple #[v0_,.int .i64 r2])∧Kd.R (Kd.int .i64) 3 w' w.heap.size (fun _=>True) v0_ r1∧Below w.heap.size w w':=by
 have hu110:=Tryz.underlying110
 have HRA:=am hra
 have HCA:=am hc0_0
 clear hra hc0_0
 have HRB:=am hrb
 have HCB:=am hcb
 clear hrb hcb
 have HR0_5:=am hr0_5
 have HC0_5:=am hc0_5
 clear hr0_5 hc0_5
 have HB:=am (Below.refl w.heap.size w)
 have H : ((gf_level.f lA aA lB a0_3 aC l0_5 a1).bind fun t179=>(if 0≤t179 then (if t179 < (l0_5.length : Int) then ((sl_Clone_int.f (rd_L3 l0_5 t179)).bind fun t181=>(if t179 < 40 then ((gf_out.f lA aA lB a0_3 aC l0_5 t179).bind fun t184=>(if 0≤(wrap64 (t179 + 1)) then (if (wrap64 (t179 + 1)) < (l0_5.length : Int) then (gf_shares.l0 k a1 t181 (wrap64 (a1 - t184)) (rd_L3 l0_5 (wrap64 (t179 + 1))) ((rd_L3 l0_5 (wrap64 (t179 + 1))).length : Int) 0) else (none)) else (none))) else ((ca_sum.f k t181).bind fun t191=>(some (t181,wrap64 (a1 - t191)))))) else (none)) else (none))) = some (r1,r2):=h
 clear h
 replace H:=obm H
 obtain ⟨t179,A30,H⟩:=H
 replace H : (if 0≤t179 then (if t179 < (l0_5.length : Int) then ((sl_Clone_int.f (rd_L3 l0_5 t179)).bind fun t181=>(if t179 < 40 then ((gf_out.f lA aA lB a0_3 aC l0_5 t179).bind fun t184=>(if 0≤(wrap64 (t179 + 1)) then (if (wrap64 (t179 + 1)) < (l0_5.length : Int) then (gf_shares.l0 k a1 t181 (wrap64 (a1 - t184)) (rd_L3 l0_5 (wrap64 (t179 + 1))) ((rd_L3 l0_5 (wrap64 (t179 + 1))).length : Int) 0) else (none)) else (none))) else ((ca_sum.f k t181).bind fun t191=>(some (t181,wrap64 (a1 - t191)))))) else (none)) else (none)) = some (r1,r2):=H
 have A3:=am A30
 clear A30
 by_cases c4 : 0≤t179
 case neg =>
  rw [if_neg c4] at H
  exact absurd H (by simp)
 rw [if_pos c4] at H
 have c4b0 : decide (0≤t179) = true:=decide_eq_true c4
 clear c4
 by_cases c5 : t179 < (l0_5.length : Int)
 case neg =>
  rw [if_neg c5] at H
  exact absurd H (by simp)
 rw [if_pos c5] at H
 have c5b0 : decide (t179 < (l0_5.length : Int)) = true:=decide_eq_true c5
 clear c5
 replace H:=obm H
 obtain ⟨t181,A60,H⟩:=H
 replace H : (if t179 < 40 then ((gf_out.f lA aA lB a0_3 aC l0_5 t179).bind fun t184=>(if 0≤(wrap64 (t179 + 1)) then (if (wrap64 (t179 + 1)) < (l0_5.length : Int) then (gf_shares.l0 k a1 t181 (wrap64 (a1 - t184)) (rd_L3 l0_5 (wrap64 (t179 + 1))) ((rd_L3 l0_5 (wrap64 (t179 + 1))).length : Int) 0) else (none)) else (none))) else ((ca_sum.f k t181).bind fun t191=>(some (t181,wrap64 (a1 - t191))))) = some (r1,r2):=H
 have A6:=am A60
 clear A60
 by_cases c7 : t179 < 40
 case neg =>
  rw [if_neg c7] at H
  have c7b0 : decide (t179 < 40) = false:=decide_eq_false c7
  clear c7
  replace H:=obm H
  obtain ⟨t191,A310,H⟩:=H
  replace H : (some (t181,wrap64 (a1 - t191))) = some (r1,r2):=H
  have A31:=am A310
  clear A310
  simp only [Option.some.injEq,Prod.mk.injEq] at H
  obtain ⟨rfl,rfl⟩:=H
  go_enter Tryz.func71,Tryz.ntmps71
  go_wp2_with (first | ((refine zqn (N:=2) rfl ?_);refine zqm rfl (N:=2) rfl (cs:=#[.slice AX lA.length c0_0,.int .i64 aA,.slice AY lB.length cB,.int .i64 a0_3,.int .i64 aC,.slice A0_5 l0_5.length c0_5]) (t:=110) ?hr ?_;(case hr=>go_simp;try rfl);intro gb178 hg w32 hbox hb;have BK178:=am (hbox);have GW178:=am (zqq (HB.out) hg);have GE178:=am (zqq (HB.out) hg);replace HB:=am (zqb (HB.out) hb);clear hb hbox hg;obtain ⟨hcz33_0,hcz33_1,hcz33_2,hcz33_3,hcz33_4,hcz33_5⟩:=cO6 BK178.out) | ((with_reducible refine zqo (f:=85) rfl ?_);refine zq3 (some 14) rfl rfl Tryz.func85 (by kernel_rfl) rfl #[.agg #[.slice AX lA.length c0_0,.int .i64 aA,.slice AY lB.length cB,.int .i64 a0_3,.int .i64 aC,.slice A0_5 l0_5.length c0_5],.int .i64 a1] rfl (by (try simp only [List.map_toArray,List.map_cons,List.map_nil]);first | done | rfl | (simp only [List.length_drop,List.length_take];rfl)) ?_;(refine (gf_level.calls _ _ lA aA _ _ lB a0_3 aC _ _ l0_5 a1 t179 _ ?side1 ?side2 ?side3 ?side4 ?side5 ?side6 A3.out).mono ?_);(case side1=>exact kC HRA.out HB.out);(case side2=>exact HCA.out);(case side3=>exact kC HRB.out HB.out);(case side4=>exact HCB.out);(case side5=>exact kC HR0_5.out HB.out);(case side6=>exact HC0_5.out);rintro e w34 ⟨rfl,hb⟩;refine ⟨_,rfl,?_⟩;replace BK178:=(kmv hb BK178);replace HB:=am (zqb (HB.out) hb);(try clear hb);(try clear hb2);(try clear hk);(try clear hi);obtain ⟨hcz35_0,hcz35_1,hcz35_2,hcz35_3,hcz35_4,hcz35_5⟩:=cO6 BK178.out;have p180 : 0≤(t179 : Int):=of_decide_eq_true (by assumption);have q180 : t179 < (l0_5.length : Int):=of_decide_eq_true (by assumption);obtain ⟨ad180,A180_0,c180_0,e180,hx180_0,hl180_0,hi180_0⟩:=at_L3 HR0_5.out t179 p180 q180;cases e180;replace hx180_0:=(HB.out.cell (wbl hx180_0)).trans hx180_0;have HR180_0:=am hi180_0;have HC180_0:=am hl180_0;clear hi180_0 hl180_0;replace p180:=eq_true p180;replace q180:=eq_true q180) | ((with_reducible refine zqo (f:=108) rfl ?_);refine zq3 (some 20) rfl rfl Tryz.func108 (by kernel_rfl) rfl #[.slice A180_0 (rd_L3 l0_5 t179).length c180_0] rfl (by (try simp only [List.map_toArray,List.map_cons,List.map_nil]);first | done | rfl | (simp only [List.length_drop,List.length_take];rfl)) ?_;(refine (sl_Clone_int.calls _ _ (rd_L3 l0_5 t179) t181 _ ?side1 ?side2 A6.out).mono ?_);(case side1=>exact kC HR180_0.out HB.out);(case side2=>exact HC180_0.out);rintro e w36 ⟨v182,rfl,ho0,hb⟩;refine ⟨_,rfl,?_⟩;have HO183:=am (Kd.R_lower ho0 (zqr (HB.out)));replace BK178:=(kmv hb BK178);replace HB:=am (zqb (HB.out) hb);(try clear hb);(try clear hb2);(try clear hk);(try clear hi);(try clear ho0);obtain ⟨Ao37,co37,eo37⟩:=Kd.R_slice HO183.out;subst eo37) | ((with_reducible refine zqo (f:=110) rfl ?_);refine zq3 (some 62) rfl rfl Tryz.func110 (by kernel_rfl) rfl #[.slice Ao37 t181.length co37] rfl (by (try simp only [List.map_toArray,List.map_cons,List.map_nil]);first | done | rfl | (simp only [List.length_drop,List.length_take];rfl)) ?_;(refine (ca_sum.calls k _ _ t181 t191 _ ?side1 ?side2 A31.out).mono ?_);(case side1=>repeat (first | exact (Kd.R_reads' HO183.out).2.2 | (with_reducible refine Kd.C_alloc ?_ _) | (with_reducible refine Kd.C_drewN ?_ _) | (with_reducible refine Kd.C_drew ?_)));(case side2=>exact (Kd.R_reads' HO183.out).2.1);rintro e w' ⟨rfl,⟨nd,rfl⟩⟩;refine ⟨_,rfl,?_⟩))
  go_ret2
  exact ⟨_,by first | rfl | (simp [*]<;>rfl),by (with_reducible repeat (first | apply Kd.R_alloc | apply Kd.R_drewN | apply Kd.R_drew));exact HO183.out,zqa HB.out _⟩
 rw [if_pos c7] at H
 have c7b0 : decide (t179 < 40) = true:=decide_eq_true c7
 clear c7
 replace H:=obm H
 obtain ⟨t184,A80,H⟩:=H
 replace H : (if 0≤(wrap64 (t179 + 1)) then (if (wrap64 (t179 + 1)) < (l0_5.length : Int) then (gf_shares.l0 k a1 t181 (wrap64 (a1 - t184)) (rd_L3 l0_5 (wrap64 (t179 + 1))) ((rd_L3 l0_5 (wrap64 (t179 + 1))).length : Int) 0) else (none)) else (none)) = some (r1,r2):=H
 have A8:=am A80
 clear A80
 obtain ⟨ji9,hji9⟩ : ∃ j_ : Int,(wrap64 (t179 + 1)) = j_:=⟨_,rfl⟩
 replace H : (if 0≤(ji9) then (if (ji9) < (l0_5.length : Int) then (gf_shares.l0 k a1 t181 (wrap64 (a1 - t184)) (rd_L3 l0_5 (ji9)) ((rd_L3 l0_5 (ji9)).length : Int) 0) else (none)) else (none)) = some (r1,r2):=by first | (rw [hji9] at H;exact H) | (simp only [hji9] at H ⊢;exact H)
 (try rw [hji9] at A3)
 (try rw [hji9] at A6)
 (try rw [hji9] at A8)
 have hji9w : (IntKind.i64.wrap (t179 + 1)) = ji9:=(i64_w _).trans hji9
 by_cases c10 : 0≤(ji9)
 case neg =>
  rw [if_neg c10] at H
  exact absurd H (by simp)
 rw [if_pos c10] at H
 have c10b0 : decide (0≤(ji9)) = true:=decide_eq_true c10
 clear c10
 by_cases c11 : (ji9) < (l0_5.length : Int)
 case neg =>
  rw [if_neg c11] at H
  exact absurd H (by simp)
 rw [if_pos c11] at H
 have c11b0 : decide ((ji9) < (l0_5.length : Int)) = true:=decide_eq_true c11
 clear c11
 replace H':=am H
 go_enter Tryz.func71,Tryz.ntmps71
 go_wp2_with (first | ((refine zqn (N:=2) rfl ?_);refine zqm rfl (N:=2) rfl (cs:=#[.slice AX lA.length c0_0,.int .i64 aA,.slice AY lB.length cB,.int .i64 a0_3,.int .i64 aC,.slice A0_5 l0_5.length c0_5]) (t:=110) ?hr ?_;(case hr=>go_simp;try rfl);intro gb178 hg w12 hbox hb;have BK178:=am (hbox);have GW178:=am (zqq (HB.out) hg);have GE178:=am (zqq (HB.out) hg);replace HB:=am (zqb (HB.out) hb);clear hb hbox hg;obtain ⟨hcz13_0,hcz13_1,hcz13_2,hcz13_3,hcz13_4,hcz13_5⟩:=cO6 BK178.out) | ((with_reducible refine zqo (f:=85) rfl ?_);refine zq3 (some 14) rfl rfl Tryz.func85 (by kernel_rfl) rfl #[.agg #[.slice AX lA.length c0_0,.int .i64 aA,.slice AY lB.length cB,.int .i64 a0_3,.int .i64 aC,.slice A0_5 l0_5.length c0_5],.int .i64 a1] rfl (by (try simp only [List.map_toArray,List.map_cons,List.map_nil]);first | done | rfl | (simp only [List.length_drop,List.length_take];rfl)) ?_;(refine (gf_level.calls _ _ lA aA _ _ lB a0_3 aC _ _ l0_5 a1 t179 _ ?side1 ?side2 ?side3 ?side4 ?side5 ?side6 A3.out).mono ?_);(case side1=>exact kC HRA.out HB.out);(case side2=>exact HCA.out);(case side3=>exact kC HRB.out HB.out);(case side4=>exact HCB.out);(case side5=>exact kC HR0_5.out HB.out);(case side6=>exact HC0_5.out);rintro e w14 ⟨rfl,hb⟩;refine ⟨_,rfl,?_⟩;replace BK178:=(kmv hb BK178);replace HB:=am (zqb (HB.out) hb);(try clear hb);(try clear hb2);(try clear hk);(try clear hi);obtain ⟨hcz15_0,hcz15_1,hcz15_2,hcz15_3,hcz15_4,hcz15_5⟩:=cO6 BK178.out;have p180 : 0≤(t179 : Int):=of_decide_eq_true (by assumption);have q180 : t179 < (l0_5.length : Int):=of_decide_eq_true (by assumption);obtain ⟨ad180,A180_0,c180_0,e180,hx180_0,hl180_0,hi180_0⟩:=at_L3 HR0_5.out t179 p180 q180;cases e180;replace hx180_0:=(HB.out.cell (wbl hx180_0)).trans hx180_0;have HR180_0:=am hi180_0;have HC180_0:=am hl180_0;clear hi180_0 hl180_0;replace p180:=eq_true p180;replace q180:=eq_true q180) | ((with_reducible refine zqo (f:=108) rfl ?_);refine zq3 (some 20) rfl rfl Tryz.func108 (by kernel_rfl) rfl #[.slice A180_0 (rd_L3 l0_5 t179).length c180_0] rfl (by (try simp only [List.map_toArray,List.map_cons,List.map_nil]);first | done | rfl | (simp only [List.length_drop,List.length_take];rfl)) ?_;(refine (sl_Clone_int.calls _ _ (rd_L3 l0_5 t179) t181 _ ?side1 ?side2 A6.out).mono ?_);(case side1=>exact kC HR180_0.out HB.out);(case side2=>exact HC180_0.out);rintro e w16 ⟨v182,rfl,ho0,hb⟩;refine ⟨_,rfl,?_⟩;have HO183:=am (Kd.R_lower ho0 (zqr (HB.out)));replace BK178:=(kmv hb BK178);replace HB:=am (zqb (HB.out) hb);(try clear hb);(try clear hb2);(try clear hk);(try clear hi);(try clear ho0);obtain ⟨hcz17_0,hcz17_1,hcz17_2,hcz17_3,hcz17_4,hcz17_5⟩:=cO6 BK178.out) | ((with_reducible refine zqo (f:=109) rfl ?_);refine zq3 (some 26) rfl rfl Tryz.func109 (by kernel_rfl) rfl #[.agg #[.slice AX lA.length c0_0,.int .i64 aA,.slice AY lB.length cB,.int .i64 a0_3,.int .i64 aC,.slice (some ad180) l0_5.length c0_5],.int .i64 t179] rfl (by (try simp only [List.map_toArray,List.map_cons,List.map_nil]);first | done | rfl | (simp only [List.length_drop,List.length_take];rfl)) ?_;(refine (gf_out.calls _ _ lA aA _ _ lB a0_3 aC _ _ l0_5 t179 t184 _ ?side1 ?side2 ?side3 ?side4 ?side5 ?side6 A8.out).mono ?_);(case side1=>exact kC HRA.out HB.out);(case side2=>exact HCA.out);(case side3=>exact kC HRB.out HB.out);(case side4=>exact HCB.out);(case side5=>exact kC HR0_5.out HB.out);(case side6=>exact HC0_5.out);rintro e w18 ⟨rfl,hb⟩;refine ⟨_,rfl,?_⟩;replace HO183:=am (Kd.R_below HO183.out hb);replace BK178:=(kmv hb BK178);replace HB:=am (zqb (HB.out) hb);(try clear hb);(try clear hb2);(try clear hk);(try clear hi);obtain ⟨hcz19_0,hcz19_1,hcz19_2,hcz19_3,hcz19_4,hcz19_5⟩:=cO6 BK178.out;have p185 : 0≤((ji9) : Int):=of_decide_eq_true (by assumption);have q185 : (ji9) < (l0_5.length : Int):=of_decide_eq_true (by assumption);obtain ⟨ad185,A185_0,c185_0,e185,hx185_0,hl185_0,hi185_0⟩:=at_L3 HR0_5.out (ji9) p185 q185;obtain rfl : ad180 = ad185:=(by injection e185);replace hx185_0:=(HB.out.cell (wbl hx185_0)).trans hx185_0;have HR185_0:=am hi185_0;have HC185_0:=am hl185_0;clear hi185_0 hl185_0;replace p185:=eq_true p185;replace q185:=eq_true q185))
 go_loopg [8,35] k (fun kq v8 v35 w'=>∃ (x7_1 : List Int) (x8_1 : Int) (x35_1 : Int),v8 = .int .i64 x8_1∧v35 = .int .i64 x35_1∧zqk (gf_shares.l0 kq a1 x7_1 x8_1 (rd_L3 l0_5 (ji9)) ((rd_L3 l0_5 (ji9)).length : Int) x35_1 = some (r1,r2))∧zqk (kq≤k)∧zqk (Kd.R (Kd.int .i64) 3 w' w.heap.size (fun _=>True) v182 x7_1)∧zqk (w'.heap[gb178]? = some (.cells #[(.slice AX lA.length c0_0),.int .i64 aA,(.slice AY lB.length cB),.int .i64 a0_3,.int .i64 aC,(.slice (some ad180) l0_5.length c0_5)] 110 (0,0)))∧zqk (Below w.heap.size w w'))
 case atStart=>exact ⟨(t181),(wrap64 (a1 - t184)),(0),(by first | rfl | (simp;done) | (simp [*];done)),(by first | rfl | (simp;done) | (simp [*];done)),H',⟨Nat.le_refl _⟩,⟨by (with_reducible repeat (first | apply Kd.R_alloc | apply Kd.R_drewN | apply Kd.R_drew));exact HO183.out⟩,⟨BK178.out⟩,⟨HB.out⟩⟩
 case round =>
  clear H'
  obtain ⟨x7_1,x8_1,x35_1,rfl,rfl,HA,HK1,HO_7,BK178,HB⟩:=hrel
  cases gk with
  | zero=>exact absurd HA.out (by simp [gf_shares.l0])
  | succ k1 =>
   have H:=HA.out
   clear HA
   simp only [gf_shares.l0] at H
   by_cases c20 : x35_1 < ((rd_L3 l0_5 (ji9)).length : Int)
   case neg =>
    rw [if_neg c20] at H
    have c20b0 : decide (x35_1 < ((rd_L3 l0_5 (ji9)).length : Int)) = false:=decide_eq_false c20
    clear c20
    replace H:=obm H
    obtain ⟨t190,A290,H⟩:=H
    replace H : (some (x7_1,wrap64 (a1 - t190))) = some (r1,r2):=H
    have A29:=am A290
    clear A290
    simp only [Option.some.injEq,Prod.mk.injEq] at H
    obtain ⟨rfl,rfl⟩:=H
    obtain ⟨Ao30,co30,eo30⟩:=Kd.R_slice HO_7.out
    subst eo30
    go_wp2_with (first | ((with_reducible refine zqo (f:=110) rfl ?_);refine zq3 (some 62) rfl rfl Tryz.func110 (by kernel_rfl) rfl #[.slice Ao30 x7_1.length co30] rfl (by (try simp only [List.map_toArray,List.map_cons,List.map_nil]);first | done | rfl | (simp only [List.length_drop,List.length_take];rfl)) ?_;(refine (ca_sum.calls k1 _ _ x7_1 t190 _ ?side1 ?side2 A29.out).mono ?_);(case side1=>repeat (first | exact (Kd.R_reads' HO_7.out).2.2 | (with_reducible refine Kd.C_alloc ?_ _) | (with_reducible refine Kd.C_drewN ?_ _) | (with_reducible refine Kd.C_drew ?_)));(case side2=>exact (Kd.R_reads' HO_7.out).2.1);rintro e w' ⟨rfl,⟨nd,rfl⟩⟩;refine ⟨_,rfl,?_⟩))
    go_ret2
    exact ⟨_,by first | rfl | (simp [errW_none,errW_some]<;>rfl) | (simp only [← hji9];first | rfl | (simp [errW_none,errW_some]<;>rfl)) | (simp [*,errW_none,errW_some]<;>rfl),by (with_reducible repeat (first | apply Kd.R_alloc | apply Kd.R_drewN | apply Kd.R_drew));exact HO_7.out,zqa HB.out _⟩
   rw [if_pos c20] at H
   have c20b0 : decide (x35_1 < ((rd_L3 l0_5 (ji9)).length : Int)) = true:=decide_eq_true c20
   clear c20
   by_cases c21 : 0≤x35_1
   case neg =>
    rw [if_neg c21] at H
    exact absurd H (by simp)
   rw [if_pos c21] at H
   have c21b0 : decide (0≤x35_1) = true:=decide_eq_true c21
   clear c21
   by_cases c22 : x35_1 < ((rd_L3 l0_5 (ji9)).length : Int)
   case neg =>
    rw [if_neg c22] at H
    exact absurd H (by simp)
   rw [if_pos c22] at H
   have c22b0 : decide (x35_1 < ((rd_L3 l0_5 (ji9)).length : Int)) = true:=decide_eq_true c22
   clear c22
   by_cases c23 : x35_1 < (x7_1.length : Int)
   case neg =>
    rw [if_neg c23] at H
    exact absurd H (by simp)
   rw [if_pos c23] at H
   have c23b0 : decide (x35_1 < (x7_1.length : Int)) = true:=decide_eq_true c23
   clear c23
   obtain ⟨ji24,hji24⟩ : ∃ j_ : Int,(mn x8_1 (wrap64 ((rd (rd_L3 l0_5 (ji9)) x35_1) - (rd x7_1 x35_1)))) = j_:=⟨_,rfl⟩
   replace H : (gf_shares.l0 k1 a1 (x7_1.set (x35_1 : Int).toNat (wrap64 ((rd x7_1 x35_1) + (ji24)))) (wrap64 (x8_1 - (ji24))) (rd_L3 l0_5 (ji9)) ((rd_L3 l0_5 (ji9)).length : Int) (wrap64 (x35_1 + 1))) = some (r1,r2):=by first | (rw [hji24] at H;exact H) | (simp only [hji24] at H ⊢;exact H)
   have hji24_ : (if (wrap64 ((rd (rd_L3 l0_5 (ji9)) x35_1) - (rd x7_1 x35_1))) < x8_1 then (wrap64 ((rd (rd_L3 l0_5 (ji9)) x35_1) - (rd x7_1 x35_1))) else x8_1) = ji24:=hji24
   obtain ⟨y189,hy189⟩ : ∃ y_ : List Int,y_ = (x7_1.set (x35_1 : Int).toNat (wrap64 ((rd x7_1 x35_1) + (ji24)))):=⟨_,rfl⟩
   replace H : (gf_shares.l0 k1 a1 y189 (wrap64 (x8_1 - (ji24))) (rd_L3 l0_5 (ji9)) ((rd_L3 l0_5 (ji9)).length : Int) (wrap64 (x35_1 + 1))) = some (r1,r2):=by first | (rw [hy189];with_reducible exact H) | (have H2_:=(Option.bind_some _ _).symm.trans H;rw [hy189];with_reducible exact H2_) | (have H2_:=(Option.bind_some _ _).symm.trans H;with_reducible exact H2_) | with_reducible exact H | (rw [hy189];exact H) | exact H
   have Ny189:=am hy189
   clear hy189
   replace H':=am H
   have p186 : 0≤(x35_1 : Int):=of_decide_eq_true (by assumption)
   have q186 : x35_1 < ((rd_L3 l0_5 (ji9)).length : Int):=of_decide_eq_true (by assumption)
   obtain ⟨ad186,e186,hx186_0⟩:=Kd.at_int HR185_0.out x35_1 p186 q186
   cases e186
   replace hx186_0:=(HB.out.cell (wbl hx186_0)).trans hx186_0
   replace p186:=eq_true p186
   replace q186:=eq_true q186
   obtain ⟨Ao26,co26,eo26⟩:=Kd.R_slice HO_7.out
   subst eo26
   have p187 : 0≤(x35_1 : Int):=of_decide_eq_true (by assumption)
   have q187 : x35_1 < (x7_1.length : Int):=of_decide_eq_true (by assumption)
   obtain ⟨ad187,e187,hx187_0⟩:=Kd.at_int (Kd.R_reads' HO_7.out).2.2 x35_1 p187 q187
   cases e187
   replace p187:=eq_true p187
   replace q187:=eq_true q187
   have p188 : 0≤(x35_1 : Int):=of_decide_eq_true (by assumption)
   have q188 : x35_1 < (x7_1.length : Int):=of_decide_eq_true (by assumption)
   obtain ⟨ad188,e188,hx188_0⟩:=Kd.at_int (Kd.R_reads' HO_7.out).2.2 x35_1 p188 q188
   obtain rfl : ad187 = ad188:=(by injection e188)
   replace p188:=eq_true p188
   replace q188:=eq_true q188
   have p25 : 0≤(x35_1 : Int):=of_decide_eq_true (by assumption)
   have q25 : (x35_1 : Int) < ((x7_1.length : Int) : Int):=of_decide_eq_true (by assumption)
   obtain ⟨go25,co25,eo25,gb25,gl25,cl25,HG25⟩:=Kd.R_form HO_7.out (by omega)
   (first | cases eo25 | (injection eo25 with ea_ en_ ec_;(first | subst ea_ | (injection ea_ with ea_;subst ea_));subst ec_;clear en_))
   have GB25:=am gb25
   have GG25:=am HG25
   clear gb25 gl25 HG25
   (first | simp only [zxg] at hx187_0 | skip)
   (first | simp only [zxg] at hx188_0 | skip)
   obtain ⟨hx25_0,hf25_0⟩:=Kd.R_celln 0 HO_7.out (x35_1 : Int) p25 q25
   replace p25:=eq_true p25
   replace q25:=eq_true q25
   have HP27:=Kd.R_putg HO_7.out (x35_1 : Int) (wrap64 ((rd x7_1 x35_1) + (ji24)))
   go_wp2_with (first | ((with_reducible refine zxb (t:=3) (p:=54) rfl ?_);refine zvt (t:=3) (p:=54) (v:=?vo_w28) (w1:=(wr.setCell ⟨go25,(x35_1 : Int).toNat,none⟩ (.int .i64 (wrap64 ((rd x7_1 x35_1) + (ji24)))))) ?hg ?ho ?hn ?hr ?_;(case ho=>rfl);(case hg=>rfl);(case hn=>rfl);(case hr=>go_simp;try rfl);intro w28 hw;have hg : wr.grownBy w28 (some go25):=(by rw [hw];exact HP27.2);have hp_ : Kd.R (Kd.int .i64) 3 w28 w.heap.size (fun _=>True) (.slice (some ⟨go25,0,none⟩) x7_1.length co26) y189:=(by rw [hw,Ny189.out];exact HP27.1);clear HP27;have n0_:=am (hp_);have n1_:=am (zq2 (g:=gb178) (o:=.cells #[.slice AX lA.length c0_0,.int .i64 aA,.slice AY lB.length cB,.int .i64 a0_3,.int .i64 aC,.slice (some ad180) l0_5.length c0_5] 110 (0,0)) BK178.out hg (Kd.R_ne HO_7.out BK178.out (by decide)));have n2_:=am ((by rw [hw];exact zqf (HB.out) GB25.out : Below w.heap.size w w28));clear HO_7;clear BK178;clear HB;have HO_7:=n0_;have BK178:=n1_;have HB:=n2_;clear n0_ n1_ n2_;clear hg hw hp_))
   go_roundg k1
   case measure=>have:=HK1.out;omega
   case rel=>exact ⟨(y189),(wrap64 (x8_1 - (ji24))),(wrap64 (x35_1 + 1)),(by first | rfl | (simp;done) | (simp only [← hji24]<;>(first | rfl | simp)) | (simp [*];done)),(by first | rfl | (simp;done) | (simp [*];done)),H',⟨by have:=HK1.out;omega⟩,⟨by (with_reducible repeat (first | apply Kd.R_alloc | apply Kd.R_drewN | apply Kd.R_drew));exact HO_7.out⟩,⟨BK178.out⟩,⟨HB.out⟩⟩
end
def zbo (g : Nat) (q : S48→Option Bool) (w : World) (xs : List S48) : Prop:=∀ (x : S48) (b : Bool) (W : World) ,x ∈ xs→q x = some b→Below w.heap.size w W→
 Calls Tryz.prog 102 #[.agg #[.int .i64 x.f0,.int .i64 x.f1],.pointer (some ⟨g,0,none⟩)] W fun e W'=>e = .returned (.bool b)∧Below W.heap.size W W'
theorem idx_isBasin (g : Nat) (q : S48→Option Bool) (A : Option Addr) (c : Nat) (xs : List S48) (r : Int) (w : World) (hr : Kd.C k48 w A xs.length xs) (hp : zbo g q w xs) (h : idxM q xs 0 = some r) :
 Calls Tryz.prog 128 #[.slice A xs.length c,.func (.func 102) #[] #[.pointer (some ⟨g,0,none⟩)]] w fun e w'=>e = .returned (.int .i64 r)∧Below w.heap.size w w':=by
 have huE:=Tryz.underlying48
 have HR:=am hr
 have HP:=am hp
 have HQ:=am (show idxM q (xs.drop (0 : Int).toNat) 0 = some r from h)
 have hm : xs.length≤9223372036854775807:=Kd.C_max hr
 clear hr hp h
 go_enter Tryz.func128,Tryz.ntmps128
 go_wp2
 go_loopw [5,8] (fun v5 v8 w'=>∃ i : Int,0≤i∧i≤xs.length∧v8 = .int .i64 i∧zqk (idxM q (xs.drop i.toNat) i = some r)∧zqk (Below w.heap.size w w')) (fun _ v8 _=>xs.length - (intOf v8).toNat)
 case atStart=>exact ⟨0,by omega,by omega,rfl,HQ,⟨Below.refl _ _⟩⟩
 case round =>
  clear HQ
  obtain ⟨i,p1,hi,rfl,HQ,HB⟩:=hrel
  by_cases hlt : i < (xs.length : Int)
  case neg =>
   go_wp2
   go_ret
   exact ⟨zwi (zbp (by omega) HQ.out),HB.out⟩
  obtain ⟨ad,e1,hx0,hx1⟩:=zvi HR.out i p1 hlt
  cases e1
  replace hx0:=(HB.out.cell (wbl hx0)).trans hx0
  replace hx1:=(HB.out.cell (wbl hx1)).trans hx1
  rcases zjd z48 p1 hlt HQ.out with ⟨hq,he⟩ | ⟨hq,hn⟩
  ·have H1:=am hq
   have X1:=am (zwz z48 p1 hlt)
   have H2:=am he
   clear hq he
   go_wp2_with (go_at_call 102;refine (HP.out (xs.getD i.toNat z48) _ _ X1.out H1.out HB.out).mono ?_;rintro e W' ⟨rfl,hb⟩)
   go_ret
   exact ⟨zwi H2.out,zq0 HB.out HB.out.size hb⟩
  ·have H1:=am hq
   have X1:=am (zwz z48 p1 hlt)
   have H2:=am hn
   clear hq hn
   go_wp2_with (go_at_call 102;refine (HP.out (xs.getD i.toNat z48) _ _ X1.out H1.out HB.out).mono ?_;rintro e W' ⟨rfl,hb⟩)
   go_roundw
   case rel=>exact ⟨i + 1,by omega,by omega,by go_num,H2,⟨zq0 HB.out HB.out.size hb⟩⟩
   case measure=>simp [intOf];omega
theorem any_isBasin (g : Nat) (q : S48→Option Bool) (A : Option Addr) (c : Nat) (xs : List S48) (r : Bool) (w : World) (hr : Kd.C k48 w A xs.length xs) (hp : zbo g q w xs) (h : anyM q xs = some r) :
 Calls Tryz.prog 104 #[.slice A xs.length c,.func (.func 102) #[] #[.pointer (some ⟨g,0,none⟩)]] w fun e w'=>e = .returned (.bool r)∧Below w.heap.size w w':=by
 obtain ⟨j,hj,hd⟩:=zvg q xs 0 r (by omega) h
 have H1:=am hj
 have H2:=am hd
 have HR:=am hr
 have HP:=am hp
 clear hr hp h hj hd
 go_enter Tryz.func104,Tryz.ntmps104
 go_wp2_with (go_at_call 128;refine (idx_isBasin g q _ _ xs j _ HR.out HP.out H1.out).mono ?_;rintro e W' ⟨rfl,hb⟩)
 go_ret
 exact ⟨zvu H2.out,hb⟩
section
attribute [local go_sem] zwa zq9 zwf zwe
def nz_Check.f (lA : List (S126)) (aA : Int) : Option (Int):=(nz_isTable.f lA aA).bind fun t136=>(if t136 = true then (some 0) else (some 2))
theorem nz_Check.calls (AX : Option Addr) (c0_0 : Nat) (lA : List (S126)) (aA : Int) (r : Int) (w : World) (hra : Kd.C k126 w AX lA.length lA) (hc0_0 : lA.length≤c0_0) (h : nz_Check.f lA aA = some r) :
 Calls Tryz.prog 103 #[.agg #[.slice AX lA.length c0_0,.int .i64 aA]] w fun e w'=>e = .returned (.int .i64 r)∧Below w.heap.size w w':=by
 have hu24:=Tryz.underlying24
 have HRA:=am hra
 have HCA:=am hc0_0
 clear hra hc0_0
 have HB:=am (Below.refl w.heap.size w)
 have H : ((nz_isTable.f lA aA).bind fun t136=>(if t136 = true then (some 0) else (some 2))) = some r:=h
 clear h
 replace H:=obm H
 obtain ⟨t136,A20,H⟩:=H
 replace H : (if t136 = true then (some 0) else (some 2)) = some r:=H
 have A2:=am A20
 clear A20
 by_cases c3 : t136 = true
 ·subst c3
  replace H : (some 0) = some r:=by rw [if_pos rfl] at H;exact H
  obtain rfl:=Option.some.inj H
  go_enter Tryz.func103,Tryz.ntmps103
  go_wp2_with (first | ((refine zqn (N:=1) rfl ?_);refine zqm rfl (N:=1) rfl (cs:=#[.slice AX lA.length c0_0,.int .i64 aA]) (t:=24) ?hr ?_;(case hr=>go_simp;try rfl);intro gb135 hg w4 hbox hb;have BK135:=am (hbox);have GW135:=am (zqq (HB.out) hg);have GE135:=am (zqq (HB.out) hg);replace HB:=am (zqb (HB.out) hb);clear hb hbox hg;obtain ⟨hcz5_0,hcz5_1⟩:=cO2 BK135.out) | ((with_reducible refine zqo (f:=127) rfl ?_);refine zq3 (some 4) rfl rfl Tryz.func127 (by kernel_rfl) rfl #[.agg #[.slice AX lA.length c0_0,.int .i64 aA]] rfl (by (try simp only [List.map_toArray,List.map_cons,List.map_nil]);first | done | rfl | (simp only [List.length_drop,List.length_take];rfl)) ?_;(refine (nz_isTable.calls _ _ lA aA true _ ?side1 ?side2 A2.out).mono ?_);(case side1=>exact kC HRA.out HB.out);(case side2=>exact HCA.out);rintro e w6 ⟨rfl,hb⟩;refine ⟨_,rfl,?_⟩;replace BK135:=(kmv hb BK135);replace HB:=am (zqb (HB.out) hb);(try clear hb);(try clear hb2);(try clear hk);(try clear hi)))
  go_ret
  exact ⟨by first | rfl | (simp [*]<;>rfl),HB.out⟩
 ·replace c3:=Bool.eq_false_iff.mpr c3
  subst c3
  replace H : (some 2) = some r:=by rw [if_neg (show ¬ (false = true) by decide)] at H;exact H
  obtain rfl:=Option.some.inj H
  go_enter Tryz.func103,Tryz.ntmps103
  go_wp2_with (first | ((refine zqn (N:=1) rfl ?_);refine zqm rfl (N:=1) rfl (cs:=#[.slice AX lA.length c0_0,.int .i64 aA]) (t:=24) ?hr ?_;(case hr=>go_simp;try rfl);intro gb135 hg w7 hbox hb;have BK135:=am (hbox);have GW135:=am (zqq (HB.out) hg);have GE135:=am (zqq (HB.out) hg);replace HB:=am (zqb (HB.out) hb);clear hb hbox hg;obtain ⟨hcz8_0,hcz8_1⟩:=cO2 BK135.out) | ((with_reducible refine zqo (f:=127) rfl ?_);refine zq3 (some 4) rfl rfl Tryz.func127 (by kernel_rfl) rfl #[.agg #[.slice AX lA.length c0_0,.int .i64 aA]] rfl (by (try simp only [List.map_toArray,List.map_cons,List.map_nil]);first | done | rfl | (simp only [List.length_drop,List.length_take];rfl)) ?_;(refine (nz_isTable.calls _ _ lA aA false _ ?side1 ?side2 A2.out).mono ?_);(case side1=>exact kC HRA.out HB.out);(case side2=>exact HCA.out);rintro e w9 ⟨rfl,hb⟩;refine ⟨_,rfl,?_⟩;replace BK135:=(kmv hb BK135);replace HB:=am (zqb (HB.out) hb);(try clear hb);(try clear hb2);(try clear hk);(try clear hi)))
  go_ret
  exact ⟨by first | rfl | (simp [*]<;>rfl),HB.out⟩
def ca_isHeight.f (a0 : Int) : Option (Bool):=(ca_in.f a0 0 40).bind fun t130=>(some t130)
theorem ca_isHeight.calls (a0 : Int) (r : Bool) (w : World) (h : ca_isHeight.f a0 = some r) :
 Calls Tryz.prog 86 #[.int .i64 a0] w fun e w'=>e = .returned (.bool r)∧zqt w w':=by
 have H : ((ca_in.f a0 0 40).bind fun t130=>(some t130)) = some r:=h
 clear h
 replace H:=obm H
 obtain ⟨t130,A20,H⟩:=H
 replace H : (some t130) = some r:=H
 have A2:=am A20
 clear A20
 obtain rfl:=Option.some.inj H
 go_enter Tryz.func86,Tryz.ntmps86
 go_wp2_with (first | ((with_reducible refine zqo (f:=79) rfl ?_);refine zq3 (some 4) rfl rfl Tryz.func79 (by kernel_rfl) rfl #[.int .i64 a0,.int .i64 0,.int .i64 40] rfl (by (try simp only [List.map_toArray,List.map_cons,List.map_nil]);first | done | rfl | (simp only [List.length_drop,List.length_take];rfl)) ?_;(with_reducible refine (ca_in.calls a0 0 40 t130 _ A2.out).mono ?_);rintro e w' ⟨rfl,⟨nd,rfl⟩⟩;refine ⟨_,rfl,?_⟩))
 go_ret
 exact ⟨by first | rfl | (simp;done) | (simp [*];done),by repeat (first | exact zqt.refl _ | apply zqt.step)⟩
end
def ca_isBasin_1.f (lA : List S126) (x : S48) : Option Bool:=(ca_in.f x.f0 0 (wrap64 ((lA.length : Int) - 1))).bind fun t=>if t = true then (ca_isHeight.f x.f1).bind fun u=>some (!u) else some true
theorem ca_isBasin_1.calls (g : Nat) (AX : Option Addr) (c0_0 : Nat) (lA : List S126) (aA : Int) (AY : Option Addr) (cB : Nat) (lB : List S48) (a0_3 aC : Int) (x : S48) (r : Bool) (w : World) (hb : w.heap[g]? = some (.cells #[.slice AX lA.length c0_0,.int .i64 aA,.slice AY lB.length cB,.int .i64 a0_3,.int .i64 aC] 27 (0,0))) (h : ca_isBasin_1.f lA x = some r) :
 Calls Tryz.prog 102 #[.agg #[.int .i64 x.f0,.int .i64 x.f1],.pointer (some ⟨g,0,none⟩)] w fun e w'=>e = .returned (.bool r)∧Below w.heap.size w w':=by
 have hu:=Tryz.underlying27
 have huz:=Tryz.underlying48
 have hut:=Tryz.underlying24
 have HB:=am (Below.refl w.heap.size w)
 have BKg:=am hb
 clear hb
 unfold ca_isBasin_1.f at h
 obtain ⟨t,ht,h⟩:=obm h
 have H1:=am ht
 clear ht
 cases t with
 | true =>
  rw [if_pos rfl] at h
  obtain ⟨u,hu2,h⟩:=obm h
  obtain rfl:=Option.some.inj h
  have H2:=am hu2
  clear hu2 h
  go_enter Tryz.func102,Tryz.ntmps102
  go_wp2_with (first | ((refine zqn (N:=2) rfl ?_);(try (refine zqu (by rfl) ?_;dsimp only));refine zqm rfl (N:=2) rfl (cs:=#[.int .i64 x.f0,.int .i64 x.f1]) (t:=48) ?hr ?_;(case hr=>go_simp;try rfl);intro q hg w2 hbox hb;replace HB:=(bmv HB hb);replace BKg:=(kmv hb BKg);clear hg;have BKq:=am hbox;clear hbox;(try clear hczg_0 hczg_1 hczg_2 hczg_3 hczg_4);obtain ⟨hczg_0,hczg_1,hczg_2,hczg_3,hczg_4⟩:=cO5 BKg.out;(try clear hczq_0 hczq_1);obtain ⟨hczq_0,hczq_1⟩:=cO2 BKq.out;clear hb) | (go_at_call 79;(with_reducible refine (ca_in.calls x.f0 0 (wrap64 ((lA.length : Int) - 1)) true _ H1.out).mono ?_);rintro e w1 ⟨rfl,hd⟩;have hb:=hd.below;clear hd;replace HB:=(bmv HB hb);replace BKg:=(kmv hb BKg);replace BKq:=(kmv hb BKq);(try clear hczg_0 hczg_1 hczg_2 hczg_3 hczg_4);obtain ⟨hczg_0,hczg_1,hczg_2,hczg_3,hczg_4⟩:=cO5 BKg.out;(try clear hczq_0 hczq_1);obtain ⟨hczq_0,hczq_1⟩:=cO2 BKq.out;clear hb) | (go_at_call 86;(with_reducible refine (ca_isHeight.calls x.f1 u _ H2.out).mono ?_);rintro e w1 ⟨rfl,hd⟩;have hb:=hd.below;clear hd;replace HB:=(bmv HB hb);replace BKg:=(kmv hb BKg);replace BKq:=(kmv hb BKq);(try clear hczg_0 hczg_1 hczg_2 hczg_3 hczg_4);obtain ⟨hczg_0,hczg_1,hczg_2,hczg_3,hczg_4⟩:=cO5 BKg.out;(try clear hczq_0 hczq_1);obtain ⟨hczq_0,hczq_1⟩:=cO2 BKq.out;clear hb))
  go_ret
  exact ⟨rfl,HB.out⟩
 | false =>
  rw [if_neg (by decide)] at h
  obtain rfl:=Option.some.inj h
  clear h
  go_enter Tryz.func102,Tryz.ntmps102
  go_wp2_with (first | ((refine zqn (N:=2) rfl ?_);(try (refine zqu (by rfl) ?_;dsimp only));refine zqm rfl (N:=2) rfl (cs:=#[.int .i64 x.f0,.int .i64 x.f1]) (t:=48) ?hr ?_;(case hr=>go_simp;try rfl);intro q hg w2 hbox hb;replace HB:=(bmv HB hb);replace BKg:=(kmv hb BKg);clear hg;have BKq:=am hbox;clear hbox;(try clear hczg_0 hczg_1 hczg_2 hczg_3 hczg_4);obtain ⟨hczg_0,hczg_1,hczg_2,hczg_3,hczg_4⟩:=cO5 BKg.out;(try clear hczq_0 hczq_1);obtain ⟨hczq_0,hczq_1⟩:=cO2 BKq.out;clear hb) | (go_at_call 79;(with_reducible refine (ca_in.calls x.f0 0 (wrap64 ((lA.length : Int) - 1)) false _ H1.out).mono ?_);rintro e w1 ⟨rfl,hd⟩;have hb:=hd.below;clear hd;replace HB:=(bmv HB hb);replace BKg:=(kmv hb BKg);replace BKq:=(kmv hb BKq);(try clear hczg_0 hczg_1 hczg_2 hczg_3 hczg_4);obtain ⟨hczg_0,hczg_1,hczg_2,hczg_3,hczg_4⟩:=cO5 BKg.out;(try clear hczq_0 hczq_1);obtain ⟨hczq_0,hczq_1⟩:=cO2 BKq.out;clear hb))
  go_ret
  exact ⟨rfl,HB.out⟩
def ca_isBasin.f (lA : List S126) (aA : Int) (lB : List S48) (a0_3 aC : Int) : Option Bool:=
 (nz_Check.f lA aA).bind fun t1=>if t1 = 0 then (ca_in.f (lB.length : Int) 1 6).bind fun t2=>(if t2 = true then (ca_isHeight.f a0_3).bind fun t3=>(if t3 = true then (ca_in.f aC 0 100).bind fun t4=>(if t4 = true then (anyM (ca_isBasin_1.f lA) lB).bind fun u=>some (!u) else some false) else some false) else some false) else some false
theorem ca_isBasin.calls (AX : Option Addr) (c0_0 : Nat) (lA : List S126) (aA : Int) (AY : Option Addr) (cB : Nat) (lB : List S48) (a0_3 aC : Int) (r : Bool) (w : World) (hra : Kd.C k126 w AX lA.length lA) (hc0_0 : lA.length≤c0_0) (hrb : Kd.C k48 w AY lB.length lB) (hcb : lB.length≤cB) (h : ca_isBasin.f lA aA lB a0_3 aC = some r) :
 Calls Tryz.prog 64 #[.agg #[.slice AX lA.length c0_0,.int .i64 aA,.slice AY lB.length cB,.int .i64 a0_3,.int .i64 aC]] w fun e w'=>e = .returned (.bool r)∧Below w.heap.size w w':=by
 have hu:=Tryz.underlying27
 have hut:=Tryz.underlying24
 have hm : lB.length≤9223372036854775807:=Kd.C_max hrb
 have HR:=am hra
 have HC:=am hc0_0
 have HR2:=am hrb
 have HC2:=am hcb
 have HB:=am (Below.refl w.heap.size w)
 clear hra hc0_0 hrb hcb
 unfold ca_isBasin.f at h
 obtain ⟨t1,ht,h⟩:=obm h
 have H1:=am ht
 clear ht
 by_cases h1 : t1 = 0
 case neg =>
  rw [if_neg h1] at h
  obtain rfl:=Option.some.inj h
  clear h
  have b1 : (t1 == 0) = false:=beq_eq_false_iff_ne.2 h1
  clear h1
  go_enter Tryz.func64,Tryz.ntmps64
  go_wp2_with (first | ((refine zqn (N:=1) rfl ?_);(try (refine zqu (by rfl) ?_;dsimp only));refine zqm rfl (N:=1) rfl (cs:=#[.slice AX lA.length c0_0,.int .i64 aA,.slice AY lB.length cB,.int .i64 a0_3,.int .i64 aC]) (t:=27) ?hr ?_;(case hr=>go_simp;try rfl);intro g hg w2 hbox hb;replace HR:=(cmv HR hb);replace HR2:=(cmv HR2 hb);replace HB:=(bmv HB hb);clear hg;have BKg:=am hbox;clear hbox;(try clear hczg_0 hczg_1 hczg_2 hczg_3 hczg_4);obtain ⟨hczg_0,hczg_1,hczg_2,hczg_3,hczg_4⟩:=cO5 BKg.out;clear hb) | (go_at_call 103;(with_reducible refine (nz_Check.calls AX c0_0 lA aA t1 _ HR.out HC.out H1.out).mono ?_);rintro e w1 ⟨rfl,hb⟩;replace HR:=(cmv HR hb);replace HR2:=(cmv HR2 hb);replace HB:=(bmv HB hb);replace BKg:=(kmv hb BKg);(try clear hczg_0 hczg_1 hczg_2 hczg_3 hczg_4);obtain ⟨hczg_0,hczg_1,hczg_2,hczg_3,hczg_4⟩:=cO5 BKg.out;clear hb))
  go_ret
  exact ⟨rfl,HB.out⟩
 subst h1
 rw [if_pos rfl] at h
 obtain ⟨t2,ht,h⟩:=obm h
 have H2:=am ht
 clear ht
 cases t2 with
 | false =>
  rw [if_neg (by decide)] at h
  obtain rfl:=Option.some.inj h
  clear h
  go_enter Tryz.func64,Tryz.ntmps64
  go_wp2_with (first | ((refine zqn (N:=1) rfl ?_);(try (refine zqu (by rfl) ?_;dsimp only));refine zqm rfl (N:=1) rfl (cs:=#[.slice AX lA.length c0_0,.int .i64 aA,.slice AY lB.length cB,.int .i64 a0_3,.int .i64 aC]) (t:=27) ?hr ?_;(case hr=>go_simp;try rfl);intro g hg w2 hbox hb;replace HR:=(cmv HR hb);replace HR2:=(cmv HR2 hb);replace HB:=(bmv HB hb);clear hg;have BKg:=am hbox;clear hbox;(try clear hczg_0 hczg_1 hczg_2 hczg_3 hczg_4);obtain ⟨hczg_0,hczg_1,hczg_2,hczg_3,hczg_4⟩:=cO5 BKg.out;clear hb) | (go_at_call 103;(with_reducible refine (nz_Check.calls AX c0_0 lA aA 0 _ HR.out HC.out H1.out).mono ?_);rintro e w1 ⟨rfl,hb⟩;replace HR:=(cmv HR hb);replace HR2:=(cmv HR2 hb);replace HB:=(bmv HB hb);replace BKg:=(kmv hb BKg);(try clear hczg_0 hczg_1 hczg_2 hczg_3 hczg_4);obtain ⟨hczg_0,hczg_1,hczg_2,hczg_3,hczg_4⟩:=cO5 BKg.out;clear hb) | (go_at_call 79;(with_reducible refine (ca_in.calls (lB.length : Int) 1 6 false _ H2.out).mono ?_);rintro e w1 ⟨rfl,hd⟩;have hb:=hd.below;clear hd;replace HR:=(cmv HR hb);replace HR2:=(cmv HR2 hb);replace HB:=(bmv HB hb);replace BKg:=(kmv hb BKg);(try clear hczg_0 hczg_1 hczg_2 hczg_3 hczg_4);obtain ⟨hczg_0,hczg_1,hczg_2,hczg_3,hczg_4⟩:=cO5 BKg.out;clear hb))
  go_ret
  exact ⟨rfl,HB.out⟩
 | true =>
  rw [if_pos rfl] at h
  obtain ⟨t3,ht,h⟩:=obm h
  have H3:=am ht
  clear ht
  cases t3 with
  | false =>
   rw [if_neg (by decide)] at h
   obtain rfl:=Option.some.inj h
   clear h
   go_enter Tryz.func64,Tryz.ntmps64
   go_wp2_with (first | ((refine zqn (N:=1) rfl ?_);(try (refine zqu (by rfl) ?_;dsimp only));refine zqm rfl (N:=1) rfl (cs:=#[.slice AX lA.length c0_0,.int .i64 aA,.slice AY lB.length cB,.int .i64 a0_3,.int .i64 aC]) (t:=27) ?hr ?_;(case hr=>go_simp;try rfl);intro g hg w2 hbox hb;replace HR:=(cmv HR hb);replace HR2:=(cmv HR2 hb);replace HB:=(bmv HB hb);clear hg;have BKg:=am hbox;clear hbox;(try clear hczg_0 hczg_1 hczg_2 hczg_3 hczg_4);obtain ⟨hczg_0,hczg_1,hczg_2,hczg_3,hczg_4⟩:=cO5 BKg.out;clear hb) | (go_at_call 103;(with_reducible refine (nz_Check.calls AX c0_0 lA aA 0 _ HR.out HC.out H1.out).mono ?_);rintro e w1 ⟨rfl,hb⟩;replace HR:=(cmv HR hb);replace HR2:=(cmv HR2 hb);replace HB:=(bmv HB hb);replace BKg:=(kmv hb BKg);(try clear hczg_0 hczg_1 hczg_2 hczg_3 hczg_4);obtain ⟨hczg_0,hczg_1,hczg_2,hczg_3,hczg_4⟩:=cO5 BKg.out;clear hb) | (go_at_call 79;(with_reducible refine (ca_in.calls (lB.length : Int) 1 6 true _ H2.out).mono ?_);rintro e w1 ⟨rfl,hd⟩;have hb:=hd.below;clear hd;replace HR:=(cmv HR hb);replace HR2:=(cmv HR2 hb);replace HB:=(bmv HB hb);replace BKg:=(kmv hb BKg);(try clear hczg_0 hczg_1 hczg_2 hczg_3 hczg_4);obtain ⟨hczg_0,hczg_1,hczg_2,hczg_3,hczg_4⟩:=cO5 BKg.out;clear hb) | (go_at_call 86;(with_reducible refine (ca_isHeight.calls a0_3 false _ H3.out).mono ?_);rintro e w1 ⟨rfl,hd⟩;have hb:=hd.below;clear hd;replace HR:=(cmv HR hb);replace HR2:=(cmv HR2 hb);replace HB:=(bmv HB hb);replace BKg:=(kmv hb BKg);(try clear hczg_0 hczg_1 hczg_2 hczg_3 hczg_4);obtain ⟨hczg_0,hczg_1,hczg_2,hczg_3,hczg_4⟩:=cO5 BKg.out;clear hb))
   go_ret
   exact ⟨rfl,HB.out⟩
  | true =>
   rw [if_pos rfl] at h
   obtain ⟨t4,ht,h⟩:=obm h
   have H4:=am ht
   clear ht
   cases t4 with
   | false =>
    rw [if_neg (by decide)] at h
    obtain rfl:=Option.some.inj h
    clear h
    go_enter Tryz.func64,Tryz.ntmps64
    go_wp2_with (first | ((refine zqn (N:=1) rfl ?_);(try (refine zqu (by rfl) ?_;dsimp only));refine zqm rfl (N:=1) rfl (cs:=#[.slice AX lA.length c0_0,.int .i64 aA,.slice AY lB.length cB,.int .i64 a0_3,.int .i64 aC]) (t:=27) ?hr ?_;(case hr=>go_simp;try rfl);intro g hg w2 hbox hb;replace HR:=(cmv HR hb);replace HR2:=(cmv HR2 hb);replace HB:=(bmv HB hb);clear hg;have BKg:=am hbox;clear hbox;(try clear hczg_0 hczg_1 hczg_2 hczg_3 hczg_4);obtain ⟨hczg_0,hczg_1,hczg_2,hczg_3,hczg_4⟩:=cO5 BKg.out;clear hb) | (go_at_call 103;(with_reducible refine (nz_Check.calls AX c0_0 lA aA 0 _ HR.out HC.out H1.out).mono ?_);rintro e w1 ⟨rfl,hb⟩;replace HR:=(cmv HR hb);replace HR2:=(cmv HR2 hb);replace HB:=(bmv HB hb);replace BKg:=(kmv hb BKg);(try clear hczg_0 hczg_1 hczg_2 hczg_3 hczg_4);obtain ⟨hczg_0,hczg_1,hczg_2,hczg_3,hczg_4⟩:=cO5 BKg.out;clear hb) | (go_at_call 79;(with_reducible refine (ca_in.calls (lB.length : Int) 1 6 true _ H2.out).mono ?_);rintro e w1 ⟨rfl,hd⟩;have hb:=hd.below;clear hd;replace HR:=(cmv HR hb);replace HR2:=(cmv HR2 hb);replace HB:=(bmv HB hb);replace BKg:=(kmv hb BKg);(try clear hczg_0 hczg_1 hczg_2 hczg_3 hczg_4);obtain ⟨hczg_0,hczg_1,hczg_2,hczg_3,hczg_4⟩:=cO5 BKg.out;clear hb) | (go_at_call 86;(with_reducible refine (ca_isHeight.calls a0_3 true _ H3.out).mono ?_);rintro e w1 ⟨rfl,hd⟩;have hb:=hd.below;clear hd;replace HR:=(cmv HR hb);replace HR2:=(cmv HR2 hb);replace HB:=(bmv HB hb);replace BKg:=(kmv hb BKg);(try clear hczg_0 hczg_1 hczg_2 hczg_3 hczg_4);obtain ⟨hczg_0,hczg_1,hczg_2,hczg_3,hczg_4⟩:=cO5 BKg.out;clear hb) | (go_at_call 79;(with_reducible refine (ca_in.calls aC 0 100 false _ H4.out).mono ?_);rintro e w1 ⟨rfl,hd⟩;have hb:=hd.below;clear hd;replace HR:=(cmv HR hb);replace HR2:=(cmv HR2 hb);replace HB:=(bmv HB hb);replace BKg:=(kmv hb BKg);(try clear hczg_0 hczg_1 hczg_2 hczg_3 hczg_4);obtain ⟨hczg_0,hczg_1,hczg_2,hczg_3,hczg_4⟩:=cO5 BKg.out;clear hb))
    go_ret
    exact ⟨rfl,HB.out⟩
   | true =>
    rw [if_pos rfl] at h
    obtain ⟨u,ht,h⟩:=obm h
    obtain rfl:=Option.some.inj h
    have H5:=am ht
    clear ht h
    go_enter Tryz.func64,Tryz.ntmps64
    go_wp2_with (first | ((refine zqn (N:=1) rfl ?_);(try (refine zqu (by rfl) ?_;dsimp only));refine zqm rfl (N:=1) rfl (cs:=#[.slice AX lA.length c0_0,.int .i64 aA,.slice AY lB.length cB,.int .i64 a0_3,.int .i64 aC]) (t:=27) ?hr ?_;(case hr=>go_simp;try rfl);intro g hg w2 hbox hb;replace HR:=(cmv HR hb);replace HR2:=(cmv HR2 hb);replace HB:=(bmv HB hb);clear hg;have BKg:=am hbox;clear hbox;(try clear hczg_0 hczg_1 hczg_2 hczg_3 hczg_4);obtain ⟨hczg_0,hczg_1,hczg_2,hczg_3,hczg_4⟩:=cO5 BKg.out;clear hb) | (go_at_call 103;(with_reducible refine (nz_Check.calls AX c0_0 lA aA 0 _ HR.out HC.out H1.out).mono ?_);rintro e w1 ⟨rfl,hb⟩;replace HR:=(cmv HR hb);replace HR2:=(cmv HR2 hb);replace HB:=(bmv HB hb);replace BKg:=(kmv hb BKg);(try clear hczg_0 hczg_1 hczg_2 hczg_3 hczg_4);obtain ⟨hczg_0,hczg_1,hczg_2,hczg_3,hczg_4⟩:=cO5 BKg.out;clear hb) | (go_at_call 79;(with_reducible refine (ca_in.calls (lB.length : Int) 1 6 true _ H2.out).mono ?_);rintro e w1 ⟨rfl,hd⟩;have hb:=hd.below;clear hd;replace HR:=(cmv HR hb);replace HR2:=(cmv HR2 hb);replace HB:=(bmv HB hb);replace BKg:=(kmv hb BKg);(try clear hczg_0 hczg_1 hczg_2 hczg_3 hczg_4);obtain ⟨hczg_0,hczg_1,hczg_2,hczg_3,hczg_4⟩:=cO5 BKg.out;clear hb) | (go_at_call 86;(with_reducible refine (ca_isHeight.calls a0_3 true _ H3.out).mono ?_);rintro e w1 ⟨rfl,hd⟩;have hb:=hd.below;clear hd;replace HR:=(cmv HR hb);replace HR2:=(cmv HR2 hb);replace HB:=(bmv HB hb);replace BKg:=(kmv hb BKg);(try clear hczg_0 hczg_1 hczg_2 hczg_3 hczg_4);obtain ⟨hczg_0,hczg_1,hczg_2,hczg_3,hczg_4⟩:=cO5 BKg.out;clear hb) | (go_at_call 79;(with_reducible refine (ca_in.calls aC 0 100 true _ H4.out).mono ?_);rintro e w1 ⟨rfl,hd⟩;have hb:=hd.below;clear hd;replace HR:=(cmv HR hb);replace HR2:=(cmv HR2 hb);replace HB:=(bmv HB hb);replace BKg:=(kmv hb BKg);(try clear hczg_0 hczg_1 hczg_2 hczg_3 hczg_4);obtain ⟨hczg_0,hczg_1,hczg_2,hczg_3,hczg_4⟩:=cO5 BKg.out;clear hb) | (go_at_call 104;refine (any_isBasin g (ca_isBasin_1.f lA) AY cB lB u _ HR2.out (fun x b W hx hq hb=>ca_isBasin_1.calls g AX c0_0 lA aA AY cB lB a0_3 aC x b W (zqh BKg.out hb) hq) H5.out).mono ?_;rintro e w1 ⟨rfl,hb⟩;replace HR:=(cmv HR hb);replace HR2:=(cmv HR2 hb);replace HB:=(bmv HB hb);replace BKg:=(kmv hb BKg);(try clear hczg_0 hczg_1 hczg_2 hczg_3 hczg_4);obtain ⟨hczg_0,hczg_1,hczg_2,hczg_3,hczg_4⟩:=cO5 BKg.out;clear hb))
    go_ret
    exact ⟨rfl,HB.out⟩
end Go.Proofs.YtnnmnhpeblhiiaaGreatDoor.C

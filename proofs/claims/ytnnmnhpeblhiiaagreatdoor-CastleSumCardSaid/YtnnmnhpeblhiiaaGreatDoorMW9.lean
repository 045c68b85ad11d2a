/- A part of the proof: the walks of the functions that it reaches. TIGHT. -/
import Derived.Test.YtnnmnhpeblhiiaaGreatDoorMW8
import Derived.Tactics2
import Derived.Defers
import Derived.Recover
import Derived.Laws.Pointers
import Derived.Lib.Hide
set_option linter.unusedVariables false
set_option linter.unusedSimpArgs false
namespace Go.Proofs.YtnnmnhpeblhiiaaGreatDoor.C
open Go.RowKit Go.Proofs.YtnnmnhpeblhiiaaGreatDoorW.PrintWords Go.Proofs.YtnnmnhpeblhiiaaGreatDoorW.PrintLast Go.Proofs.YtnnmnhpeblhiiaaGreatDoorW.PrintMore
set_option linter.unusedVariables false
set_option linter.unusedSimpArgs false
set_option maxHeartbeats 16000000
set_option maxRecDepth 100000
def flowIn (l1 : List S66) (i cups : Int) (xs : List (List Int)) (ys : List Int) : Option Int:=
 if 0 < i then (if i - 1 < (l1.length : Int) then (if 0≤(rd_T66 l1 (i - 1)).f0 then (if (rd_T66 l1 (i - 1)).f0 < (ys.length : Int) then (if 0≤(rd_T66 l1 (i - 1)).f1 then (if (rd_T66 l1 (i - 1)).f0 < (xs.length : Int) then (if (rd_T66 l1 (i - 1)).f1 < ((rd_L3 xs (rd_T66 l1 (i - 1)).f0).length : Int) then some (rd (rd_L3 xs (rd_T66 l1 (i - 1)).f0) (rd_T66 l1 (i - 1)).f1) else none) else none) else some (rd ys (rd_T66 l1 (i - 1)).f0)) else none) else none) else none) else some cups
def flowGo (k : Nat) (l1 : List S66) : List S110→Int→Int→List (List Int)→List Int→Option (List (List Int) × List Int)
 | [],_,_,xs,ys=>some (xs,ys)
 | x :: rest,i,cups,xs,ys=>(flowIn l1 i cups xs ys).bind fun c=>(gf_shares.f k x.f0.f0.f0 x.f0.f0.f1 x.f0.f1 x.f0.f2 x.f0.f3 x.f1 c).bind fun t=>if xs.length < 5864062014805 then (if ys.length < 17592186044416 then flowGo k l1 rest (i + 1) c (xs ++ [t.1]) (ys ++ [t.2]) else none) else none
def ca_flow.f (k : Nat) (l0 : List S110) (l1 : List S66) (a2 : Int) : Option (List (List Int) × List Int):=flowGo k l1 l0 0 a2 [] []
theorem infoInts : (Tryz.prog.info? 28).map (fun i=>(i.zero,i.size,i.bytes)) = some (some (.slice none 0 0),1,24):=by kernel_rfl
theorem infoInt : (Tryz.prog.info? 3).map (fun i=>(i.zero,i.size,i.bytes)) = some (some (.int .i64 0),1,8):=by kernel_rfl
theorem N_after9 {d : Kd (List Int)} {e base B : Nat} {W w1 : World} {u v v1 : Value} {xs : List (List Int)} (h : Kd.N d e W base (fun k=>B≤k∧some k ≠ v.ownBlock) u xs) (hg : W.grownBy w1 v.ownBlock) (hat : v1.ownBlock = v.ownBlock∨∃ b,v1.ownBlock = some b∧W.heap.size≤b) : Kd.N d e w1 base (fun k=>B≤k∧some k ≠ v1.ownBlock) u xs:=
 Kd.N_afterv (ok:=fun k=>B≤k) h hg hat
theorem rowFK {wc : World} {n : Nat} {A5 : Option Addr} {c5 : Nat} {l : List Int} (hr : (Kd.int .i64).R 3 wc n (fun _=>True) (.slice A5 l.length c5) l) :
 Kd.FK (Kd.slice 3 (Kd.int .i64)) wc (fun k=>n≤k) l [.slice A5 l.length c5]:=fun W' hW=>⟨A5,c5,rfl,(Kd.R_reads' hr).2.1,Kd.R_F (Kd.R_mono (Kd.R_bound hr) (fun _ hk=>hk.2.1)) W' hW⟩
theorem ca_flow.calls (k : Nat) (A0 : Option Addr) (c0 : Nat) (l0 : List S110) (A1 : Option Addr) (c1 : Nat) (l1 : List S66) (a2 : Int) (r1 : List (List Int)) (r2 : List Int) (w : World) (hr0 : Kd.C k110 w A0 l0.length l0) (hr1 : Kd.C k66 w A1 l1.length l1) (h : ca_flow.f k l0 l1 a2 = some (r1,r2)) :
 Calls Tryz.prog 81 #[.slice A0 l0.length c0,.slice A1 l1.length c1,.int .i64 a2] w fun e w'=>∃ v0_ v1_ : Value,e = .returned (.tuple #[v0_,v1_])∧Kd.N (Kd.slice 3 (Kd.int .i64)) 28 w' w.heap.size (fun k_=>w.heap.size≤k_∧some k_ ≠ (v1_ : Value).ownBlock) v0_ r1∧Kd.R (Kd.int .i64) 3 w' w.heap.size (fun _=>True) v1_ r2∧Below w.heap.size w w':=by
 have huf:=Tryz.underlying110
 have huF:=Tryz.underlying66
 have HM:=am (Kd.C_max hr0)
 have HR0:=am hr0
 have HR1:=am hr1
 have HB:=am (Below.refl w.heap.size w)
 have HQ:=am h
 clear hr0 hr1 h
 go_enter Tryz.func81,Tryz.ntmps81
 go_wp2
 go_loopw [2,8,9,17] (fun v2 v8 v9 v17 w'=>∃ (cups i : Int) (xs : List (List Int)) (ys : List Int),0≤i∧i≤l0.length∧v2 = .int .i64 cups∧v17 = .int .i64 i∧Aside0 (flowGo k l1 (l0.drop i.toNat) i cups xs ys = some (r1,r2))∧Aside0 (Kd.N (Kd.slice 3 (Kd.int .i64)) 28 w' w.heap.size (fun k_=>w.heap.size≤k_∧some k_ ≠ (v9 : Value).ownBlock) v8 xs)∧Aside0 (Kd.R (Kd.int .i64) 3 w' w.heap.size (fun _=>True) v9 ys)∧Aside0 (Below w.heap.size w w')) (fun _ _ _ v17 _=>l0.length - (intOf v17).toNat)
 case atStart=>exact ⟨a2,0,[],[],by omega,by omega,rfl,rfl,HQ,⟨Kd.N_nil _ _ _ _ _⟩,⟨Kd.R_nil _ _ _ _ _⟩,HB⟩
 case round =>
  clear HQ HB
  obtain ⟨cups,i,xs,ys,p1,hi,rfl,rfl,HQ,HS,HO,HB⟩:=hrel
  have HW9:=am HB.out.size
  have hm:=HM.out
  by_cases hlt : i < (l0.length : Int)
  case neg =>
   go_wp2
   go_ret2
   have hq:=HQ.out
   rw [List.drop_of_length_le (by omega)] at hq
   simp only [flowGo,Option.some.injEq,Prod.mk.injEq] at hq
   obtain ⟨rfl,rfl⟩:=hq
   exact ⟨_,_,rfl,HS.out,HO.out,HB.out⟩
  obtain ⟨ad,A0_,c0_,A2,c2,A5,c5,e1,hx0,hx1,hx2,hx3,hx4,hx5,hl0,hi0,hl2,hi2,hl5,hi5⟩:=at_T110 HR0.out i p1 hlt
  cases e1
  replace hx0:=(HB.out.cell (wbl hx0)).trans hx0
  replace hx1:=(HB.out.cell (wbl hx1)).trans hx1
  replace hx2:=(HB.out.cell (wbl hx2)).trans hx2
  replace hx3:=(HB.out.cell (wbl hx3)).trans hx3
  replace hx4:=(HB.out.cell (wbl hx4)).trans hx4
  replace hx5:=(HB.out.cell (wbl hx5)).trans hx5
  have hq:=HQ.out
  rw [drop_at z110 l0 i p1 hlt,show l0.getD i.toNat z110 = rd_T110 l0 i from rfl] at hq
  simp only [flowGo] at hq
  generalize rd_T110 l0 i = x at *
  obtain ⟨c,hc,hq⟩:=obm hq
  obtain ⟨⟨t1,t2⟩,ht,hq⟩:=obm hq
  have HT:=am ht
  clear ht HQ
  dsimp only at hq
  by_cases hn1 : xs.length < 5864062014805
  case neg=>rw [if_neg hn1] at hq;cases hq
  rw [if_pos hn1] at hq
  by_cases hn2 : ys.length < 17592186044416
  case neg=>rw [if_neg hn2] at hq;cases hq
  rw [if_pos hn2] at hq
  have HQ:=am hq
  have HL1:=am hn1
  have HL2:=am hn2
  clear hq hn1 hn2
  have HI0:=am hi0
  have HI2:=am hi2
  have HI5:=am hi5
  have HL0_:=am hl0
  have HL2_:=am hl2
  have HL5_:=am hl5
  clear hi0 hi2 hi5 hl0 hl2 hl5
  obtain ⟨A8,c8,e8⟩:=Kd.N_slice HS.out
  subst e8
  obtain ⟨A9,c9,e9⟩:=Kd.R_slice HO.out
  subst e9
  unfold flowIn at hc
  by_cases hz0 : 0 < i
  case neg =>
   rw [if_neg hz0] at hc
   have hd0 : decide (0 < i) = false:=decide_eq_false hz0
   obtain rfl:=Option.some.inj hc
   clear hc
   go_wp2_with (first | ((refine gate_dst (N:=11) rfl ?_);refine box_event rfl (N:=11) rfl (cs:=#[.slice none 0 0,.int .i64 0,.slice none 0 0,.int .i64 0,.int .i64 0,.slice none 0 0]) (t:=110) ?hr ?_;(case hr=>go_simp;try rfl);intro ga hg w2 hbox hb;have GA:=am (show w.heap.size≤ga by have:=HB.out.size;omega);have GA2:=am (Nat.le_of_eq hg.symm);have NB:=am hb;have n3:=(bmv HB hb);have BKga:=am hbox;clear hg hb hbox HB;have HB:=n3;clear n3;have hczga_0:=cO1 BKga.out;have hfzga_0:=blk_frozen BKga.out 0;have hczga_1 : w2.cell? ⟨ga,1,none⟩ = some (.int .i64 0):=(blk_cell BKga.out 1).trans rfl;have hfzga_1:=blk_frozen BKga.out 1;have hczga_2 : w2.cell? ⟨ga,2,none⟩ = some (.slice none 0 0):=(blk_cell BKga.out 2).trans rfl;have hfzga_2:=blk_frozen BKga.out 2;have hczga_3 : w2.cell? ⟨ga,3,none⟩ = some (.int .i64 0):=(blk_cell BKga.out 3).trans rfl;have hfzga_3:=blk_frozen BKga.out 3;have hczga_4 : w2.cell? ⟨ga,4,none⟩ = some (.int .i64 0):=(blk_cell BKga.out 4).trans rfl;have hfzga_4:=blk_frozen BKga.out 4;have hczga_5 : w2.cell? ⟨ga,5,none⟩ = some (.slice none 0 0):=(blk_cell BKga.out 5).trans rfl;have hfzga_5:=blk_frozen BKga.out 5) | ((with_reducible refine gate_store (t:=110) (p:=11) rfl ?_);refine skip_abs (fun W'=>W'.heap[ga]? = some (.cells #[.slice A0_ x.f0.f0.f0.length c0_,.int .i64 x.f0.f0.f1,.slice A2 x.f0.f1.length c2,.int .i64 x.f0.f2,.int .i64 x.f0.f3,.slice A5 x.f1.length c5] 110 (0,0))∧Below wr.heap.size wr W'∧Below w.heap.size w W') ?hg ?hd ?hr ⟨(blk_set (blk_set (blk_set (blk_set (blk_set (blk_set BKga.out 0 _) 1 _) 2 _) 3 _) 4 _) 5 _).trans rfl,(below_set (below_set (below_set (below_set (below_set (below_set NB.out GA2.out) GA2.out) GA2.out) GA2.out) GA2.out) GA2.out),(below_set (below_set (below_set (below_set (below_set (below_set HB.out GA.out) GA.out) GA.out) GA.out) GA.out) GA.out)⟩ ?_;(case hg=>rfl);(case hd=>rfl);(case hr=>go_simp;try rfl);rintro w4 ⟨k1,k2,k3⟩;(try clear hczga_0 hczga_1 hczga_2 hczga_3 hczga_4 hczga_5);(try clear hfzga_0 hfzga_1 hfzga_2 hfzga_3 hfzga_4 hfzga_5);clear BKga NB HB;have BKga:=am k1;have NB:=am k2;have HB:=am k3;clear k1 k2 k3;obtain ⟨hczga_0,hczga_1,hczga_2,hczga_3,hczga_4,hczga_5⟩:=cO6 BKga.out) | (go_at_call 71;(refine (gf_shares.calls k A0_ c0_ x.f0.f0.f0 x.f0.f0.f1 A2 c2 x.f0.f1 x.f0.f2 x.f0.f3 A5 c5 x.f1 cups t1 t2 _ (kC HI0.out HB.out) HL0_.out (kC HI2.out HB.out) HL2_.out (kC HI5.out HB.out) HL5_.out HT.out).mono ?_);rintro e wc ⟨v0_,rfl,hr,hb⟩;have n1:=(bmv HB hb);have n2:=am (below_then NB.out NB.out.size hb);have HV:=am (Kd.R_lower hr NB.out.size);(try clear hczga_0 hczga_1 hczga_2 hczga_3 hczga_4 hczga_5);(try clear hfzga_0 hfzga_1 hfzga_2 hfzga_3 hfzga_4 hfzga_5);(try clear hczgb_0 hczgb_1);(try clear hfzgb_0 hfzgb_1);(try clear hy);(try clear hz);(try clear hz2);(try clear BKgb);clear HB NB hb hr BKga;have HB:=n1;have NB:=n2;clear n1 n2;obtain ⟨A6,c6,e6⟩:=Kd.R_slice HV.out;subst e6;have HS2:=am (Kd.N_below HS.out NB.out);have HO2:=am (Kd.R_below HO.out NB.out);have HLT:=am (show ∀ k,(.slice A8 xs.length c8 : Value).ownBlock = some k∨(.slice A9 ys.length c9 : Value).ownBlock = some k→k < wr.heap.size from fun k hk=>hk.elim (Kd.N_lt HS.out k) (Kd.R_lt HO.out k))) | ((with_reducible refine gate_builtin (b:=.append) (xs:=#[.tmp 52,.tmp 54]) rfl ?_);at_builtin;refine Kd.N_append (Kd.slice 3 (Kd.int .i64)) (w0:=w) w.heap.size rfl (.tmp 52) (.tmp 54) 61 28 (.slice none 0 0) 24 rfl Tryz.underlying61 infoInts rfl (by decide) (by omega) (.slice A8 xs.length c8) xs t1 [.slice A6 t1.length c6] (fun k_=>w.heap.size≤k_∧some k_ ≠ (.slice A9 ys.length c9 : Value).ownBlock) (fun k=>wr.heap.size≤k) rfl rfl ?aP ?aK ?aF HS2.out HB.out HB.out.size ?aL ?_;(case aP=>exact rowFK HV.out);(case aK=>exact fun k hk=>⟨⟨Nat.le_trans HW9.out hk,fun he=>by have:=HLT.out k (.inr he.symm);omega⟩,fun he=>by have:=HLT.out k (.inl he.symm);omega⟩);(case aF=>exact fun k hk=>⟨Nat.le_trans HB.out.size hk,fun he=>by have:=Kd.R_lt HO2.out k he.symm;omega⟩);(case aL=>have:=HL1.out;omega);intro v1 w7 ho hb hg hat;have n1:=am ho;have n2:=am hb;have n3:=am (Kd.R_grown2 HO2.out rfl hg (fun k hk=>(HS2.out.1 k hk).2));clear ho hb hg hat HB HS2 HO2 HLT HV NB;have HS2:=n1;have HB:=n2;have HO2:=n3;clear n1 n2 n3) | ((with_reducible refine gate_builtin (b:=.append) (xs:=#[.tmp 56,.tmp 58]) rfl ?_);at_builtin;refine Kd.R_append (Kd.int .i64) (w0:=w) w.heap.size rfl (.tmp 56) (.tmp 58) 28 3 (.int .i64 0) 8 rfl Tryz.underlying28 infoInt rfl (by decide) (by omega) (.slice A9 ys.length c9) ys t2 [.int .i64 t2] (fun _=>True) (fun _=>False) rfl rfl ?aP (fun _ hk=>hk.elim) (fun _ _=>trivial) HO2.out HB.out HB.out.size ?aL ?_;(case aP=>exact rfl);(case aL=>have:=HL2.out;omega);intro v2 w8 ho hb hg hat;have n1:=am ho;have n2:=am hb;have n3:=am (N_after9 HS2.out hg hat);clear ho hb hg hat HB HS2 HO2;have HO2:=n1;have HB:=n2;have HS2:=n3;clear n1 n2 n3))
   go_roundw
   case rel=>exact ⟨cups,i + 1,xs ++ [t1],ys ++ [t2],by omega,by omega,rfl,by go_num,HQ,HS2,HO2,HB⟩
   case measure=>simp [intOf];omega
  rw [if_pos hz0] at hc
  have hd0 : decide (0 < i) = true:=decide_eq_true hz0
  have hw1 : IntKind.i64.wrap (i - 1) = i - 1:=(i64_w _).trans (by unfold wrap64;omega)
  obtain ⟨j,hj⟩ : ∃ j : Int,i - 1 = j:=⟨_,rfl⟩
  rw [hj] at hw1 hc
  have hj0 : 0≤j:=by omega
  by_cases hj1 : j < (l1.length : Int)
  case neg=>rw [if_neg hj1] at hc;cases hc
  rw [if_pos hj1] at hc
  obtain ⟨adf,ef,hf0,hf1⟩:=at_T66 HR1.out j hj0 hj1
  cases ef
  have HF0:=am hf0
  have HF1:=am hf1
  clear hf0 hf1
  generalize hfb : (rd_T66 l1 j).f0 = fb at *
  generalize hfn : (rd_T66 l1 j).f1 = fn at *
  clear hfb hfn
  by_cases h20 : 0≤fb
  case neg=>rw [if_neg h20] at hc;cases hc
  rw [if_pos h20] at hc
  by_cases h21 : fb < (ys.length : Int)
  case neg=>rw [if_neg h21] at hc;cases hc
  rw [if_pos h21] at hc
  obtain ⟨ad9,e9,hy⟩:=Kd.at_int (Kd.R_reads' HO.out).2.2 fb h20 h21
  cases e9
  have HY:=am hy
  clear hy
  by_cases h22 : 0≤fn
  case neg =>
   rw [if_neg h22] at hc
   have hd1 : decide (0≤fn) = false:=decide_eq_false h22
   obtain rfl:=Option.some.inj hc
   clear hc
   go_wp2_with (first | ((refine gate_dst (N:=11) rfl ?_);refine box_event rfl (N:=11) rfl (cs:=#[.slice none 0 0,.int .i64 0,.slice none 0 0,.int .i64 0,.int .i64 0,.slice none 0 0]) (t:=110) ?hr ?_;(case hr=>go_simp;try rfl);intro ga hg w2 hbox hb;have GA:=am (show w.heap.size≤ga by have:=HB.out.size;omega);have GA2:=am (Nat.le_of_eq hg.symm);have NB:=am hb;have n3:=(bmv HB hb);have BKga:=am hbox;clear hg hb hbox HB;have HB:=n3;clear n3;have hczga_0:=cO1 BKga.out;have hfzga_0:=blk_frozen BKga.out 0;have hczga_1 : w2.cell? ⟨ga,1,none⟩ = some (.int .i64 0):=(blk_cell BKga.out 1).trans rfl;have hfzga_1:=blk_frozen BKga.out 1;have hczga_2 : w2.cell? ⟨ga,2,none⟩ = some (.slice none 0 0):=(blk_cell BKga.out 2).trans rfl;have hfzga_2:=blk_frozen BKga.out 2;have hczga_3 : w2.cell? ⟨ga,3,none⟩ = some (.int .i64 0):=(blk_cell BKga.out 3).trans rfl;have hfzga_3:=blk_frozen BKga.out 3;have hczga_4 : w2.cell? ⟨ga,4,none⟩ = some (.int .i64 0):=(blk_cell BKga.out 4).trans rfl;have hfzga_4:=blk_frozen BKga.out 4;have hczga_5 : w2.cell? ⟨ga,5,none⟩ = some (.slice none 0 0):=(blk_cell BKga.out 5).trans rfl;have hfzga_5:=blk_frozen BKga.out 5) | ((with_reducible refine gate_store (t:=110) (p:=11) rfl ?_);refine skip_abs (fun W'=>W'.heap[ga]? = some (.cells #[.slice A0_ x.f0.f0.f0.length c0_,.int .i64 x.f0.f0.f1,.slice A2 x.f0.f1.length c2,.int .i64 x.f0.f2,.int .i64 x.f0.f3,.slice A5 x.f1.length c5] 110 (0,0))∧Below wr.heap.size wr W'∧Below w.heap.size w W') ?hg ?hd ?hr ⟨(blk_set (blk_set (blk_set (blk_set (blk_set (blk_set BKga.out 0 _) 1 _) 2 _) 3 _) 4 _) 5 _).trans rfl,(below_set (below_set (below_set (below_set (below_set (below_set NB.out GA2.out) GA2.out) GA2.out) GA2.out) GA2.out) GA2.out),(below_set (below_set (below_set (below_set (below_set (below_set HB.out GA.out) GA.out) GA.out) GA.out) GA.out) GA.out)⟩ ?_;(case hg=>rfl);(case hd=>rfl);(case hr=>go_simp;try rfl);rintro w4 ⟨k1,k2,k3⟩;(try clear hczga_0 hczga_1 hczga_2 hczga_3 hczga_4 hczga_5);(try clear hfzga_0 hfzga_1 hfzga_2 hfzga_3 hfzga_4 hfzga_5);clear BKga NB HB;have BKga:=am k1;have NB:=am k2;have HB:=am k3;clear k1 k2 k3;obtain ⟨hczga_0,hczga_1,hczga_2,hczga_3,hczga_4,hczga_5⟩:=cO6 BKga.out;have hf0 : w4.cell? _ = _:=(HB.out.cell (wbl HF0.out)).trans HF0.out;have hf1 : w4.cell? _ = _:=(HB.out.cell (wbl HF1.out)).trans HF1.out) | ((refine gate_dst (N:=12) rfl ?_);refine box_event rfl (N:=12) rfl (cs:=#[.int .i64 0,.int .i64 0]) (t:=66) ?hr ?_;(case hr=>go_simp;try rfl);intro gb hg w5 hbox hb;have HNab:=am (show ga ≠ gb by have:=blk_lt BKga.out;omega);have GB:=am (show w.heap.size≤gb by have:=HB.out.size;omega);have GB2:=am (show wr.heap.size≤gb by have:=NB.out.size;omega);have n1:=(kmv hb BKga);have n2:=am (below_then NB.out NB.out.size hb);have n3:=(bmv HB hb);have BKgb:=am hbox;(try clear hczga_0 hczga_1 hczga_2 hczga_3 hczga_4 hczga_5);(try clear hfzga_0 hfzga_1 hfzga_2 hfzga_3 hfzga_4 hfzga_5);(try clear hf0 hf1);clear hg hb hbox HB NB BKga;have BKga:=n1;have NB:=n2;have HB:=n3;clear n1 n2 n3;have hczgb_0:=cO1 BKgb.out;have hfzgb_0:=blk_frozen BKgb.out 0;have hczgb_1 : w5.cell? ⟨gb,1,none⟩ = some (.int .i64 0):=(blk_cell BKgb.out 1).trans rfl;have hfzgb_1:=blk_frozen BKgb.out 1;have hf0 : w5.cell? _ = _:=(HB.out.cell (wbl HF0.out)).trans HF0.out;have hf1 : w5.cell? _ = _:=(HB.out.cell (wbl HF1.out)).trans HF1.out) | ((with_reducible refine gate_store (t:=66) (p:=12) rfl ?_);refine skip_abs (fun W'=>W'.heap[ga]? = some (.cells #[.slice A0_ x.f0.f0.f0.length c0_,.int .i64 x.f0.f0.f1,.slice A2 x.f0.f1.length c2,.int .i64 x.f0.f2,.int .i64 x.f0.f3,.slice A5 x.f1.length c5] 110 (0,0))∧W'.heap[gb]? = some (.cells #[.int .i64 fb,.int .i64 fn] 66 (0,0))∧Below wr.heap.size wr W'∧Below w.heap.size w W') ?hg ?hd ?hr ⟨(obj_far (p:=⟨gb,1,none⟩) (obj_far (p:=⟨gb,0,none⟩) BKga.out HNab.out (.int .i64 fb)) HNab.out (.int .i64 fn)),(blk_set (blk_set BKgb.out 0 _) 1 _).trans rfl,(below_set (below_set NB.out GB2.out) GB2.out),(below_set (below_set HB.out GB.out) GB.out)⟩ ?_;(case hg=>rfl);(case hd=>rfl);(case hr=>go_simp;try rfl);rintro w6 ⟨k1,k4,k2,k3⟩;(try clear hczga_0 hczga_1 hczga_2 hczga_3 hczga_4 hczga_5);(try clear hfzga_0 hfzga_1 hfzga_2 hfzga_3 hfzga_4 hfzga_5);(try clear hczgb_0 hczgb_1);(try clear hfzgb_0 hfzgb_1);(try clear hf0 hf1);clear BKga BKgb NB HB;have BKga:=am k1;have BKgb:=am k4;have NB:=am k2;have HB:=am k3;clear k1 k2 k3 k4;obtain ⟨hczga_0,hczga_1,hczga_2,hczga_3,hczga_4,hczga_5⟩:=cO6 BKga.out;obtain ⟨hczgb_0,hczgb_1⟩:=cO2 BKgb.out;have hy:=(NB.out.cell (World.block_lt_of_cell? wr _ HY.out)).trans HY.out) | (go_at_call 71;(refine (gf_shares.calls k A0_ c0_ x.f0.f0.f0 x.f0.f0.f1 A2 c2 x.f0.f1 x.f0.f2 x.f0.f3 A5 c5 x.f1 (rd ys fb) t1 t2 _ (kC HI0.out HB.out) HL0_.out (kC HI2.out HB.out) HL2_.out (kC HI5.out HB.out) HL5_.out HT.out).mono ?_);rintro e wc ⟨v0_,rfl,hr,hb⟩;have n1:=(bmv HB hb);have n2:=am (below_then NB.out NB.out.size hb);have HV:=am (Kd.R_lower hr NB.out.size);(try clear hczga_0 hczga_1 hczga_2 hczga_3 hczga_4 hczga_5);(try clear hfzga_0 hfzga_1 hfzga_2 hfzga_3 hfzga_4 hfzga_5);(try clear hczgb_0 hczgb_1);(try clear hfzgb_0 hfzgb_1);(try clear hy);(try clear hz);(try clear hz2);(try clear BKgb);clear HB NB hb hr BKga;have HB:=n1;have NB:=n2;clear n1 n2;obtain ⟨A6,c6,e6⟩:=Kd.R_slice HV.out;subst e6;have HS2:=am (Kd.N_below HS.out NB.out);have HO2:=am (Kd.R_below HO.out NB.out);have HLT:=am (show ∀ k,(.slice A8 xs.length c8 : Value).ownBlock = some k∨(.slice (some ad9) ys.length c9 : Value).ownBlock = some k→k < wr.heap.size from fun k hk=>hk.elim (Kd.N_lt HS.out k) (Kd.R_lt HO.out k))) | ((with_reducible refine gate_builtin (b:=.append) (xs:=#[.tmp 52,.tmp 54]) rfl ?_);at_builtin;refine Kd.N_append (Kd.slice 3 (Kd.int .i64)) (w0:=w) w.heap.size rfl (.tmp 52) (.tmp 54) 61 28 (.slice none 0 0) 24 rfl Tryz.underlying61 infoInts rfl (by decide) (by omega) (.slice A8 xs.length c8) xs t1 [.slice A6 t1.length c6] (fun k_=>w.heap.size≤k_∧some k_ ≠ (.slice (some ad9) ys.length c9 : Value).ownBlock) (fun k=>wr.heap.size≤k) rfl rfl ?aP ?aK ?aF HS2.out HB.out HB.out.size ?aL ?_;(case aP=>exact rowFK HV.out);(case aK=>exact fun k hk=>⟨⟨Nat.le_trans HW9.out hk,fun he=>by have:=HLT.out k (.inr he.symm);omega⟩,fun he=>by have:=HLT.out k (.inl he.symm);omega⟩);(case aF=>exact fun k hk=>⟨Nat.le_trans HB.out.size hk,fun he=>by have:=Kd.R_lt HO2.out k he.symm;omega⟩);(case aL=>have:=HL1.out;omega);intro v1 w7 ho hb hg hat;have n1:=am ho;have n2:=am hb;have n3:=am (Kd.R_grown2 HO2.out rfl hg (fun k hk=>(HS2.out.1 k hk).2));clear ho hb hg hat HB HS2 HO2 HLT HV NB;have HS2:=n1;have HB:=n2;have HO2:=n3;clear n1 n2 n3) | ((with_reducible refine gate_builtin (b:=.append) (xs:=#[.tmp 56,.tmp 58]) rfl ?_);at_builtin;refine Kd.R_append (Kd.int .i64) (w0:=w) w.heap.size rfl (.tmp 56) (.tmp 58) 28 3 (.int .i64 0) 8 rfl Tryz.underlying28 infoInt rfl (by decide) (by omega) (.slice (some ad9) ys.length c9) ys t2 [.int .i64 t2] (fun _=>True) (fun _=>False) rfl rfl ?aP (fun _ hk=>hk.elim) (fun _ _=>trivial) HO2.out HB.out HB.out.size ?aL ?_;(case aP=>exact rfl);(case aL=>have:=HL2.out;omega);intro v2 w8 ho hb hg hat;have n1:=am ho;have n2:=am hb;have n3:=am (N_after9 HS2.out hg hat);clear ho hb hg hat HB HS2 HO2;have HO2:=n1;have HB:=n2;have HS2:=n3;clear n1 n2 n3))
   go_roundw
   case rel=>exact ⟨rd ys fb,i + 1,xs ++ [t1],ys ++ [t2],by omega,by omega,rfl,by go_num,HQ,HS2,HO2,HB⟩
   case measure=>simp [intOf];omega
  rw [if_pos h22] at hc
  have hd1 : decide (0≤fn) = true:=decide_eq_true h22
  by_cases h23 : fb < (xs.length : Int)
  case neg=>rw [if_neg h23] at hc;cases hc
  rw [if_pos h23] at hc
  obtain ⟨ad8,A7,c7,e8,hz,hz_,hzc⟩:=at_L3 (Kd.N_reads' HS.out).2.2 fb h20 h23
  cases e8
  have HZ:=am hz
  clear hz
  generalize hrow : rd_L3 xs fb = row at *
  clear hrow
  by_cases h24 : fn < (row.length : Int)
  case neg=>rw [if_neg h24] at hc;cases hc
  rw [if_pos h24] at hc
  obtain ⟨adz,ez,hz2⟩:=Kd.at_int hzc fn h22 h24
  cases ez
  have HZ2:=am hz2
  clear hz2 hzc hz_
  obtain rfl:=Option.some.inj hc
  clear hc
  go_wp2_with (first | ((refine gate_dst (N:=11) rfl ?_);refine box_event rfl (N:=11) rfl (cs:=#[.slice none 0 0,.int .i64 0,.slice none 0 0,.int .i64 0,.int .i64 0,.slice none 0 0]) (t:=110) ?hr ?_;(case hr=>go_simp;try rfl);intro ga hg w2 hbox hb;have GA:=am (show w.heap.size≤ga by have:=HB.out.size;omega);have GA2:=am (Nat.le_of_eq hg.symm);have NB:=am hb;have n3:=(bmv HB hb);have BKga:=am hbox;clear hg hb hbox HB;have HB:=n3;clear n3;have hczga_0:=cO1 BKga.out;have hfzga_0:=blk_frozen BKga.out 0;have hczga_1 : w2.cell? ⟨ga,1,none⟩ = some (.int .i64 0):=(blk_cell BKga.out 1).trans rfl;have hfzga_1:=blk_frozen BKga.out 1;have hczga_2 : w2.cell? ⟨ga,2,none⟩ = some (.slice none 0 0):=(blk_cell BKga.out 2).trans rfl;have hfzga_2:=blk_frozen BKga.out 2;have hczga_3 : w2.cell? ⟨ga,3,none⟩ = some (.int .i64 0):=(blk_cell BKga.out 3).trans rfl;have hfzga_3:=blk_frozen BKga.out 3;have hczga_4 : w2.cell? ⟨ga,4,none⟩ = some (.int .i64 0):=(blk_cell BKga.out 4).trans rfl;have hfzga_4:=blk_frozen BKga.out 4;have hczga_5 : w2.cell? ⟨ga,5,none⟩ = some (.slice none 0 0):=(blk_cell BKga.out 5).trans rfl;have hfzga_5:=blk_frozen BKga.out 5) | ((with_reducible refine gate_store (t:=110) (p:=11) rfl ?_);refine skip_abs (fun W'=>W'.heap[ga]? = some (.cells #[.slice A0_ x.f0.f0.f0.length c0_,.int .i64 x.f0.f0.f1,.slice A2 x.f0.f1.length c2,.int .i64 x.f0.f2,.int .i64 x.f0.f3,.slice A5 x.f1.length c5] 110 (0,0))∧Below wr.heap.size wr W'∧Below w.heap.size w W') ?hg ?hd ?hr ⟨(blk_set (blk_set (blk_set (blk_set (blk_set (blk_set BKga.out 0 _) 1 _) 2 _) 3 _) 4 _) 5 _).trans rfl,(below_set (below_set (below_set (below_set (below_set (below_set NB.out GA2.out) GA2.out) GA2.out) GA2.out) GA2.out) GA2.out),(below_set (below_set (below_set (below_set (below_set (below_set HB.out GA.out) GA.out) GA.out) GA.out) GA.out) GA.out)⟩ ?_;(case hg=>rfl);(case hd=>rfl);(case hr=>go_simp;try rfl);rintro w4 ⟨k1,k2,k3⟩;(try clear hczga_0 hczga_1 hczga_2 hczga_3 hczga_4 hczga_5);(try clear hfzga_0 hfzga_1 hfzga_2 hfzga_3 hfzga_4 hfzga_5);clear BKga NB HB;have BKga:=am k1;have NB:=am k2;have HB:=am k3;clear k1 k2 k3;obtain ⟨hczga_0,hczga_1,hczga_2,hczga_3,hczga_4,hczga_5⟩:=cO6 BKga.out;have hf0 : w4.cell? _ = _:=(HB.out.cell (wbl HF0.out)).trans HF0.out;have hf1 : w4.cell? _ = _:=(HB.out.cell (wbl HF1.out)).trans HF1.out) | ((refine gate_dst (N:=12) rfl ?_);refine box_event rfl (N:=12) rfl (cs:=#[.int .i64 0,.int .i64 0]) (t:=66) ?hr ?_;(case hr=>go_simp;try rfl);intro gb hg w5 hbox hb;have HNab:=am (show ga ≠ gb by have:=blk_lt BKga.out;omega);have GB:=am (show w.heap.size≤gb by have:=HB.out.size;omega);have GB2:=am (show wr.heap.size≤gb by have:=NB.out.size;omega);have n1:=(kmv hb BKga);have n2:=am (below_then NB.out NB.out.size hb);have n3:=(bmv HB hb);have BKgb:=am hbox;(try clear hczga_0 hczga_1 hczga_2 hczga_3 hczga_4 hczga_5);(try clear hfzga_0 hfzga_1 hfzga_2 hfzga_3 hfzga_4 hfzga_5);(try clear hf0 hf1);clear hg hb hbox HB NB BKga;have BKga:=n1;have NB:=n2;have HB:=n3;clear n1 n2 n3;have hczgb_0:=cO1 BKgb.out;have hfzgb_0:=blk_frozen BKgb.out 0;have hczgb_1 : w5.cell? ⟨gb,1,none⟩ = some (.int .i64 0):=(blk_cell BKgb.out 1).trans rfl;have hfzgb_1:=blk_frozen BKgb.out 1;have hf0 : w5.cell? _ = _:=(HB.out.cell (wbl HF0.out)).trans HF0.out;have hf1 : w5.cell? _ = _:=(HB.out.cell (wbl HF1.out)).trans HF1.out) | ((with_reducible refine gate_store (t:=66) (p:=12) rfl ?_);refine skip_abs (fun W'=>W'.heap[ga]? = some (.cells #[.slice A0_ x.f0.f0.f0.length c0_,.int .i64 x.f0.f0.f1,.slice A2 x.f0.f1.length c2,.int .i64 x.f0.f2,.int .i64 x.f0.f3,.slice A5 x.f1.length c5] 110 (0,0))∧W'.heap[gb]? = some (.cells #[.int .i64 fb,.int .i64 fn] 66 (0,0))∧Below wr.heap.size wr W'∧Below w.heap.size w W') ?hg ?hd ?hr ⟨(obj_far (p:=⟨gb,1,none⟩) (obj_far (p:=⟨gb,0,none⟩) BKga.out HNab.out (.int .i64 fb)) HNab.out (.int .i64 fn)),(blk_set (blk_set BKgb.out 0 _) 1 _).trans rfl,(below_set (below_set NB.out GB2.out) GB2.out),(below_set (below_set HB.out GB.out) GB.out)⟩ ?_;(case hg=>rfl);(case hd=>rfl);(case hr=>go_simp;try rfl);rintro w6 ⟨k1,k4,k2,k3⟩;(try clear hczga_0 hczga_1 hczga_2 hczga_3 hczga_4 hczga_5);(try clear hfzga_0 hfzga_1 hfzga_2 hfzga_3 hfzga_4 hfzga_5);(try clear hczgb_0 hczgb_1);(try clear hfzgb_0 hfzgb_1);(try clear hf0 hf1);clear BKga BKgb NB HB;have BKga:=am k1;have BKgb:=am k4;have NB:=am k2;have HB:=am k3;clear k1 k2 k3 k4;obtain ⟨hczga_0,hczga_1,hczga_2,hczga_3,hczga_4,hczga_5⟩:=cO6 BKga.out;obtain ⟨hczgb_0,hczgb_1⟩:=cO2 BKgb.out;have hy:=(NB.out.cell (World.block_lt_of_cell? wr _ HY.out)).trans HY.out;have hz:=(NB.out.cell (World.block_lt_of_cell? wr _ HZ.out)).trans HZ.out;have hz2:=(NB.out.cell (World.block_lt_of_cell? wr _ HZ2.out)).trans HZ2.out))
  go_quiet (fail)
  go_wp2_with (first | (go_at_call 71;(refine (gf_shares.calls k A0_ c0_ x.f0.f0.f0 x.f0.f0.f1 A2 c2 x.f0.f1 x.f0.f2 x.f0.f3 A5 c5 x.f1 (rd row fn) t1 t2 _ (kC HI0.out (pw_below_drewN HB.out _)) HL0_.out (kC HI2.out (pw_below_drewN HB.out _)) HL2_.out (kC HI5.out (pw_below_drewN HB.out _)) HL5_.out HT.out).mono ?_);rintro e wc ⟨v0_,rfl,hr,hb⟩;have n1:=am (below_then (pw_below_drewN HB.out _) (pw_below_drewN HB.out _).size hb);have n2:=am (below_then (pw_below_drewN NB.out _) (pw_below_drewN NB.out _).size hb);have HV:=am (Kd.R_lower hr (pw_below_drewN NB.out _).size);(try clear hczga_0 hczga_1 hczga_2 hczga_3 hczga_4 hczga_5);(try clear hfzga_0 hfzga_1 hfzga_2 hfzga_3 hfzga_4 hfzga_5);(try clear hczgb_0 hczgb_1);(try clear hfzgb_0 hfzgb_1);(try clear hy);(try clear hz);(try clear hz2);(try clear BKgb);clear HB NB hb hr BKga;have HB:=n1;have NB:=n2;clear n1 n2;obtain ⟨A6,c6,e6⟩:=Kd.R_slice HV.out;subst e6;have HS2:=am (Kd.N_below HS.out NB.out);have HO2:=am (Kd.R_below HO.out NB.out);have HLT:=am (show ∀ k,(.slice (some ad8) xs.length c8 : Value).ownBlock = some k∨(.slice (some ad9) ys.length c9 : Value).ownBlock = some k→k < wr.heap.size from fun k hk=>hk.elim (Kd.N_lt HS.out k) (Kd.R_lt HO.out k))) | ((with_reducible refine gate_builtin (b:=.append) (xs:=#[.tmp 52,.tmp 54]) rfl ?_);at_builtin;refine Kd.N_append (Kd.slice 3 (Kd.int .i64)) (w0:=w) w.heap.size rfl (.tmp 52) (.tmp 54) 61 28 (.slice none 0 0) 24 rfl Tryz.underlying61 infoInts rfl (by decide) (by omega) (.slice (some ad8) xs.length c8) xs t1 [.slice A6 t1.length c6] (fun k_=>w.heap.size≤k_∧some k_ ≠ (.slice (some ad9) ys.length c9 : Value).ownBlock) (fun k=>wr.heap.size≤k) rfl rfl ?aP ?aK ?aF HS2.out HB.out HB.out.size ?aL ?_;(case aP=>exact rowFK HV.out);(case aK=>exact fun k hk=>⟨⟨Nat.le_trans HW9.out hk,fun he=>by have:=HLT.out k (.inr he.symm);omega⟩,fun he=>by have:=HLT.out k (.inl he.symm);omega⟩);(case aF=>exact fun k hk=>⟨Nat.le_trans HB.out.size hk,fun he=>by have:=Kd.R_lt HO2.out k he.symm;omega⟩);(case aL=>have:=HL1.out;omega);intro v1 w7 ho hb hg hat;have n1:=am ho;have n2:=am hb;have n3:=am (Kd.R_grown2 HO2.out rfl hg (fun k hk=>(HS2.out.1 k hk).2));clear ho hb hg hat HB HS2 HO2 HLT HV NB;have HS2:=n1;have HB:=n2;have HO2:=n3;clear n1 n2 n3) | ((with_reducible refine gate_builtin (b:=.append) (xs:=#[.tmp 56,.tmp 58]) rfl ?_);at_builtin;refine Kd.R_append (Kd.int .i64) (w0:=w) w.heap.size rfl (.tmp 56) (.tmp 58) 28 3 (.int .i64 0) 8 rfl Tryz.underlying28 infoInt rfl (by decide) (by omega) (.slice (some ad9) ys.length c9) ys t2 [.int .i64 t2] (fun _=>True) (fun _=>False) rfl rfl ?aP (fun _ hk=>hk.elim) (fun _ _=>trivial) HO2.out HB.out HB.out.size ?aL ?_;(case aP=>exact rfl);(case aL=>have:=HL2.out;omega);intro v2 w8 ho hb hg hat;have n1:=am ho;have n2:=am hb;have n3:=am (N_after9 HS2.out hg hat);clear ho hb hg hat HB HS2 HO2;have HO2:=n1;have HB:=n2;have HS2:=n3;clear n1 n2 n3))
  go_roundw
  case rel=>exact ⟨rd row fn,i + 1,xs ++ [t1],ys ++ [t2],by omega,by omega,rfl,by go_num,HQ,HS2,HO2,HB⟩
  case measure=>simp [intOf];omega
set_option linter.unusedSimpArgs false
set_option linter.unusedSimpArgs false
section
attribute [local go_sem] max2_int min2_int max_two min_two
set_option linter.unusedSimpArgs false
set_option linter.unusedSimpArgs false
def nz_sum.l0 : Nat→Int→List Int→Int→Int→Option (Int)
 | 0,_,_,_,_=>none
 | k + 1,x3,x6,x7,x8=>if x8 < x7 then (if 0≤x8 then (if x8 < (x6.length : Int) then (nz_sum.l0 k (wrap64 (x3 + (rd x6 x8))) x6 x7 (wrap64 (x8 + 1))) else (none)) else (none)) else (some x3)
def nz_sum.f (k : Nat) (l0 : List Int) : Option (Int):=nz_sum.l0 k 0 l0 (l0.length : Int) 0
theorem nz_sum.calls (k : Nat) (A0 : Option Addr) (c0 : Nat) (l0 : List Int) (r : Int) (w : World) (hr0 : Kd.C (Kd.int .i64) w A0 l0.length l0) (hc0 : l0.length≤c0) (h : nz_sum.f k l0 = some r) :
 Calls Tryz.prog 141 #[.slice A0 l0.length c0] w fun e w'=>e = .returned (.int .i64 r)∧Drawn0 w w':=by
 have HR0:=am hr0
 have HC0:=am hc0
 clear hr0 hc0
 have H : (nz_sum.l0 k 0 l0 (l0.length : Int) 0) = some r:=h
 clear h
 replace H':=am H
 go_enter Tryz.func141,Tryz.ntmps141
 go_wp2
 go_loopg [3,8] k (fun kq v3 v8 w'=>∃ (x3_1 : Int) (x8_1 : Int),v3 = .int .i64 x3_1∧v8 = .int .i64 x8_1∧Aside0 (nz_sum.l0 kq x3_1 l0 (l0.length : Int) x8_1 = some r)∧Aside0 (kq≤k)∧Drawn0 w w')
 case atStart=>exact ⟨(0),(0),(by first | rfl | (simp;done) | (simp [*];done)),(by first | rfl | (simp;done) | (simp [*];done)),H',⟨Nat.le_refl _⟩,by repeat (first | exact Drawn0.refl _ | apply Drawn0.step)⟩
 case round =>
  clear H'
  obtain ⟨x3_1,x8_1,rfl,rfl,HA,HK1,⟨m1,rfl⟩⟩:=hrel
  cases gk with
  | zero=>exact absurd HA.out (by simp [nz_sum.l0])
  | succ k1 =>
   have H:=HA.out
   clear HA
   simp only [nz_sum.l0] at H
   by_cases c2 : x8_1 < (l0.length : Int)
   case neg =>
    rw [if_neg c2] at H
    have c2b0 : decide (x8_1 < (l0.length : Int)) = false:=decide_eq_false c2
    clear c2
    obtain rfl:=Option.some.inj H
    go_wp2
    go_ret
    exact ⟨by first | rfl | (simp;done) | (simp [*];done),by repeat (first | exact Drawn0.refl _ | apply Drawn0.step)⟩
   rw [if_pos c2] at H
   have c2b0 : decide (x8_1 < (l0.length : Int)) = true:=decide_eq_true c2
   clear c2
   by_cases c3 : 0≤x8_1
   case neg =>
    rw [if_neg c3] at H
    exact absurd H (by simp)
   rw [if_pos c3] at H
   have c3b0 : decide (0≤x8_1) = true:=decide_eq_true c3
   clear c3
   by_cases c4 : x8_1 < (l0.length : Int)
   case neg =>
    rw [if_neg c4] at H
    exact absurd H (by simp)
   rw [if_pos c4] at H
   have c4b0 : decide (x8_1 < (l0.length : Int)) = true:=decide_eq_true c4
   clear c4
   replace H':=am H
   have p143 : 0≤(x8_1 : Int):=of_decide_eq_true (by assumption)
   have q143 : x8_1 < (l0.length : Int):=of_decide_eq_true (by assumption)
   obtain ⟨ad143,e143,hx143_0⟩:=Kd.at_int HR0.out x8_1 p143 q143
   cases e143
   replace p143:=eq_true p143
   replace q143:=eq_true q143
   go_wp2
   go_roundg k1
   case measure=>have:=HK1.out;omega
   case rel=>exact ⟨(wrap64 (x3_1 + (rd l0 x8_1))),(wrap64 (x8_1 + 1)),(by first | rfl | (simp;done) | (simp [*];done)),(by first | rfl | (simp;done) | (simp [*];done)),H',⟨by have:=HK1.out;omega⟩,by repeat (first | exact Drawn0.refl _ | apply Drawn0.step)⟩
def nz_gives.l0 : Nat→List Int→List Int→Int→Int→List (S126)→Int→Option (Int)
 | 0,_,_,_,_,_,_=>none
 | k + 1,x5,x8,x9,x10,x145000,x145001=>if x10 < x9 then (if 0≤x10 then (if x10 < (x8.length : Int) then (if 0≤(rd x8 x10) then (if (rd x8 x10) < (x145000.length : Int) then (if x5.length < 17592186044416 then (nz_gives.l0 k (x5 ++ [(rd_T126 x145000 (rd x8 x10)).f2]) x8 x9 (wrap64 (x10 + 1)) x145000 x145001) else (none)) else (none)) else (none)) else (none)) else (none)) else ((nz_sum.f k x5).bind fun t150=>(some t150))
def nz_gives.f (k : Nat) (l0_0 : List (S126)) (a0_1 : Int) (l1 : List Int) : Option (Int):=nz_gives.l0 k ([] : List Int) l1 (l1.length : Int) 0 l0_0 a0_1
theorem nz_gives.calls (k : Nat) (A0_0 : Option Addr) (c0_0 : Nat) (l0_0 : List (S126)) (a0_1 : Int) (A1 : Option Addr) (c1 : Nat) (l1 : List Int) (r : Int) (w : World) (hr0_0 : Kd.C k126 w A0_0 l0_0.length l0_0) (hc0_0 : l0_0.length≤c0_0) (hr1 : Kd.C (Kd.int .i64) w A1 l1.length l1) (hc1 : l1.length≤c1) (h : nz_gives.f k l0_0 a0_1 l1 = some r) :
 Calls Tryz.prog 130 #[.agg #[.slice A0_0 l0_0.length c0_0,.int .i64 a0_1],.slice A1 l1.length c1] w fun e w'=>e = .returned (.int .i64 r)∧Below w.heap.size w w':=by
 have hu24:=Tryz.underlying24
 have HR0_0:=am hr0_0
 have HC0_0:=am hc0_0
 clear hr0_0 hc0_0
 have HR1:=am hr1
 have HC1:=am hc1
 clear hr1 hc1
 have HB:=am (Below.refl w.heap.size w)
 have H : (nz_gives.l0 k ([] : List Int) l1 (l1.length : Int) 0 l0_0 a0_1) = some r:=h
 clear h
 replace H':=am H
 go_enter Tryz.func130,Tryz.ntmps130
 go_wp2_with (first | ((refine gate_dst (N:=2) rfl ?_);refine box_event rfl (N:=2) rfl (cs:=#[.slice A0_0 l0_0.length c0_0,.int .i64 a0_1]) (t:=24) ?hr ?_;(case hr=>go_simp;try rfl);intro gb144 hg w3 hbox hb;have BK144:=am (hbox);have GW144:=am (ge_new (HB.out) hg);have GE144:=am (ge_new (HB.out) hg);replace HB:=am (below_step (HB.out) hb);clear hb hbox hg))
 go_loopg [5,10] k (fun kq v5 v10 w'=>∃ (x5_1 : List Int) (x10_1 : Int),v10 = .int .i64 x10_1∧Aside0 (nz_gives.l0 kq x5_1 l1 (l1.length : Int) x10_1 l0_0 a0_1 = some r)∧Aside0 (kq≤k)∧Aside0 (Kd.R (Kd.int .i64) 3 w' w.heap.size (fun _=>True) v5 x5_1)∧Aside0 (w'.heap[gb144]? = some (.cells #[(.slice A0_0 l0_0.length c0_0),.int .i64 a0_1] 24 (0,0)))∧Aside0 (Below w.heap.size w w'))
 case atStart=>exact ⟨(([] : List Int)),(0),(by first | rfl | (simp;done) | (simp [*];done)),H',⟨Nat.le_refl _⟩,⟨by first | exact Kd.R_nil _ _ _ _ _ | exact Kd.N_nil _ _ _ _ _ | exact Kd.V_nil _ _ _ _ _ | exact Kd.Q_nil _ _ _ _ _ | exact Kd.S_nil _ _ _ _ _⟩,⟨BK144.out⟩,⟨HB.out⟩⟩
 case round =>
  clear H'
  obtain ⟨x5_1,x10_1,rfl,HA,HK1,HO_5,BK144,HB⟩:=hrel
  cases gk with
  | zero=>exact absurd HA.out (by simp [nz_gives.l0])
  | succ k1 =>
   have H:=HA.out
   clear HA
   simp only [nz_gives.l0] at H
   by_cases c4 : x10_1 < (l1.length : Int)
   case neg =>
    rw [if_neg c4] at H
    have c4b0 : decide (x10_1 < (l1.length : Int)) = false:=decide_eq_false c4
    clear c4
    replace H:=obm H
    obtain ⟨t150,A120,H⟩:=H
    replace H : (some t150) = some r:=H
    have A12:=am A120
    clear A120
    obtain rfl:=Option.some.inj H
    obtain ⟨Ao13,co13,eo13⟩:=Kd.R_slice HO_5.out
    subst eo13
    go_wp2_with (first | ((with_reducible refine gate_callee (f:=141) rfl ?_);refine goesL_ (some 25) rfl rfl Tryz.func141 (by kernel_rfl) rfl #[.slice Ao13 x5_1.length co13] rfl (by (try simp only [List.map_toArray,List.map_cons,List.map_nil]);first | done | rfl | (simp only [List.length_drop,List.length_take];rfl)) ?_;(refine (nz_sum.calls k1 _ _ x5_1 t150 _ ?side1 ?side2 A12.out).mono ?_);(case side1=>repeat (first | exact (Kd.R_reads' HO_5.out).2.2 | (with_reducible refine Kd.C_alloc ?_ _) | (with_reducible refine Kd.C_drewN ?_ _) | (with_reducible refine Kd.C_drew ?_)));(case side2=>exact (Kd.R_reads' HO_5.out).2.1);rintro e w' ⟨rfl,⟨nd,rfl⟩⟩;refine ⟨_,rfl,?_⟩))
    go_ret
    exact ⟨by first | rfl | (simp [*]<;>rfl),pw_below_drewN HB.out _⟩
   rw [if_pos c4] at H
   have c4b0 : decide (x10_1 < (l1.length : Int)) = true:=decide_eq_true c4
   clear c4
   by_cases c5 : 0≤x10_1
   case neg =>
    rw [if_neg c5] at H
    exact absurd H (by simp)
   rw [if_pos c5] at H
   have c5b0 : decide (0≤x10_1) = true:=decide_eq_true c5
   clear c5
   by_cases c6 : x10_1 < (l1.length : Int)
   case neg =>
    rw [if_neg c6] at H
    exact absurd H (by simp)
   rw [if_pos c6] at H
   have c6b0 : decide (x10_1 < (l1.length : Int)) = true:=decide_eq_true c6
   clear c6
   by_cases c7 : 0≤(rd l1 x10_1)
   case neg =>
    rw [if_neg c7] at H
    exact absurd H (by simp)
   rw [if_pos c7] at H
   have c7b0 : decide (0≤(rd l1 x10_1)) = true:=decide_eq_true c7
   clear c7
   by_cases c8 : (rd l1 x10_1) < (l0_0.length : Int)
   case neg =>
    rw [if_neg c8] at H
    exact absurd H (by simp)
   rw [if_pos c8] at H
   have c8b0 : decide ((rd l1 x10_1) < (l0_0.length : Int)) = true:=decide_eq_true c8
   clear c8
   by_cases c9 : x5_1.length < 17592186044416
   case neg =>
    rw [if_neg c9] at H
    exact absurd H (by simp)
   rw [if_pos c9] at H
   have LMc9:=am c9
   clear c9
   obtain ⟨y147,hy147⟩ : ∃ y_ : List Int,y_ = (x5_1 ++ [(rd_T126 l0_0 (rd l1 x10_1)).f2]):=⟨_,rfl⟩
   replace H : (nz_gives.l0 k1 y147 l1 (l1.length : Int) (wrap64 (x10_1 + 1)) l0_0 a0_1) = some r:=by first | (rw [hy147];with_reducible exact H) | (have H2_:=(Option.bind_some _ _).symm.trans H;rw [hy147];with_reducible exact H2_) | (have H2_:=(Option.bind_some _ _).symm.trans H;with_reducible exact H2_) | with_reducible exact H | (rw [hy147];exact H) | exact H
   have Ny147:=am hy147
   clear hy147
   replace H':=am H
   have p145 : 0≤(x10_1 : Int):=of_decide_eq_true (by assumption)
   have q145 : x10_1 < (l1.length : Int):=of_decide_eq_true (by assumption)
   obtain ⟨ad145,e145,hx145_0⟩:=Kd.at_int HR1.out x10_1 p145 q145
   cases e145
   replace hx145_0:=(HB.out.cell (wbl hx145_0)).trans hx145_0
   replace p145:=eq_true p145
   replace q145:=eq_true q145
   obtain ⟨hcz10_0,hcz10_1⟩:=cO2 BK144.out
   have p146 : 0≤((rd l1 x10_1) : Int):=of_decide_eq_true (by assumption)
   have q146 : (rd l1 x10_1) < (l0_0.length : Int):=of_decide_eq_true (by assumption)
   obtain ⟨ad146,e146,hx146_0,hx146_1,hx146_2⟩:=at_T126 HR0_0.out (rd l1 x10_1) p146 q146
   cases e146
   replace hx146_0:=(HB.out.cell (wbl hx146_0)).trans hx146_0
   replace hx146_1:=(HB.out.cell (wbl hx146_1)).trans hx146_1
   replace hx146_2:=(HB.out.cell (wbl hx146_2)).trans hx146_2
   replace p146:=eq_true p146
   replace q146:=eq_true q146
   go_wp2_with (first | ((with_reducible refine gate_builtin (b:=.append) (xs:=#[.tmp 14,.tmp 21]) rfl ?_);at_builtin;refine Kd.R_append (Kd.int .i64) (w0:=w) w.heap.size rfl (.tmp 14) (.tmp 21) 28 3 (.int .i64 0) 8 rfl Tryz.underlying28 info3 rfl (by decide) (by omega) u5 x5_1 ((rd_T126 l0_0 (rd l1 x10_1)).f2) [.int .i64 ((rd_T126 l0_0 (rd l1 x10_1)).f2)] (fun _=>True) (fun _=>False) rfl rfl ?aP (fun _ hk=>hk.elim) ?aF ?aO ?aB ?aS ?aL ?_;(case aP=>exact rfl);(case aB=>exact (HB.out));(case aF=>exact (fun _ _=>trivial));(case aO=>exact HO_5.out);(case aS=>exact (below_size (HB.out)));(case aL=>have:=LMc9.out;omega);intro v148 w11 ho hb hg hat;rw [← Ny147.out] at ho;have n0_:=am (blk_grown (g:=gb144) (o:=.cells #[.slice (some ad146) l0_0.length c0_0,.int .i64 a0_1] 24 (0,0)) BK144.out hg (Kd.R_ne HO_5.out BK144.out (by decide)));have n1_:=am (hb);have n2_:=am (ho);clear BK144;clear HB;clear HO_5;have BK144:=n0_;have HB:=n1_;have HO149:=n2_;clear n0_ n1_ n2_;clear ho hb hg hat))
   go_roundg k1
   case measure=>have:=HK1.out;omega
   case rel=>exact ⟨(y147),(wrap64 (x10_1 + 1)),(by first | rfl | (simp;done) | (simp [*];done)),H',⟨by have:=HK1.out;omega⟩,⟨by (with_reducible repeat (first | apply Kd.R_alloc | apply Kd.R_drewN | apply Kd.R_drew));exact HO149.out⟩,⟨BK144.out⟩,⟨HB.out⟩⟩
end
def Pred_isSet (g : Nat) (q : Int→Option Bool) (w : World) (xs : List Int) : Prop:=∀ (x : Int) (b : Bool) (W : World) ,x ∈ xs→q x = some b→Below w.heap.size w W→
 Calls Tryz.prog 139 #[.int .i64 x,.pointer (some ⟨g,0,none⟩)] W fun e W'=>e = .returned (.bool b)∧Below W.heap.size W W'
theorem idx_isSet (g : Nat) (q : Int→Option Bool) (A : Option Addr) (c : Nat) (xs : List Int) (r : Int) (w : World) (hr : Kd.C (Kd.int .i64) w A xs.length xs) (hp : Pred_isSet g q w xs) (h : idxM q xs 0 = some r) :
 Calls Tryz.prog 105 #[.slice A xs.length c,.func (.func 139) #[] #[.pointer (some ⟨g,0,none⟩)]] w fun e w'=>e = .returned (.int .i64 r)∧Below w.heap.size w w':=by
 have HR:=am hr
 have HP:=am hp
 have HQ:=am (show idxM q (xs.drop (0 : Int).toNat) 0 = some r from h)
 have hm : xs.length≤9223372036854775807:=Kd.C_max hr
 clear hr hp h
 go_enter Tryz.func105,Tryz.ntmps105
 go_wp2
 go_loopw [5,8] (fun v5 v8 w'=>∃ i : Int,0≤i∧i≤xs.length∧v8 = .int .i64 i∧Aside0 (idxM q (xs.drop i.toNat) i = some r)∧Aside0 (Below w.heap.size w w')) (fun _ v8 _=>xs.length - (intOf v8).toNat)
 case atStart=>exact ⟨0,by omega,by omega,rfl,HQ,⟨Below.refl _ _⟩⟩
 case round =>
  clear HQ
  obtain ⟨i,p1,hi,rfl,HQ,HB⟩:=hrel
  by_cases hlt : i < (xs.length : Int)
  case neg =>
   go_wp2
   go_ret
   exact ⟨ret_int_eq (idxM_end (by omega) HQ.out),HB.out⟩
  obtain ⟨ad,e1,hx0⟩:=Kd.at_int HR.out i p1 hlt
  cases e1
  replace hx0:=(HB.out.cell (wbl hx0)).trans hx0
  rcases idxM_step (0 : Int) p1 hlt HQ.out with ⟨hq,he⟩ | ⟨hq,hn⟩
  ·have H1:=am hq
   have X1:=am (getD_mem (0 : Int) p1 hlt)
   have H2:=am he
   clear hq he
   go_wp2_with (go_at_call 139;refine (HP.out (xs.getD i.toNat (0 : Int)) _ _ X1.out H1.out HB.out).mono ?_;rintro e W' ⟨rfl,hb⟩)
   go_ret
   exact ⟨ret_int_eq H2.out,below_then HB.out HB.out.size hb⟩
  ·have H1:=am hq
   have X1:=am (getD_mem (0 : Int) p1 hlt)
   have H2:=am hn
   clear hq hn
   go_wp2_with (go_at_call 139;refine (HP.out (xs.getD i.toNat (0 : Int)) _ _ X1.out H1.out HB.out).mono ?_;rintro e W' ⟨rfl,hb⟩)
   go_roundw
   case rel=>exact ⟨i + 1,by omega,by omega,by go_num,H2,⟨below_then HB.out HB.out.size hb⟩⟩
   case measure=>simp [intOf];omega
theorem any_isSet (g : Nat) (q : Int→Option Bool) (A : Option Addr) (c : Nat) (xs : List Int) (r : Bool) (w : World) (hr : Kd.C (Kd.int .i64) w A xs.length xs) (hp : Pred_isSet g q w xs) (h : anyM q xs = some r) :
 Calls Tryz.prog 65 #[.slice A xs.length c,.func (.func 139) #[] #[.pointer (some ⟨g,0,none⟩)]] w fun e w'=>e = .returned (.bool r)∧Below w.heap.size w w':=by
 obtain ⟨j,hj,hd⟩:=idxM_of_anyM q xs 0 r (by omega) h
 have H1:=am hj
 have H2:=am hd
 have HR:=am hr
 have HP:=am hp
 clear hr hp h hj hd
 go_enter Tryz.func65,Tryz.ntmps65
 go_wp2_with (go_at_call 105;refine (idx_isSet g q _ _ xs j _ HR.out HP.out H1.out).mono ?_;rintro e W' ⟨rfl,hb⟩)
 go_ret
 exact ⟨ret_bool_eq H2.out,hb⟩
section
attribute [local go_sem] max2_int min2_int max_two min_two
def cmp_isNaN_int.f (a0 : Int) : Option (Bool):=some (a0 != a0)
theorem cmp_isNaN_int.calls (a0 : Int) (r : Bool) (w : World) (h : cmp_isNaN_int.f a0 = some r) :
 Calls Tryz.prog 156 #[.int .i64 a0] w fun e w'=>e = .returned (.bool r)∧Drawn0 w w':=by
 have H : (some (a0 != a0)) = some r:=h
 clear h
 obtain rfl:=Option.some.inj H
 go_enter Tryz.func156,Tryz.ntmps156
 go_wp2
 go_ret
 exact ⟨by first | rfl | (simp;done) | (simp [*];done),by repeat (first | exact Drawn0.refl _ | apply Drawn0.step)⟩
def cmp_Less_int.f (a0 : Int) (a1 : Int) : Option (Bool):=(cmp_isNaN_int.f a0).bind fun t138=>(if t138 = true then ((cmp_isNaN_int.f a1).bind fun t139=>(if t139 = true then (some (decide (a0 < a1))) else (some true))) else (some (decide (a0 < a1))))
theorem cmp_Less_int.calls (a0 : Int) (a1 : Int) (r : Bool) (w : World) (h : cmp_Less_int.f a0 a1 = some r) :
 Calls Tryz.prog 147 #[.int .i64 a0,.int .i64 a1] w fun e w'=>e = .returned (.bool r)∧Drawn0 w w':=by
 have H : ((cmp_isNaN_int.f a0).bind fun t138=>(if t138 = true then ((cmp_isNaN_int.f a1).bind fun t139=>(if t139 = true then (some (decide (a0 < a1))) else (some true))) else (some (decide (a0 < a1))))) = some r:=h
 clear h
 replace H:=obm H
 obtain ⟨t138,A30,H⟩:=H
 replace H : (if t138 = true then ((cmp_isNaN_int.f a1).bind fun t139=>(if t139 = true then (some (decide (a0 < a1))) else (some true))) else (some (decide (a0 < a1)))) = some r:=H
 have A3:=am A30
 clear A30
 by_cases c4 : t138 = true
 case neg =>
  replace c4:=Bool.eq_false_iff.mpr c4
  subst c4
  replace H : (some (decide (a0 < a1))) = some r:=by rw [if_neg (show ¬ (false = true) by decide)] at H;exact H
  obtain rfl:=Option.some.inj H
  go_enter Tryz.func147,Tryz.ntmps147
  go_wp2_with (first | ((with_reducible refine gate_callee (f:=156) rfl ?_);refine goesL_ (some 6) rfl rfl Tryz.func156 (by kernel_rfl) rfl #[.int .i64 a0] rfl (by (try simp only [List.map_toArray,List.map_cons,List.map_nil]);first | done | rfl | (simp only [List.length_drop,List.length_take];rfl)) ?_;(refine (cmp_isNaN_int.calls a0 false _ A3.out).mono ?_);rintro e w' ⟨rfl,⟨nd,rfl⟩⟩;refine ⟨_,rfl,?_⟩))
  go_ret
  exact ⟨by first | rfl | (simp;done) | (simp [*];done),by repeat (first | exact Drawn0.refl _ | apply Drawn0.step)⟩
 subst c4
 replace H : ((cmp_isNaN_int.f a1).bind fun t139=>(if t139 = true then (some (decide (a0 < a1))) else (some true))) = some r:=by rw [if_pos rfl] at H;exact H
 replace H:=obm H
 obtain ⟨t139,A50,H⟩:=H
 replace H : (if t139 = true then (some (decide (a0 < a1))) else (some true)) = some r:=H
 have A5:=am A50
 clear A50
 by_cases c6 : t139 = true
 ·subst c6
  replace H : (some (decide (a0 < a1))) = some r:=by rw [if_pos rfl] at H;exact H
  obtain rfl:=Option.some.inj H
  go_enter Tryz.func147,Tryz.ntmps147
  go_wp2_with (first | ((with_reducible refine gate_callee (f:=156) rfl ?_);refine goesL_ (some 6) rfl rfl Tryz.func156 (by kernel_rfl) rfl #[.int .i64 a0] rfl (by (try simp only [List.map_toArray,List.map_cons,List.map_nil]);first | done | rfl | (simp only [List.length_drop,List.length_take];rfl)) ?_;(refine (cmp_isNaN_int.calls a0 true _ A3.out).mono ?_);rintro e w' ⟨rfl,⟨nd,rfl⟩⟩;refine ⟨_,rfl,?_⟩) | (go_at_call 156;(refine (cmp_isNaN_int.calls a1 true _ A5.out).mono ?_);rintro e w' ⟨rfl,⟨nd,rfl⟩⟩))
  go_ret
  exact ⟨by first | rfl | (simp;done) | (simp [*];done),by repeat (first | exact Drawn0.refl _ | apply Drawn0.step)⟩
 ·replace c6:=Bool.eq_false_iff.mpr c6
  subst c6
  replace H : (some true) = some r:=by rw [if_neg (show ¬ (false = true) by decide)] at H;exact H
  obtain rfl:=Option.some.inj H
  go_enter Tryz.func147,Tryz.ntmps147
  go_wp2_with (first | ((with_reducible refine gate_callee (f:=156) rfl ?_);refine goesL_ (some 6) rfl rfl Tryz.func156 (by kernel_rfl) rfl #[.int .i64 a0] rfl (by (try simp only [List.map_toArray,List.map_cons,List.map_nil]);first | done | rfl | (simp only [List.length_drop,List.length_take];rfl)) ?_;(refine (cmp_isNaN_int.calls a0 true _ A3.out).mono ?_);rintro e w' ⟨rfl,⟨nd,rfl⟩⟩;refine ⟨_,rfl,?_⟩) | (go_at_call 156;(refine (cmp_isNaN_int.calls a1 false _ A5.out).mono ?_);rintro e w' ⟨rfl,⟨nd,rfl⟩⟩))
  go_ret
  exact ⟨by first | rfl | (simp;done) | (simp [*];done),by repeat (first | exact Drawn0.refl _ | apply Drawn0.step)⟩
def sl_IsSorted_int_int.l0 : Nat→List Int→Int→Option (Bool)
 | 0,_,_=>none
 | k + 1,x0,x3=>if x3 > 0 then (if 0≤x3 then (if x3 < (x0.length : Int) then (if 0≤(wrap64 (x3 - 1)) then (if (wrap64 (x3 - 1)) < (x0.length : Int) then ((cmp_Less_int.f (rd x0 x3) (rd x0 (wrap64 (x3 - 1)))).bind fun t142=>(if t142 = true then (some false) else (sl_IsSorted_int_int.l0 k x0 (wrap64 (x3 - 1))))) else (none)) else (none)) else (none)) else (none)) else (some true)
def sl_IsSorted_int_int.f (k : Nat) (l0 : List Int) : Option (Bool):=sl_IsSorted_int_int.l0 k l0 (wrap64 ((l0.length : Int) - 1))
theorem sl_IsSorted_int_int.calls (k : Nat) (A0 : Option Addr) (c0 : Nat) (l0 : List Int) (r : Bool) (w : World) (hr0 : Kd.C (Kd.int .i64) w A0 l0.length l0) (hc0 : l0.length≤c0) (h : sl_IsSorted_int_int.f k l0 = some r) :
 Calls Tryz.prog 138 #[.slice A0 l0.length c0] w fun e w'=>e = .returned (.bool r)∧Drawn0 w w':=by
 have HR0:=am hr0
 have HC0:=am hc0
 clear hr0 hc0
 have H : (sl_IsSorted_int_int.l0 k l0 (wrap64 ((l0.length : Int) - 1))) = some r:=h
 clear h
 replace H':=am H
 go_enter Tryz.func138,Tryz.ntmps138
 go_wp2
 repeat (go_quiet (fail);try go_wp2)
 go_loopg [3] k (fun kq v3 w'=>∃ (x3_1 : Int),v3 = .int .i64 x3_1∧Aside0 (sl_IsSorted_int_int.l0 kq l0 x3_1 = some r)∧Aside0 (kq≤k)∧Drawn0 w w')
 case atStart=>exact ⟨(wrap64 ((l0.length : Int) - 1)),(by first | rfl | (simp;done) | (simp [*];done)),H',⟨Nat.le_refl _⟩,by repeat (first | exact Drawn0.refl _ | apply Drawn0.step)⟩
 case round =>
  clear H'
  obtain ⟨x3_1,rfl,HA,HK1,⟨m1,rfl⟩⟩:=hrel
  cases gk with
  | zero=>exact absurd HA.out (by simp [sl_IsSorted_int_int.l0])
  | succ k1 =>
   have H:=HA.out
   clear HA
   simp only [sl_IsSorted_int_int.l0] at H
   by_cases c2 : x3_1 > 0
   case neg =>
    rw [if_neg c2] at H
    have c2b0 : decide (0 < x3_1) = false:=decide_eq_false c2
    clear c2
    obtain rfl:=Option.some.inj H
    go_wp2
    repeat (go_quiet (fail);try go_wp2)
    go_ret
    exact ⟨by first | rfl | (simp;done) | (simp [*];done),by repeat (first | exact Drawn0.refl _ | apply Drawn0.step)⟩
   rw [if_pos c2] at H
   have c2b0 : decide (0 < x3_1) = true:=decide_eq_true c2
   clear c2
   by_cases c3 : 0≤x3_1
   case neg =>
    rw [if_neg c3] at H
    exact absurd H (by simp)
   rw [if_pos c3] at H
   have c3b0 : decide (0≤x3_1) = true:=decide_eq_true c3
   clear c3
   by_cases c4 : x3_1 < (l0.length : Int)
   case neg =>
    rw [if_neg c4] at H
    exact absurd H (by simp)
   rw [if_pos c4] at H
   have c4b0 : decide (x3_1 < (l0.length : Int)) = true:=decide_eq_true c4
   clear c4
   obtain ⟨ji5,hji5⟩ : ∃ j_ : Int,(wrap64 (x3_1 - 1)) = j_:=⟨_,rfl⟩
   replace H : (if 0≤(ji5) then (if (ji5) < (l0.length : Int) then ((cmp_Less_int.f (rd l0 x3_1) (rd l0 (ji5))).bind fun t142=>(if t142 = true then (some false) else (sl_IsSorted_int_int.l0 k1 l0 ji5))) else (none)) else (none)) = some r:=by first | (rw [hji5] at H;exact H) | (simp only [hji5] at H ⊢;exact H)
   have hji5w : (IntKind.i64.wrap (x3_1 - 1)) = ji5:=(i64_w _).trans hji5
   by_cases c6 : 0≤(ji5)
   case neg =>
    rw [if_neg c6] at H
    exact absurd H (by simp)
   rw [if_pos c6] at H
   have c6b0 : decide (0≤(ji5)) = true:=decide_eq_true c6
   clear c6
   by_cases c7 : (ji5) < (l0.length : Int)
   case neg =>
    rw [if_neg c7] at H
    exact absurd H (by simp)
   rw [if_pos c7] at H
   have c7b0 : decide ((ji5) < (l0.length : Int)) = true:=decide_eq_true c7
   clear c7
   replace H:=obm H
   obtain ⟨t142,A80,H⟩:=H
   replace H : (if t142 = true then (some false) else (sl_IsSorted_int_int.l0 k1 l0 ji5)) = some r:=H
   have A8:=am A80
   clear A80
   by_cases c9 : t142 = true
   ·subst c9
    replace H : (some false) = some r:=by rw [if_pos rfl] at H;exact H
    obtain rfl:=Option.some.inj H
    have p140 : 0≤(x3_1 : Int):=of_decide_eq_true (by assumption)
    have q140 : x3_1 < (l0.length : Int):=of_decide_eq_true (by assumption)
    obtain ⟨ad140,e140,hx140_0⟩:=Kd.at_int HR0.out x3_1 p140 q140
    cases e140
    replace p140:=eq_true p140
    replace q140:=eq_true q140
    have p141 : 0≤((ji5) : Int):=of_decide_eq_true (by assumption)
    have q141 : (ji5) < (l0.length : Int):=of_decide_eq_true (by assumption)
    obtain ⟨ad141,e141,hx141_0⟩:=Kd.at_int HR0.out (ji5) p141 q141
    obtain rfl : ad140 = ad141:=(by injection e141)
    replace p141:=eq_true p141
    replace q141:=eq_true q141
    go_wp2_with (first | (go_at_call 147;(with_reducible refine (cmp_Less_int.calls (rd l0 x3_1) (rd l0 (ji5)) true _ A8.out).mono ?_);rintro e w' ⟨rfl,⟨nd,rfl⟩⟩;(try first | exact ⟨rfl,_,World.drewN_drewN _ _ _⟩ | exact ⟨rfl,_,Eq.trans (World.drewN_drewN _ _ _) (congrArg (World.drewN _) (Nat.add_assoc _ _ _))⟩)))
    repeat (go_quiet (first | (go_at_call 147;(with_reducible refine (cmp_Less_int.calls (rd l0 x3_1) (rd l0 (ji5)) true _ A8.out).mono ?_);rintro e w' ⟨rfl,⟨nd,rfl⟩⟩;(try first | exact ⟨rfl,_,World.drewN_drewN _ _ _⟩ | exact ⟨rfl,_,Eq.trans (World.drewN_drewN _ _ _) (congrArg (World.drewN _) (Nat.add_assoc _ _ _))⟩)));try go_wp2_with (first | (go_at_call 147;(with_reducible refine (cmp_Less_int.calls (rd l0 x3_1) (rd l0 (ji5)) true _ A8.out).mono ?_);rintro e w' ⟨rfl,⟨nd,rfl⟩⟩;(try first | exact ⟨rfl,_,World.drewN_drewN _ _ _⟩ | exact ⟨rfl,_,Eq.trans (World.drewN_drewN _ _ _) (congrArg (World.drewN _) (Nat.add_assoc _ _ _))⟩))))
    go_ret
    exact ⟨by first | rfl | (simp;done) | (simp only [← hji5]<;>(first | rfl | simp)) | (simp [*];done),by repeat (first | exact Drawn0.refl _ | apply Drawn0.step)⟩
   ·replace c9:=Bool.eq_false_iff.mpr c9
    subst c9
    replace H : (sl_IsSorted_int_int.l0 k1 l0 ji5) = some r:=by rw [if_neg (show ¬ (false = true) by decide)] at H;exact H
    replace H':=am H
    have p140 : 0≤(x3_1 : Int):=of_decide_eq_true (by assumption)
    have q140 : x3_1 < (l0.length : Int):=of_decide_eq_true (by assumption)
    obtain ⟨ad140,e140,hx140_0⟩:=Kd.at_int HR0.out x3_1 p140 q140
    cases e140
    replace p140:=eq_true p140
    replace q140:=eq_true q140
    have p141 : 0≤((ji5) : Int):=of_decide_eq_true (by assumption)
    have q141 : (ji5) < (l0.length : Int):=of_decide_eq_true (by assumption)
    obtain ⟨ad141,e141,hx141_0⟩:=Kd.at_int HR0.out (ji5) p141 q141
    obtain rfl : ad140 = ad141:=(by injection e141)
    replace p141:=eq_true p141
    replace q141:=eq_true q141
    go_wp2_with (first | (go_at_call 147;(with_reducible refine (cmp_Less_int.calls (rd l0 x3_1) (rd l0 (ji5)) false _ A8.out).mono ?_);rintro e w' ⟨rfl,⟨nd,rfl⟩⟩;(try first | exact ⟨rfl,_,World.drewN_drewN _ _ _⟩ | exact ⟨rfl,_,Eq.trans (World.drewN_drewN _ _ _) (congrArg (World.drewN _) (Nat.add_assoc _ _ _))⟩)))
    repeat (go_quiet (first | (go_at_call 147;(with_reducible refine (cmp_Less_int.calls (rd l0 x3_1) (rd l0 (ji5)) false _ A8.out).mono ?_);rintro e w' ⟨rfl,⟨nd,rfl⟩⟩;(try first | exact ⟨rfl,_,World.drewN_drewN _ _ _⟩ | exact ⟨rfl,_,Eq.trans (World.drewN_drewN _ _ _) (congrArg (World.drewN _) (Nat.add_assoc _ _ _))⟩)));try go_wp2_with (first | (go_at_call 147;(with_reducible refine (cmp_Less_int.calls (rd l0 x3_1) (rd l0 (ji5)) false _ A8.out).mono ?_);rintro e w' ⟨rfl,⟨nd,rfl⟩⟩;(try first | exact ⟨rfl,_,World.drewN_drewN _ _ _⟩ | exact ⟨rfl,_,Eq.trans (World.drewN_drewN _ _ _) (congrArg (World.drewN _) (Nat.add_assoc _ _ _))⟩))))
    go_roundg k1
    case measure=>have:=HK1.out;omega
    case rel=>exact ⟨(ji5),(by first | rfl | (simp;done) | (simp only [← hji5]<;>(first | rfl | simp)) | (simp [*];done)),H',⟨by have:=HK1.out;omega⟩,by repeat (first | exact Drawn0.refl _ | apply Drawn0.step)⟩
def nz_isRow.f (l0_0 : List (S126)) (a0_1 : Int) (a1 : Int) : Option (Bool):=(nz_in.f a1 0 (wrap64 ((l0_0.length : Int) - 1))).bind fun t1081=>(some t1081)
theorem nz_isRow.calls (A0_0 : Option Addr) (c0_0 : Nat) (l0_0 : List (S126)) (a0_1 : Int) (a1 : Int) (r : Bool) (w : World) (hr0_0 : Kd.C k126 w A0_0 l0_0.length l0_0) (hc0_0 : l0_0.length≤c0_0) (h : nz_isRow.f l0_0 a0_1 a1 = some r) :
 Calls Tryz.prog 140 #[.agg #[.slice A0_0 l0_0.length c0_0,.int .i64 a0_1],.int .i64 a1] w fun e w'=>e = .returned (.bool r)∧Below w.heap.size w w':=by
 have hu24:=Tryz.underlying24
 have HR0_0:=am hr0_0
 have HC0_0:=am hc0_0
 clear hr0_0 hc0_0
 have HB:=am (Below.refl w.heap.size w)
 have H : ((nz_in.f a1 0 (wrap64 ((l0_0.length : Int) - 1))).bind fun t1081=>(some t1081)) = some r:=h
 clear h
 replace H:=obm H
 obtain ⟨t1081,A30,H⟩:=H
 replace H : (some t1081) = some r:=H
 have A3:=am A30
 clear A30
 obtain rfl:=Option.some.inj H
 go_enter Tryz.func140,Tryz.ntmps140
 go_wp2_with (first | ((refine gate_dst (N:=2) rfl ?_);refine box_event rfl (N:=2) rfl (cs:=#[.slice A0_0 l0_0.length c0_0,.int .i64 a0_1]) (t:=24) ?hr ?_;(case hr=>go_simp;try rfl);intro gb1080 hg w4 hbox hb;have BK1080:=am (hbox);have GW1080:=am (ge_new (HB.out) hg);have GE1080:=am (ge_new (HB.out) hg);replace HB:=am (below_step (HB.out) hb);clear hb hbox hg;obtain ⟨hcz5_0,hcz5_1⟩:=cO2 BK1080.out) | ((with_reducible refine gate_callee (f:=135) rfl ?_);refine goesL_ (some 10) rfl rfl Tryz.func135 (by kernel_rfl) rfl #[.int .i64 a1,.int .i64 0,.int .i64 (wrap64 ((l0_0.length : Int) - 1))] rfl (by (try simp only [List.map_toArray,List.map_cons,List.map_nil]);first | done | rfl | (simp only [List.length_drop,List.length_take];rfl)) ?_;(with_reducible refine (nz_in.calls a1 0 (wrap64 ((l0_0.length : Int) - 1)) t1081 _ A3.out).mono ?_);rintro e w' ⟨rfl,⟨nd,rfl⟩⟩;refine ⟨_,rfl,?_⟩))
 go_ret
 exact ⟨by first | rfl | (simp [*]<;>rfl),pw_below_drewN HB.out _⟩
end
theorem isSet1_calls (g : Nat) (A0 : Option Addr) (c0 : Nat) (l0 : List S126) (a1 : Int) (n : Int) (r : Bool) (W : World) (hb : W.heap[g]? = some (.cells #[.slice A0 l0.length c0,.int .i64 a1] 24 (0,0)))
 (hr0 : Kd.C k126 W A0 l0.length l0) (hc0 : l0.length≤c0) (h : nz_isRow.f l0 a1 n = some r) :
 Calls Tryz.prog 139 #[.int .i64 n,.pointer (some ⟨g,0,none⟩)] W fun e W'=>e = .returned (.bool (!r))∧Below W.heap.size W W':=by
 have hu:=Tryz.underlying24
 have HR:=am hr0
 have HC:=am hc0
 have H:=am h
 obtain ⟨hcz0,hcz1⟩:=cO2 hb
 clear hr0 hc0 h hb
 go_enter Tryz.func139,Tryz.ntmps139
 go_wp2_with (go_at_call 140;refine (nz_isRow.calls _ _ l0 a1 n r _ HR.out HC.out H.out).mono ?_;rintro e W' ⟨rfl,hb⟩)
 go_ret
 exact ⟨rfl,hb⟩
def nz_isSet.f (l0 : List S126) (a1 : Int) (l1 : List Int) : Option Bool:=
 if (l1.length : Int)≤6 then (sl_IsSorted_int_int.f (l1.length + 1) l1).bind fun t=>(if t = true then (anyM (fun n=>(nz_isRow.f l0 a1 n).bind fun b=>some (!b)) l1).bind fun u=>some (!u) else some false) else some false
theorem nz_isSet.calls (A0_0 : Option Addr) (c0_0 : Nat) (l0_0 : List S126) (a0_1 : Int) (A1 : Option Addr) (c1 : Nat) (l1 : List Int) (r : Bool) (w : World) (hr0_0 : Kd.C k126 w A0_0 l0_0.length l0_0) (hc0_0 : l0_0.length≤c0_0) (hr1 : Kd.C (Kd.int .i64) w A1 l1.length l1) (hc1 : l1.length≤c1) (h : nz_isSet.f l0_0 a0_1 l1 = some r) :
 Calls Tryz.prog 129 #[.agg #[.slice A0_0 l0_0.length c0_0,.int .i64 a0_1],.slice A1 l1.length c1] w fun e w'=>e = .returned (.bool r)∧Below w.heap.size w w':=by
 have hu:=Tryz.underlying24
 have HR:=am hr0_0
 have HC:=am hc0_0
 have HR1:=am (kC hr1 (below_alloc (Below.refl _ w) (.cells #[.slice A0_0 l0_0.length c0_0,.int .i64 a0_1] 24)))
 have HC1:=am hc1
 have HBX:=am (blk_new w (.cells #[.slice A0_0 l0_0.length c0_0,.int .i64 a0_1] 24))
 have HB:=am (below_alloc (Below.refl w.heap.size w) (.cells #[.slice A0_0 l0_0.length c0_0,.int .i64 a0_1] 24))
 have hm : l1.length≤9223372036854775807:=Kd.C_max hr1
 clear hr0_0 hc0_0 hr1 hc1
 unfold nz_isSet.f at h
 by_cases h1 : (l1.length : Int)≤6
 case neg =>
  rw [if_neg h1] at h
  have b1 : decide ((l1.length : Int)≤6) = false:=decide_eq_false h1
  clear h1
  obtain rfl:=Option.some.inj h
  clear h
  go_enter Tryz.func129,Tryz.ntmps129
  go_wp2
  go_ret
  exact ⟨rfl,HB.out⟩
 rw [if_pos h1] at h
 have b1 : decide ((l1.length : Int)≤6) = true:=decide_eq_true h1
 clear h1
 obtain ⟨t,ht,h⟩:=obm h
 have H1:=am ht
 clear ht
 cases t with
 | true =>
  rw [if_pos rfl] at h
  obtain ⟨u,hu',h⟩:=obm h
  obtain rfl:=Option.some.inj h
  have H2:=am hu'
  clear hu' h
  have HP:=am (show ∀ W0,Below (w.alloc (.cells #[.slice A0_0 l0_0.length c0_0,.int .i64 a0_1] 24)).heap.size (w.alloc (.cells #[.slice A0_0 l0_0.length c0_0,.int .i64 a0_1] 24)) W0→Pred_isSet w.heap.size (fun n=>(nz_isRow.f l0_0 a0_1 n).bind fun b=>some (!b)) W0 l1 from by
   intro W0 h0 x b W hx hq hb
   obtain ⟨b',hb',he⟩:=obm hq
   obtain rfl:=Option.some.inj he
   exact isSet1_calls w.heap.size A0_0 c0_0 l0_0 a0_1 x b' W (blk_below (blk_below HBX.out h0) hb) (kC (kC (kC HR.out HB.out) h0) hb) HC.out hb')
  go_enter Tryz.func129,Tryz.ntmps129
  go_wp2_with (first | (go_at_call 138;refine (sl_IsSorted_int_int.calls _ _ _ l1 true _ HR1.out HC1.out H1.out).mono ?_;rintro e w1 ⟨rfl,hd⟩;have HB1:=am hd.below;clear hd) | (go_at_call 65;refine (any_isSet w.heap.size _ _ _ l1 u _ (kC HR1.out HB1.out) (HP.out _ HB1.out) H2.out).mono ?_;rintro e w' ⟨rfl,hb⟩))
  go_ret
  exact ⟨rfl,below_then (below_then HB.out HB.out.size HB1.out) (below_then HB.out HB.out.size HB1.out).size hb⟩
 | false =>
  rw [if_neg (by decide)] at h
  obtain rfl:=Option.some.inj h
  clear h
  go_enter Tryz.func129,Tryz.ntmps129
  go_wp2_with (go_at_call 138;refine (sl_IsSorted_int_int.calls _ _ _ l1 false _ HR1.out HC1.out H1.out).mono ?_;rintro e w' ⟨rfl,hd⟩)
  go_ret
  exact ⟨rfl,below_then HB.out HB.out.size hd.below⟩
section
attribute [local go_sem] max2_int min2_int max_two min_two
def nz_Gives.f (k : Nat) (l0_0 : List (S126)) (a0_1 : Int) (l1 : List Int) : Option (Int × Int):=(nz_isTable.f l0_0 a0_1).bind fun t152=>(if t152 = true then ((nz_isSet.f l0_0 a0_1 l1).bind fun t153=>(if t153 = true then ((nz_gives.f k l0_0 a0_1 l1).bind fun t154=>(some (t154,0))) else (some (0,2)))) else (some (0,2)))
theorem nz_Gives.calls (k : Nat) (A0_0 : Option Addr) (c0_0 : Nat) (l0_0 : List (S126)) (a0_1 : Int) (A1 : Option Addr) (c1 : Nat) (l1 : List Int) (r1 : Int) (r2 : Int) (w : World) (hr0_0 : Kd.C k126 w A0_0 l0_0.length l0_0) (hc0_0 : l0_0.length≤c0_0) (hr1 : Kd.C (Kd.int .i64) w A1 l1.length l1) (hc1 : l1.length≤c1) (h : nz_Gives.f k l0_0 a0_1 l1 = some (r1,r2)) :
 Calls Tryz.prog 106 #[.agg #[.slice A0_0 l0_0.length c0_0,.int .i64 a0_1],.slice A1 l1.length c1] w fun e w'=>e = .returned (.tuple #[.int .i64 r1,.int .i64 r2])∧Below w.heap.size w w':=by
 have hu24:=Tryz.underlying24
 have HR0_0:=am hr0_0
 have HC0_0:=am hc0_0
 clear hr0_0 hc0_0
 have HR1:=am hr1
 have HC1:=am hc1
 clear hr1 hc1
 have HB:=am (Below.refl w.heap.size w)
 have H : ((nz_isTable.f l0_0 a0_1).bind fun t152=>(if t152 = true then ((nz_isSet.f l0_0 a0_1 l1).bind fun t153=>(if t153 = true then ((nz_gives.f k l0_0 a0_1 l1).bind fun t154=>(some (t154,0))) else (some (0,2)))) else (some (0,2)))) = some (r1,r2):=h
 clear h
 replace H:=obm H
 obtain ⟨t152,A30,H⟩:=H
 replace H : (if t152 = true then ((nz_isSet.f l0_0 a0_1 l1).bind fun t153=>(if t153 = true then ((nz_gives.f k l0_0 a0_1 l1).bind fun t154=>(some (t154,0))) else (some (0,2)))) else (some (0,2))) = some (r1,r2):=H
 have A3:=am A30
 clear A30
 by_cases c4 : t152 = true
 case neg =>
  replace c4:=Bool.eq_false_iff.mpr c4
  subst c4
  replace H : (some (0,2)) = some (r1,r2):=by rw [if_neg (show ¬ (false = true) by decide)] at H;exact H
  simp only [Option.some.injEq,Prod.mk.injEq] at H
  obtain ⟨rfl,rfl⟩:=H
  go_enter Tryz.func106,Tryz.ntmps106
  go_wp2_with (first | ((refine gate_dst (N:=2) rfl ?_);refine box_event rfl (N:=2) rfl (cs:=#[.slice A0_0 l0_0.length c0_0,.int .i64 a0_1]) (t:=24) ?hr ?_;(case hr=>go_simp;try rfl);intro gb151 hg w20 hbox hb;have BK151:=am (hbox);have GW151:=am (ge_new (HB.out) hg);have GE151:=am (ge_new (HB.out) hg);replace HB:=am (below_step (HB.out) hb);clear hb hbox hg;obtain ⟨hcz21_0,hcz21_1⟩:=cO2 BK151.out) | ((with_reducible refine gate_callee (f:=127) rfl ?_);refine goesL_ (some 7) rfl rfl Tryz.func127 (by kernel_rfl) rfl #[.agg #[.slice A0_0 l0_0.length c0_0,.int .i64 a0_1]] rfl (by (try simp only [List.map_toArray,List.map_cons,List.map_nil]);first | done | rfl | (simp only [List.length_drop,List.length_take];rfl)) ?_;(refine (nz_isTable.calls _ _ l0_0 a0_1 false _ ?side1 ?side2 A3.out).mono ?_);(case side1=>exact kC HR0_0.out HB.out);(case side2=>exact HC0_0.out);rintro e w22 ⟨rfl,hb⟩;refine ⟨_,rfl,?_⟩;replace BK151:=(kmv hb BK151);replace HB:=am (below_step (HB.out) hb);(try clear hb);(try clear hb2);(try clear hk);(try clear hi)))
  go_ret2
  exact ⟨by first | rfl | (simp [*]<;>rfl),HB.out⟩
 subst c4
 replace H : ((nz_isSet.f l0_0 a0_1 l1).bind fun t153=>(if t153 = true then ((nz_gives.f k l0_0 a0_1 l1).bind fun t154=>(some (t154,0))) else (some (0,2)))) = some (r1,r2):=by rw [if_pos rfl] at H;exact H
 replace H:=obm H
 obtain ⟨t153,A50,H⟩:=H
 replace H : (if t153 = true then ((nz_gives.f k l0_0 a0_1 l1).bind fun t154=>(some (t154,0))) else (some (0,2))) = some (r1,r2):=H
 have A5:=am A50
 clear A50
 by_cases c6 : t153 = true
 case neg =>
  replace c6:=Bool.eq_false_iff.mpr c6
  subst c6
  replace H : (some (0,2)) = some (r1,r2):=by rw [if_neg (show ¬ (false = true) by decide)] at H;exact H
  simp only [Option.some.injEq,Prod.mk.injEq] at H
  obtain ⟨rfl,rfl⟩:=H
  go_enter Tryz.func106,Tryz.ntmps106
  go_wp2_with (first | ((refine gate_dst (N:=2) rfl ?_);refine box_event rfl (N:=2) rfl (cs:=#[.slice A0_0 l0_0.length c0_0,.int .i64 a0_1]) (t:=24) ?hr ?_;(case hr=>go_simp;try rfl);intro gb151 hg w15 hbox hb;have BK151:=am (hbox);have GW151:=am (ge_new (HB.out) hg);have GE151:=am (ge_new (HB.out) hg);replace HB:=am (below_step (HB.out) hb);clear hb hbox hg;obtain ⟨hcz16_0,hcz16_1⟩:=cO2 BK151.out) | ((with_reducible refine gate_callee (f:=127) rfl ?_);refine goesL_ (some 7) rfl rfl Tryz.func127 (by kernel_rfl) rfl #[.agg #[.slice A0_0 l0_0.length c0_0,.int .i64 a0_1]] rfl (by (try simp only [List.map_toArray,List.map_cons,List.map_nil]);first | done | rfl | (simp only [List.length_drop,List.length_take];rfl)) ?_;(refine (nz_isTable.calls _ _ l0_0 a0_1 true _ ?side1 ?side2 A3.out).mono ?_);(case side1=>exact kC HR0_0.out HB.out);(case side2=>exact HC0_0.out);rintro e w17 ⟨rfl,hb⟩;refine ⟨_,rfl,?_⟩;replace BK151:=(kmv hb BK151);replace HB:=am (below_step (HB.out) hb);(try clear hb);(try clear hb2);(try clear hk);(try clear hi);obtain ⟨hcz18_0,hcz18_1⟩:=cO2 BK151.out) | (go_at_call 129;(refine (nz_isSet.calls _ _ l0_0 a0_1 _ _ l1 false _ ?side1 ?side2 ?side3 ?side4 A5.out).mono ?_);(case side1=>exact kC HR0_0.out HB.out);(case side2=>exact HC0_0.out);(case side3=>exact kC HR1.out HB.out);(case side4=>exact HC1.out);rintro e w19 ⟨rfl,hb⟩;replace BK151:=(kmv hb BK151);replace HB:=am (below_step (HB.out) hb);(try clear hb);(try clear hb2);(try clear hk);(try clear hi)))
  go_ret2
  exact ⟨by first | rfl | (simp [*]<;>rfl),HB.out⟩
 subst c6
 replace H : ((nz_gives.f k l0_0 a0_1 l1).bind fun t154=>(some (t154,0))) = some (r1,r2):=by rw [if_pos rfl] at H;exact H
 replace H:=obm H
 obtain ⟨t154,A70,H⟩:=H
 replace H : (some (t154,0)) = some (r1,r2):=H
 have A7:=am A70
 clear A70
 simp only [Option.some.injEq,Prod.mk.injEq] at H
 obtain ⟨rfl,rfl⟩:=H
 go_enter Tryz.func106,Tryz.ntmps106
 go_wp2_with (first | ((refine gate_dst (N:=2) rfl ?_);refine box_event rfl (N:=2) rfl (cs:=#[.slice A0_0 l0_0.length c0_0,.int .i64 a0_1]) (t:=24) ?hr ?_;(case hr=>go_simp;try rfl);intro gb151 hg w8 hbox hb;have BK151:=am (hbox);have GW151:=am (ge_new (HB.out) hg);have GE151:=am (ge_new (HB.out) hg);replace HB:=am (below_step (HB.out) hb);clear hb hbox hg;obtain ⟨hcz9_0,hcz9_1⟩:=cO2 BK151.out) | ((with_reducible refine gate_callee (f:=127) rfl ?_);refine goesL_ (some 7) rfl rfl Tryz.func127 (by kernel_rfl) rfl #[.agg #[.slice A0_0 l0_0.length c0_0,.int .i64 a0_1]] rfl (by (try simp only [List.map_toArray,List.map_cons,List.map_nil]);first | done | rfl | (simp only [List.length_drop,List.length_take];rfl)) ?_;(refine (nz_isTable.calls _ _ l0_0 a0_1 true _ ?side1 ?side2 A3.out).mono ?_);(case side1=>exact kC HR0_0.out HB.out);(case side2=>exact HC0_0.out);rintro e w10 ⟨rfl,hb⟩;refine ⟨_,rfl,?_⟩;replace BK151:=(kmv hb BK151);replace HB:=am (below_step (HB.out) hb);(try clear hb);(try clear hb2);(try clear hk);(try clear hi);obtain ⟨hcz11_0,hcz11_1⟩:=cO2 BK151.out) | (go_at_call 129;(refine (nz_isSet.calls _ _ l0_0 a0_1 _ _ l1 true _ ?side1 ?side2 ?side3 ?side4 A5.out).mono ?_);(case side1=>exact kC HR0_0.out HB.out);(case side2=>exact HC0_0.out);(case side3=>exact kC HR1.out HB.out);(case side4=>exact HC1.out);rintro e w12 ⟨rfl,hb⟩;replace BK151:=(kmv hb BK151);replace HB:=am (below_step (HB.out) hb);(try clear hb);(try clear hb2);(try clear hk);(try clear hi);obtain ⟨hcz13_0,hcz13_1⟩:=cO2 BK151.out) | ((with_reducible refine gate_callee (f:=130) rfl ?_);refine goesL_ (some 17) rfl rfl Tryz.func130 (by kernel_rfl) rfl #[.agg #[.slice A0_0 l0_0.length c0_0,.int .i64 a0_1],.slice A1 l1.length c1] rfl (by (try simp only [List.map_toArray,List.map_cons,List.map_nil]);first | done | rfl | (simp only [List.length_drop,List.length_take];rfl)) ?_;(refine (nz_gives.calls k _ _ l0_0 a0_1 _ _ l1 t154 _ ?side1 ?side2 ?side3 ?side4 A7.out).mono ?_);(case side1=>exact kC HR0_0.out HB.out);(case side2=>exact HC0_0.out);(case side3=>exact kC HR1.out HB.out);(case side4=>exact HC1.out);rintro e w14 ⟨rfl,hb⟩;refine ⟨_,rfl,?_⟩;replace BK151:=(kmv hb BK151);replace HB:=am (below_step (HB.out) hb);(try clear hb);(try clear hb2);(try clear hk);(try clear hi)))
 go_ret2
 exact ⟨by first | rfl | (simp [*]<;>rfl),HB.out⟩
mutual
def ca_fill.l0 : Nat→List Int→List (S48)→Int→Int→List (S126)→Int→List (S48)→Int→Int→List (S126)→Int→List (S48)→Int→Int→Option (Int × Int × Int × (List (List Int)))
 | 0,_,_,_,_,_,_,_,_,_,_,_,_,_,_=>none
 | k + 1,x4,x16,x17,x18,x156000,x156001,x156002,x156003,x156004,x158000,x158001,x158002,x158003,x158004=>if x18 < x17 then (if 0≤x18 then (if x18 < (x16.length : Int) then ((nz_Gives.f k x156000 x156001 (([(rd_T48 x16 x18).f0] : List Int))).bind fun bt163=>(if x4.length < 17592186044416 then (ca_fill.l0 k (x4 ++ [bt163.1]) x16 x17 (wrap64 (x18 + 1)) x156000 x156001 x156002 x156003 x156004 x158000 x158001 x158002 x158003 x158004) else (none))) else (none)) else (none)) else (ca_fill.l1 k x4 0 x156000 x156001 x156002 x156003 x156004 x158000 x158001 x158002 x158003 x158004 ([] : List (List Int)))
def ca_fill.l1 : Nat→List Int→Int→List (S126)→Int→List (S48)→Int→Int→List (S126)→Int→List (S48)→Int→Int→List (List Int)→Option (Int × Int × Int × (List (List Int)))
 | 0,_,_,_,_,_,_,_,_,_,_,_,_,_=>none
 | k + 1,x4,x36,x156000,x156001,x156002,x156003,x156004,x158000,x158001,x158002,x158003,x158004,x158005=>if x36 < 41 then (ca_fill.l2 k x4 x36 ([] : List Int) x36 x156002 (x156002.length : Int) 0 x156000 x156001 x156002 x156003 x156004 x158000 x158001 x158002 x158003 x158004 x158005) else (some (x158001,x158003,x158004,x158005))
def ca_fill.l2 : Nat→List Int→Int→List Int→Int→List (S48)→Int→Int→List (S126)→Int→List (S48)→Int→Int→List (S126)→Int→List (S48)→Int→Int→List (List Int)→Option (Int × Int × Int × (List (List Int)))
 | 0,_,_,_,_,_,_,_,_,_,_,_,_,_,_,_,_,_,_=>none
 | k + 1,x4,x9,x10,x36,x40,x41,x42,x156000,x156001,x156002,x156003,x156004,x158000,x158001,x158002,x158003,x158004,x158005=>if x42 < x41 then (if 0≤x42 then (if x42 < (x40.length : Int) then (if x42 < (x4.length : Int) then (if x10.length < 17592186044416 then (ca_fill.l2 k x4 x9 (x10 ++ [wrap64 (Int.tdiv (wrap64 ((rd x4 x42) * (mx 0 (mn 5 (wrap64 (x9 - ((rd_T48 x40 x42).f1))))))) 5)]) x36 x40 x41 (wrap64 (x42 + 1)) x156000 x156001 x156002 x156003 x156004 x158000 x158001 x158002 x158003 x158004 x158005) else (none)) else (none)) else (none)) else (none)) else (if x158005.length < 5864062014805 then (ca_fill.l1 k x4 (wrap64 (x36 + 1)) x156000 x156001 x156002 x156003 x156004 x158000 x158001 x158002 x158003 x158004 (x158005 ++ [x10])) else (none))
end
def ca_fill.f (k : Nat) (l0_0 : List (S126)) (a0_1 : Int) (l0_2 : List (S48)) (a0_3 : Int) (a0_4 : Int) : Option (Int × Int × Int × (List (List Int))):=ca_fill.l0 k ([] : List Int) l0_2 (l0_2.length : Int) 0 l0_0 a0_1 l0_2 a0_3 a0_4 l0_0 a0_1 l0_2 a0_3 a0_4
def ca_fill.T16 : Bool × List (List Nat × List Nat):=(true,[([],[]),([],[]),([],[]),([1,2],[1,2]),([3],[3]),([],[]),([],[]),([6],[6]),([5,7],[5,7]),([8],[8]),([9],[9]),([4,10],[4,10]),([11],[11]),([12],[12]),([0,13],[0,13]),([14,14,0,1,2,3,4,5,6,7,8,9,10,11,12,13,14],[0,14])])
def ca_fill.B16 : List Nat:=[0,0,0,6,14,0,0,64,224,480,992,2046,4094,8190,16383,32767]
theorem ca_fill.tab16 : rtab .any (opsOf Tryz.f69 16) = ca_fill.T16:=by kernel_rfl
theorem ca_fill.bits16 : waitsOk ca_fill.T16.2 ca_fill.B16 = true:=by kernel_rfl
theorem ca_fill.calls (k : Nat) (A0_0 : Option Addr) (c0_0 : Nat) (l0_0 : List (S126)) (a0_1 : Int) (A0_2 : Option Addr) (c0_2 : Nat) (l0_2 : List (S48)) (a0_3 : Int) (a0_4 : Int) (r1 : Int) (r2 : Int) (r3 : Int) (r4 : List (List Int)) (w : World) (hr0_0 : Kd.C k126 w A0_0 l0_0.length l0_0) (hc0_0 : l0_0.length≤c0_0) (hr0_2 : Kd.C k48 w A0_2 l0_2.length l0_2) (hc0_2 : l0_2.length≤c0_2) (h : ca_fill.f k l0_0 a0_1 l0_2 a0_3 a0_4 = some (r1,r2,r3,r4)) :
 Calls Tryz.prog 69 #[.agg #[.slice A0_0 l0_0.length c0_0,.int .i64 a0_1,.slice A0_2 l0_2.length c0_2,.int .i64 a0_3,.int .i64 a0_4]] w fun e w'=>∃ v3_ : Value,e = .returned (.agg #[.slice A0_0 l0_0.length c0_0,.int .i64 r1,.slice A0_2 l0_2.length c0_2,.int .i64 r2,.int .i64 r3,v3_])∧Kd.S (Kd.slice 3 (Kd.int .i64)) 28 w' w.heap.size (fun _=>True) v3_ r4∧Below w.heap.size w w':=by
 have hu27:=Tryz.underlying27
 have hu110:=Tryz.underlying110
 have hu48:=Tryz.underlying48
 have hu24:=Tryz.underlying24
 have HR0_0:=am hr0_0
 have HC0_0:=am hc0_0
 clear hr0_0 hc0_0
 have HR0_2:=am hr0_2
 have HC0_2:=am hc0_2
 clear hr0_2 hc0_2
 have HB:=am (Below.refl w.heap.size w)
 have H : (ca_fill.l0 k ([] : List Int) l0_2 (l0_2.length : Int) 0 l0_0 a0_1 l0_2 a0_3 a0_4 l0_0 a0_1 l0_2 a0_3 a0_4) = some (r1,r2,r3,r4):=h
 clear h
 replace H':=am H
 go_enter Tryz.func69,Tryz.ntmps69
 go_wp2_with (first | ((refine gate_dst (N:=1) rfl ?_);refine box_event rfl (N:=1) rfl (cs:=#[.slice A0_0 l0_0.length c0_0,.int .i64 a0_1,.slice A0_2 l0_2.length c0_2,.int .i64 a0_3,.int .i64 a0_4]) (t:=27) ?hr ?_;(case hr=>go_simp;try rfl);intro gb155 hg w2 hbox hb;have BK155:=am (hbox);have GW155:=am (ge_new (HB.out) hg);have GE155:=am (ge_new (HB.out) hg);replace HB:=am (below_step (HB.out) hb);clear hb hbox hg) | ((refine gate_dst (N:=2) rfl ?_);refine box_event rfl (N:=2) rfl (cs:=#[.slice none 0 0,.int .i64 0,.slice none 0 0,.int .i64 0,.int .i64 0,.slice none 0 0]) (t:=110) ?hr ?_;(case hr=>go_simp;try rfl);intro gb156 hg w3 hbox hb;have BK156:=am (hbox);have GW156:=am (ge_new (HB.out) hg);have GE156:=am (ge_new (HB.out) hg);have NB155_156:=am (ne_new BK155.out hg);have NB156_155:=am (ne_new2 BK155.out hg);replace BK155:=(kmv hb BK155);replace HB:=am (below_step (HB.out) hb);clear hb hbox hg;have hnb4:=NB155_156.out;have hnc4:=NB156_155.out;obtain ⟨hcz5_0,hcz5_1,hcz5_2,hcz5_3,hcz5_4⟩:=cO5 BK155.out) | ((refine gate_dst (N:=3) rfl ?_);refine box_event rfl (N:=3) rfl (cs:=#[.slice none 0 0,.int .i64 0,.slice none 0 0,.int .i64 0,.int .i64 0,.slice none 0 0]) (t:=110) ?hr ?_;(case hr=>go_simp;try rfl);intro gb157 hg w6 hbox hb;have BK157:=am (hbox);have GW157:=am (ge_new (HB.out) hg);have GE157:=am (ge_new (HB.out) hg);have NB155_157:=am (ne_new BK155.out hg);have NB157_155:=am (ne_new2 BK155.out hg);have NB156_157:=am (ne_new BK156.out hg);have NB157_156:=am (ne_new2 BK156.out hg);replace BK155:=(kmv hb BK155);replace BK156:=(kmv hb BK156);replace HB:=am (below_step (HB.out) hb);clear hb hbox hg;have hnb7:=NB157_155.out;have hnc7:=NB155_157.out;have hnb8:=NB157_156.out;have hnc8:=NB156_157.out;obtain ⟨hcz9_0,hcz9_1,hcz9_2,hcz9_3,hcz9_4,hcz9_5⟩:=cO6 BK157.out;have hfz9_0:=blk_frozen BK157.out 0;have hfz9_1:=blk_frozen BK157.out 1;have hfz9_2:=blk_frozen BK157.out 2;have hfz9_3:=blk_frozen BK157.out 3;have hfz9_4:=blk_frozen BK157.out 4;have hfz9_5:=blk_frozen BK157.out 5;obtain ⟨hcz10_0,hcz10_1,hcz10_2,hcz10_3,hcz10_4⟩:=cO5 BK155.out))
 go_loopg [4,18] k (fun kq v4 v18 w'=>∃ (x4_1 : List Int) (x18_1 : Int),v18 = .int .i64 x18_1∧Aside0 (ca_fill.l0 kq x4_1 l0_2 (l0_2.length : Int) x18_1 l0_0 a0_1 l0_2 a0_3 a0_4 l0_0 a0_1 l0_2 a0_3 a0_4 = some (r1,r2,r3,r4))∧Aside0 (kq≤k)∧Aside0 (Kd.R (Kd.int .i64) 3 w' w.heap.size (fun _=>True) v4 x4_1)∧Aside0 (w'.heap[gb155]? = some (.cells #[(.slice A0_0 l0_0.length c0_0),.int .i64 a0_1,(.slice A0_2 l0_2.length c0_2),.int .i64 a0_3,.int .i64 a0_4] 27 (0,0)))∧Aside0 (w'.heap[gb156]? = some (.cells #[(.slice none 0 0),.int .i64 0,(.slice none 0 0),.int .i64 0,.int .i64 0,(.slice none 0 0)] 110 (0,0)))∧Aside0 (w'.heap[gb157]? = some (.cells #[(.slice A0_0 l0_0.length c0_0),.int .i64 a0_1,(.slice A0_2 l0_2.length c0_2),.int .i64 a0_3,.int .i64 a0_4,(.slice none 0 0)] 110 (0,0)))∧Aside0 (Below w.heap.size w w'))
 case atStart=>exact ⟨(([] : List Int)),(0),(by first | rfl | (simp;done) | (simp [*];done)),H',⟨Nat.le_refl _⟩,⟨by first | exact Kd.R_nil _ _ _ _ _ | exact Kd.N_nil _ _ _ _ _ | exact Kd.V_nil _ _ _ _ _ | exact Kd.Q_nil _ _ _ _ _ | exact Kd.S_nil _ _ _ _ _⟩,⟨(blk_far (blk_far (blk_far (blk_far (blk_far (blk_far BK155.out NB155_157.out _) NB155_157.out _) NB155_157.out _) NB155_157.out _) NB155_157.out _) NB155_157.out _)⟩,⟨(blk_far (blk_far (blk_far (blk_far (blk_far (blk_far BK156.out NB156_157.out _) NB156_157.out _) NB156_157.out _) NB156_157.out _) NB156_157.out _) NB156_157.out _)⟩,⟨(blk_put (cs:=#[.slice A0_0 l0_0.length c0_0,.int .i64 a0_1,.slice A0_2 l0_2.length c0_2,.int .i64 a0_3,.int .i64 a0_4,.slice none 0 0]) (blk_put (cs:=#[.slice A0_0 l0_0.length c0_0,.int .i64 a0_1,.slice A0_2 l0_2.length c0_2,.int .i64 a0_3,.int .i64 0,.slice none 0 0]) (blk_put (cs:=#[.slice A0_0 l0_0.length c0_0,.int .i64 a0_1,.slice A0_2 l0_2.length c0_2,.int .i64 0,.int .i64 0,.slice none 0 0]) (blk_put (cs:=#[.slice A0_0 l0_0.length c0_0,.int .i64 a0_1,.slice none 0 0,.int .i64 0,.int .i64 0,.slice none 0 0]) (blk_put (cs:=#[.slice A0_0 l0_0.length c0_0,.int .i64 0,.slice none 0 0,.int .i64 0,.int .i64 0,.slice none 0 0]) (blk_put (cs:=#[.slice none 0 0,.int .i64 0,.slice none 0 0,.int .i64 0,.int .i64 0,.slice none 0 0]) BK157.out 0 _ rfl) 1 _ rfl) 2 _ rfl) 3 _ rfl) 4 _ rfl) 5 _ rfl)⟩,⟨by repeat (first | (with_reducible first | exact HB.out | refine below_set ?_ (Aside0.out (by assumption)) | apply below_alloc | apply pw_below_drewN) | exact HB.out)⟩⟩
 case round =>
  clear H'
  obtain ⟨x4_1,x18_1,rfl,HA,HK1,HO_4,BK155,BK156,BK157,HB⟩:=hrel
  cases gk with
  | zero=>exact absurd HA.out (by simp [ca_fill.l0])
  | succ k1 =>
   have H:=HA.out
   clear HA
   simp only [ca_fill.l0] at H
   by_cases c11 : x18_1 < (l0_2.length : Int)
   ·rw [if_pos c11] at H
    have c11b0 : decide (x18_1 < (l0_2.length : Int)) = true:=decide_eq_true c11
    clear c11
    by_cases c12 : 0≤x18_1
    case neg =>
     rw [if_neg c12] at H
     exact absurd H (by simp)
    rw [if_pos c12] at H
    have c12b0 : decide (0≤x18_1) = true:=decide_eq_true c12
    clear c12
    by_cases c13 : x18_1 < (l0_2.length : Int)
    case neg =>
     rw [if_neg c13] at H
     exact absurd H (by simp)
    rw [if_pos c13] at H
    have c13b0 : decide (x18_1 < (l0_2.length : Int)) = true:=decide_eq_true c13
    clear c13
    obtain ⟨y160,hy160⟩ : ∃ y_ : List Int,y_ = (([(rd_T48 l0_2 x18_1).f0] : List Int)):=⟨_,rfl⟩
    replace H : ((nz_Gives.f k1 l0_0 a0_1 y160).bind fun bt163=>(if x4_1.length < 17592186044416 then (ca_fill.l0 k1 (x4_1 ++ [bt163.1]) l0_2 (l0_2.length : Int) (wrap64 (x18_1 + 1)) l0_0 a0_1 l0_2 a0_3 a0_4 l0_0 a0_1 l0_2 a0_3 a0_4) else (none))) = some (r1,r2,r3,r4):=by first | (rw [hy160];with_reducible exact H) | (have H2_:=(Option.bind_some _ _).symm.trans H;rw [hy160];with_reducible exact H2_) | (have H2_:=(Option.bind_some _ _).symm.trans H;with_reducible exact H2_) | with_reducible exact H | (rw [hy160];exact H) | exact H
    have Ny160:=am hy160
    clear hy160
    replace H:=obm H
    obtain ⟨⟨t163,t164⟩,A140,H⟩:=H
    replace H : (if x4_1.length < 17592186044416 then (ca_fill.l0 k1 (x4_1 ++ [t163]) l0_2 (l0_2.length : Int) (wrap64 (x18_1 + 1)) l0_0 a0_1 l0_2 a0_3 a0_4 l0_0 a0_1 l0_2 a0_3 a0_4) else (none)) = some (r1,r2,r3,r4):=H
    have A14:=am A140
    clear A140
    by_cases c15 : x4_1.length < 17592186044416
    case neg =>
     rw [if_neg c15] at H
     exact absurd H (by simp)
    rw [if_pos c15] at H
    have LMc15:=am c15
    clear c15
    obtain ⟨y165,hy165⟩ : ∃ y_ : List Int,y_ = (x4_1 ++ [t163]):=⟨_,rfl⟩
    replace H : (ca_fill.l0 k1 y165 l0_2 (l0_2.length : Int) (wrap64 (x18_1 + 1)) l0_0 a0_1 l0_2 a0_3 a0_4 l0_0 a0_1 l0_2 a0_3 a0_4) = some (r1,r2,r3,r4):=by first | (rw [hy165];with_reducible exact H) | (have H2_:=(Option.bind_some _ _).symm.trans H;rw [hy165];with_reducible exact H2_) | (have H2_:=(Option.bind_some _ _).symm.trans H;with_reducible exact H2_) | with_reducible exact H | (rw [hy165];exact H) | exact H
    have Ny165:=am hy165
    clear hy165
    replace H':=am H
    have p158 : 0≤(x18_1 : Int):=of_decide_eq_true (by assumption)
    have q158 : x18_1 < (l0_2.length : Int):=of_decide_eq_true (by assumption)
    obtain ⟨ad158,e158,hx158_0,hx158_1⟩:=at_T48 HR0_2.out x18_1 p158 q158
    cases e158
    replace hx158_0:=(HB.out.cell (wbl hx158_0)).trans hx158_0
    replace hx158_1:=(HB.out.cell (wbl hx158_1)).trans hx158_1
    replace p158:=eq_true p158
    replace q158:=eq_true q158
    go_wp2_with (first | ((refine gate_dst (N:=6) rfl ?_);refine box_event rfl (N:=6) rfl (cs:=#[.int .i64 0,.int .i64 0]) (t:=48) ?hr ?_;(case hr=>go_simp;try rfl);intro gb159 hg w16 hbox hb;have BK159:=am (hbox);have GW159:=am (ge_new (HB.out) hg);have GE159:=am (ge_new (HB.out) hg);have NB155_159:=am (ne_new BK155.out hg);have NB159_155:=am (ne_new2 BK155.out hg);have NB156_159:=am (ne_new BK156.out hg);have NB159_156:=am (ne_new2 BK156.out hg);have NB157_159:=am (ne_new BK157.out hg);have NB159_157:=am (ne_new2 BK157.out hg);replace HO_4:=am (Kd.R_below HO_4.out hb);replace BK155:=(kmv hb BK155);replace BK156:=(kmv hb BK156);replace BK157:=(kmv hb BK157);replace HB:=am (below_step (HB.out) hb);clear hb hbox hg;have hnb17:=NB159_155.out;have hnc17:=NB155_159.out;have hnb18:=NB159_156.out;have hnc18:=NB156_159.out;have hnb19:=NB159_157.out;have hnc19:=NB157_159.out;obtain ⟨hcz20_0,hcz20_1⟩:=cO2 BK159.out;have hfz20_0:=blk_frozen BK159.out 0;have hfz20_1:=blk_frozen BK159.out 1;have hnb21:=NB155_156.out;have hnc21:=NB156_155.out;have hnb22:=NB155_157.out;have hnc22:=NB157_155.out;obtain ⟨hcz23_0,hcz23_1,hcz23_2,hcz23_3,hcz23_4⟩:=cO5 BK155.out) | ((refine gate_dst (N:=27) rfl ?_);refine Kd.R_lit (Kd.int .i64) _ 3 ?hg (N:=27) ?hd (xs:=([(rd_T48 l0_2 x18_1).f0] : List Int)) (inner:=[.int .i64 ((rd_T48 l0_2 x18_1).f0)]) (ok:=fun _=>True) (okp:=fun _=>True) ?hr ?hp (fun _ hk=>hk) trivial (Below.refl _ _) (Nat.le_refl _) (by simp) ?_;(case hd=>rfl);(case hg=>rfl);(case hr=>go_simp;try rfl);(case hp=>exact (Reps.one (show Kd.M (Kd.int .i64) _ _ _ ((rd_T48 l0_2 x18_1).f0) [.int .i64 ((rd_T48 l0_2 x18_1).f0)] from rfl) (Reps.none _ _)));intro v161 w24 ho25 hb hg_ hnew_;clear hg_ hnew_;(first | rw [← Ny160.out] at ho25 | (simp only [Int.reduceToNat] at ho25;rw [← Ny160.out] at ho25));have HO162:=am (Kd.R_lower (Kd.R_new' ho25 (Kd.R_lt (Kd.R_mono (Kd.R_far (p:=⟨gb159,1,none⟩) (Kd.R_far (p:=⟨gb159,0,none⟩) (Kd.R_types HO_4.out BK159.out (by decide)) (fun _ hk=>hk.2) (.int .i64 ((rd_T48 l0_2 x18_1).f0))) (fun _ hk=>hk.2) (.int .i64 ((rd_T48 l0_2 x18_1).f1))) (fun _ h_=>h_.1)))) (below_size (by repeat (first | (with_reducible first | exact HB.out | refine below_set ?_ (Aside0.out (by assumption)) | apply below_alloc | apply pw_below_drewN) | exact HB.out))));replace HO_4:=am (Kd.R_elder' (Kd.R_mono (Kd.R_far (p:=⟨gb159,1,none⟩) (Kd.R_far (p:=⟨gb159,0,none⟩) (Kd.R_types HO_4.out BK159.out (by decide)) (fun _ hk=>hk.2) (.int .i64 ((rd_T48 l0_2 x18_1).f0))) (fun _ hk=>hk.2) (.int .i64 ((rd_T48 l0_2 x18_1).f1))) (fun _ h_=>h_.1)) (Kd.R_base ho25) hb);replace BK155:=am (blk_below (blk_far (blk_far BK155.out NB155_159.out _) NB155_159.out _) hb);replace BK156:=am (blk_below (blk_far (blk_far BK156.out NB156_159.out _) NB156_159.out _) hb);replace BK157:=am (blk_below (blk_far (blk_far BK157.out NB157_159.out _) NB157_159.out _) hb);replace BK159:=am (blk_below (blk_put (cs:=#[.int .i64 ((rd_T48 l0_2 x18_1).f0),.int .i64 0]) (blk_put (cs:=#[.int .i64 0,.int .i64 0]) BK159.out 0 _ rfl) 1 _ rfl) hb);replace HB:=am (below_step (by repeat (first | (with_reducible first | exact HB.out | refine below_set ?_ (Aside0.out (by assumption)) | apply below_alloc | apply pw_below_drewN) | exact HB.out)) hb);clear hb ho25;obtain ⟨Ao26,co26,eo26⟩:=Kd.R_slice HO162.out;subst eo26) | ((with_reducible refine gate_callee (f:=106) rfl ?_);refine goesL_ (some 28) rfl rfl Tryz.func106 (by kernel_rfl) rfl #[.agg #[.slice A0_0 l0_0.length c0_0,.int .i64 a0_1],.slice Ao26 y160.length co26] rfl (by (try simp only [List.map_toArray,List.map_cons,List.map_nil]);first | done | rfl | (simp only [List.length_drop,List.length_take];rfl)) ?_;(refine (nz_Gives.calls k1 _ _ l0_0 a0_1 _ _ y160 t163 t164 _ ?side1 ?side2 ?side3 ?side4 A14.out).mono ?_);(case side1=>exact kC HR0_0.out HB.out);(case side2=>exact HC0_0.out);(case side3=>repeat (first | exact (Kd.R_reads' HO162.out).2.2 | (with_reducible refine Kd.C_alloc ?_ _) | (with_reducible refine Kd.C_drewN ?_ _) | (with_reducible refine Kd.C_drew ?_)));(case side4=>exact (Kd.R_reads' HO162.out).2.1);rintro e w27 ⟨rfl,hb⟩;refine ⟨_,rfl,?_⟩;replace HO_4:=am (Kd.R_below HO_4.out hb);replace HO162:=am (Kd.R_below HO162.out hb);replace BK155:=(kmv hb BK155);replace BK156:=(kmv hb BK156);replace BK157:=(kmv hb BK157);replace BK159:=(kmv hb BK159);replace HB:=am (below_step (HB.out) hb);(try clear hb);(try clear hb2);(try clear hk);(try clear hi)) | ((with_reducible refine gate_builtin (b:=.append) (xs:=#[.tmp 31,.tmp 33]) rfl ?_);at_builtin;refine Kd.R_append (Kd.int .i64) (w0:=w) w.heap.size rfl (.tmp 31) (.tmp 33) 28 3 (.int .i64 0) 8 rfl Tryz.underlying28 info3 rfl (by decide) (by omega) u4 x4_1 t163 [.int .i64 t163] (fun k_=>some k_ ≠ (.slice Ao26 y160.length co26 : Value).ownBlock) (fun _=>False) rfl rfl ?aP (fun _ hk=>hk.elim) ?aF ?aO ?aB ?aS ?aL ?_;(case aP=>exact rfl);(case aB=>exact (HB.out));(case aF=>exact (fun k_ hk=>Kd.fresh' (Kd.R_lt HO162.out) k_ hk));(case aO=>exact (Kd.R_mono HO_4.out (fun _ hk=>hk.2)));(case aS=>exact (below_size (HB.out)));(case aL=>have:=LMc15.out;omega);intro v166 w28 ho hb hg hat;rw [← Ny165.out] at ho;have n0_:=am (blk_grown (g:=gb155) (o:=.cells #[.slice A0_0 l0_0.length c0_0,.int .i64 a0_1,.slice (some ad158) l0_2.length c0_2,.int .i64 a0_3,.int .i64 a0_4] 27 (0,0)) BK155.out hg (Kd.R_ne HO_4.out BK155.out (by decide)));have n1_:=am (blk_grown (g:=gb156) (o:=.cells #[.slice none 0 0,.int .i64 0,.slice none 0 0,.int .i64 0,.int .i64 0,.slice none 0 0] 110 (0,0)) BK156.out hg (Kd.R_ne HO_4.out BK156.out (by decide)));have n2_:=am (blk_grown (g:=gb157) (o:=.cells #[.slice A0_0 l0_0.length c0_0,.int .i64 a0_1,.slice (some ad158) l0_2.length c0_2,.int .i64 a0_3,.int .i64 a0_4,.slice none 0 0] 110 (0,0)) BK157.out hg (Kd.R_ne HO_4.out BK157.out (by decide)));have n3_:=am (blk_grown (g:=gb159) (o:=.cells #[.int .i64 ((rd_T48 l0_2 x18_1).f0),.int .i64 ((rd_T48 l0_2 x18_1).f1)] 48 (0,0)) BK159.out hg (Kd.R_ne HO_4.out BK159.out (by decide)));have n4_:=am (Kd.R_after (ok:=(fun _=>True)) HO162.out hg hat);have n5_:=am (hb);have n6_:=am (ho);clear BK155;clear BK156;clear BK157;clear BK159;clear HO162;clear HB;clear HO_4;have BK155:=n0_;have BK156:=n1_;have BK157:=n2_;have BK159:=n3_;have HO162:=n4_;have HB:=n5_;have HO167:=n6_;clear n0_ n1_ n2_ n3_ n4_ n5_ n6_;clear ho hb hg hat))
    go_roundg k1
    case measure=>have:=HK1.out;omega
    case rel=>exact ⟨(y165),(wrap64 (x18_1 + 1)),(by first | rfl | (simp;done) | (simp [*];done)),H',⟨by have:=HK1.out;omega⟩,⟨by (with_reducible repeat (first | apply Kd.R_alloc | apply Kd.R_drewN | apply Kd.R_drew));exact Kd.R_mono HO167.out (fun _ hk=>trivial)⟩,⟨BK155.out⟩,⟨BK156.out⟩,⟨BK157.out⟩,⟨HB.out⟩⟩
   ·rw [if_neg c11] at H
    have c11b0 : decide (x18_1 < (l0_2.length : Int)) = false:=decide_eq_false c11
    clear c11
    replace H':=am H
    go_wp2
    go_loopg [36] k1 (fun kq v36 w'=>∃ (x36_2 : Int) (x158005_2 : List (List Int)) (u158005 : Value),v36 = .int .i64 x36_2∧Aside0 (ca_fill.l1 kq x4_1 x36_2 l0_0 a0_1 l0_2 a0_3 a0_4 l0_0 a0_1 l0_2 a0_3 a0_4 x158005_2 = some (r1,r2,r3,r4))∧Aside0 (kq≤k1)∧Aside0 (Kd.R (Kd.int .i64) 3 w' w.heap.size (fun _=>True) u4 x4_1)∧Aside0 (Kd.S (Kd.slice 3 (Kd.int .i64)) 28 w' w.heap.size (fun k_=>some k_ ≠ (u4 : Value).ownBlock) u158005 x158005_2)∧Aside0 (w'.heap[gb155]? = some (.cells #[(.slice A0_0 l0_0.length c0_0),.int .i64 a0_1,(.slice A0_2 l0_2.length c0_2),.int .i64 a0_3,.int .i64 a0_4] 27 (0,0)))∧Aside0 (w'.heap[gb156]? = some (.cells #[(.slice none 0 0),.int .i64 0,(.slice none 0 0),.int .i64 0,.int .i64 0,(.slice none 0 0)] 110 (0,0)))∧Aside0 (w'.heap[gb157]? = some (.cells #[(.slice A0_0 l0_0.length c0_0),.int .i64 a0_1,(.slice A0_2 l0_2.length c0_2),.int .i64 a0_3,.int .i64 a0_4,u158005] 110 (0,0)))∧Aside0 (Below w.heap.size w w'))
    case atStart=>exact ⟨(0),(([] : List (List Int))),(.slice none 0 0),(by first | rfl | (simp;done) | (simp [*];done)),H',⟨Nat.le_refl _⟩,⟨by (with_reducible repeat (first | apply Kd.R_alloc | apply Kd.R_drewN | apply Kd.R_drew));exact HO_4.out⟩,⟨by first | exact Kd.S_nil _ _ _ _ _ | exact Kd.N_nil _ _ _ _ _ | exact Kd.V_nil _ _ _ _ _ | exact Kd.Q_nil _ _ _ _ _ | exact Kd.R_nil _ _ _ _ _⟩,⟨BK155.out⟩,⟨BK156.out⟩,⟨BK157.out⟩,⟨HB.out⟩⟩
    case round =>
     clear H'
     obtain ⟨x36_2,x158005_2,u158005,rfl,HA,HK2,HO_4,HO_158005,BK155,BK156,BK157,HB⟩:=hrel
     cases gk with
     | zero=>exact absurd HA.out (by simp [ca_fill.l1])
     | succ k2 =>
      have H:=HA.out
      clear HA
      simp only [ca_fill.l1] at H
      by_cases c29 : x36_2 < 41
      case neg =>
       rw [if_neg c29] at H
       have c29b0 : decide (x36_2 < 41) = false:=decide_eq_false c29
       clear c29
       simp only [Option.some.injEq,Prod.mk.injEq] at H
       obtain ⟨rfl,rfl,rfl,rfl⟩:=H
       have hnb57:=NB157_155.out
       have hnc57:=NB155_157.out
       have hnb58:=NB157_156.out
       have hnc58:=NB156_157.out
       obtain ⟨hcz59_0,hcz59_1,hcz59_2,hcz59_3,hcz59_4,hcz59_5⟩:=cO6 BK157.out
       have hfz59_0:=blk_frozen BK157.out 0
       have hfz59_1:=blk_frozen BK157.out 1
       have hfz59_2:=blk_frozen BK157.out 2
       have hfz59_3:=blk_frozen BK157.out 3
       have hfz59_4:=blk_frozen BK157.out 4
       have hfz59_5:=blk_frozen BK157.out 5
       have hnb60:=NB156_155.out
       have hnc60:=NB155_156.out
       obtain ⟨hcz61_0,hcz61_1,hcz61_2,hcz61_3,hcz61_4,hcz61_5⟩:=cO6 BK156.out
       have hfz61_0:=blk_frozen BK156.out 0
       have hfz61_1:=blk_frozen BK156.out 1
       have hfz61_2:=blk_frozen BK156.out 2
       have hfz61_3:=blk_frozen BK156.out 3
       have hfz61_4:=blk_frozen BK156.out 4
       have hfz61_5:=blk_frozen BK156.out 5
       obtain ⟨Ao62,co62,eo62⟩:=Kd.S_slice HO_158005.out
       subst eo62
       go_wp2
       refine bodyPost_ret (results_cell_row rfl _ _ gb156 110 #[.slice A0_0 l0_0.length c0_0,.int .i64 a0_1,.slice A0_2 l0_2.length c0_2,.int .i64 a0_3,.int .i64 a0_4,.slice Ao62 x158005_2.length co62] (0,0) _ rfl (blk_put (cs:=#[.slice A0_0 l0_0.length c0_0,.int .i64 a0_1,.slice A0_2 l0_2.length c0_2,.int .i64 a0_3,.int .i64 a0_4,.slice none 0 0]) (blk_put (cs:=#[.slice A0_0 l0_0.length c0_0,.int .i64 a0_1,.slice A0_2 l0_2.length c0_2,.int .i64 a0_3,.int .i64 0,.slice none 0 0]) (blk_put (cs:=#[.slice A0_0 l0_0.length c0_0,.int .i64 a0_1,.slice A0_2 l0_2.length c0_2,.int .i64 0,.int .i64 0,.slice none 0 0]) (blk_put (cs:=#[.slice A0_0 l0_0.length c0_0,.int .i64 a0_1,.slice none 0 0,.int .i64 0,.int .i64 0,.slice none 0 0]) (blk_put (cs:=#[.slice A0_0 l0_0.length c0_0,.int .i64 0,.slice none 0 0,.int .i64 0,.int .i64 0,.slice none 0 0]) (blk_put (cs:=#[.slice none 0 0,.int .i64 0,.slice none 0 0,.int .i64 0,.int .i64 0,.slice none 0 0]) BK156.out 0 _ rfl) 1 _ rfl) 2 _ rfl) 3 _ rfl) 4 _ rfl) 5 _ rfl) Tryz.underlying110 rfl (by kernel_rfl)) rfl ?_
       exact ⟨_,by first | rfl | (simp [*]<;>rfl),by (with_reducible repeat (first | apply Kd.S_alloc | apply Kd.S_drewN | apply Kd.S_drew));exact Kd.S_mono (Kd.S_far (p:=⟨gb156,5,none⟩) (Kd.S_far (p:=⟨gb156,4,none⟩) (Kd.S_far (p:=⟨gb156,3,none⟩) (Kd.S_far (p:=⟨gb156,2,none⟩) (Kd.S_far (p:=⟨gb156,1,none⟩) (Kd.S_far (p:=⟨gb156,0,none⟩) (Kd.S_types HO_158005.out BK156.out (by decide)) (fun _ hk=>hk.2) (.slice A0_0 l0_0.length c0_0)) (fun _ hk=>hk.2) (.int .i64 a0_1)) (fun _ hk=>hk.2) (.slice A0_2 l0_2.length c0_2)) (fun _ hk=>hk.2) (.int .i64 a0_3)) (fun _ hk=>hk.2) (.int .i64 a0_4)) (fun _ hk=>hk.2) (.slice Ao62 x158005_2.length co62)) (fun _ hk=>trivial),by repeat (first | (with_reducible first | exact HB.out | refine below_set ?_ (Aside0.out (by assumption)) | apply below_alloc | apply pw_below_drewN) | exact HB.out)⟩
      rw [if_pos c29] at H
      have c29b0 : decide (x36_2 < 41) = true:=decide_eq_true c29
      clear c29
      replace H':=am H
      have hnb30:=NB155_156.out
      have hnc30:=NB156_155.out
      have hnb31:=NB155_157.out
      have hnc31:=NB157_155.out
      obtain ⟨hcz32_0,hcz32_1,hcz32_2,hcz32_3,hcz32_4⟩:=cO5 BK155.out
      go_wp2
      go_loopg [10,42] k2 (fun kq v10 v42 w'=>∃ (x10_3 : List Int) (x42_3 : Int),v42 = .int .i64 x42_3∧Aside0 (ca_fill.l2 kq x4_1 x36_2 x10_3 x36_2 l0_2 (l0_2.length : Int) x42_3 l0_0 a0_1 l0_2 a0_3 a0_4 l0_0 a0_1 l0_2 a0_3 a0_4 x158005_2 = some (r1,r2,r3,r4))∧Aside0 (kq≤k2)∧Aside0 (Kd.R (Kd.int .i64) 3 w' w.heap.size (fun k_=>some k_ ≠ (v10 : Value).ownBlock) u4 x4_1)∧Aside0 (Kd.R (Kd.int .i64) 3 w' w.heap.size (fun k_=>some k_ ≠ (u4 : Value).ownBlock) v10 x10_3)∧Aside0 (Kd.S (Kd.slice 3 (Kd.int .i64)) 28 w' w.heap.size (fun k_=>some k_ ≠ (u4 : Value).ownBlock∧some k_ ≠ (v10 : Value).ownBlock) u158005 x158005_2)∧Aside0 (w'.heap[gb155]? = some (.cells #[(.slice A0_0 l0_0.length c0_0),.int .i64 a0_1,(.slice A0_2 l0_2.length c0_2),.int .i64 a0_3,.int .i64 a0_4] 27 (0,0)))∧Aside0 (w'.heap[gb156]? = some (.cells #[(.slice none 0 0),.int .i64 0,(.slice none 0 0),.int .i64 0,.int .i64 0,(.slice none 0 0)] 110 (0,0)))∧Aside0 (w'.heap[gb157]? = some (.cells #[(.slice A0_0 l0_0.length c0_0),.int .i64 a0_1,(.slice A0_2 l0_2.length c0_2),.int .i64 a0_3,.int .i64 a0_4,u158005] 110 (0,0)))∧Aside0 (Below w.heap.size w w'))
      case atStart=>exact ⟨(([] : List Int)),(0),(by first | rfl | (simp;done) | (simp [*];done)),H',⟨Nat.le_refl _⟩,⟨by (with_reducible repeat (first | apply Kd.R_alloc | apply Kd.R_drewN | apply Kd.R_drew));exact Kd.R_mono HO_4.out (fun _ hk=>(by simp [Value.ownBlock]))⟩,⟨by first | exact Kd.R_nil _ _ _ _ _ | exact Kd.N_nil _ _ _ _ _ | exact Kd.V_nil _ _ _ _ _ | exact Kd.Q_nil _ _ _ _ _ | exact Kd.S_nil _ _ _ _ _⟩,⟨by (with_reducible repeat (first | apply Kd.S_alloc | apply Kd.S_drewN | apply Kd.S_drew));exact Kd.S_mono HO_158005.out (fun _ hk=>⟨hk,(by simp [Value.ownBlock])⟩)⟩,⟨BK155.out⟩,⟨BK156.out⟩,⟨BK157.out⟩,⟨HB.out⟩⟩
      case round =>
       clear H'
       obtain ⟨x10_3,x42_3,rfl,HA,HK3,HO_4,HO_10,HO_158005,BK155,BK156,BK157,HB⟩:=hrel
       cases gk with
       | zero=>exact absurd HA.out (by simp [ca_fill.l2])
       | succ k3 =>
        have H:=HA.out
        clear HA
        simp only [ca_fill.l2] at H
        by_cases c33 : x42_3 < (l0_2.length : Int)
        case neg =>
         rw [if_neg c33] at H
         have c33b0 : decide (x42_3 < (l0_2.length : Int)) = false:=decide_eq_false c33
         clear c33
         by_cases c49 : x158005_2.length < 5864062014805
         case neg =>
          rw [if_neg c49] at H
          exact absurd H (by simp)
         rw [if_pos c49] at H
         have LMc49:=am c49
         clear c49
         obtain ⟨y174,hy174⟩ : ∃ y_ : List (List Int),y_ = (x158005_2 ++ [x10_3]):=⟨_,rfl⟩
         replace H : (ca_fill.l1 k3 x4_1 (wrap64 (x36_2 + 1)) l0_0 a0_1 l0_2 a0_3 a0_4 l0_0 a0_1 l0_2 a0_3 a0_4 y174) = some (r1,r2,r3,r4):=by first | (rw [hy174];with_reducible exact H) | (have H2_:=(Option.bind_some _ _).symm.trans H;rw [hy174];with_reducible exact H2_) | (have H2_:=(Option.bind_some _ _).symm.trans H;with_reducible exact H2_) | with_reducible exact H | (rw [hy174];exact H) | exact H
         have Ny174:=am hy174
         clear hy174
         replace H':=am H
         have hnb50:=NB157_155.out
         have hnc50:=NB155_157.out
         have hnb51:=NB157_156.out
         have hnc51:=NB156_157.out
         obtain ⟨hcz52_0,hcz52_1,hcz52_2,hcz52_3,hcz52_4,hcz52_5⟩:=cO6 BK157.out
         have hfz52_0:=blk_frozen BK157.out 0
         have hfz52_1:=blk_frozen BK157.out 1
         have hfz52_2:=blk_frozen BK157.out 2
         have hfz52_3:=blk_frozen BK157.out 3
         have hfz52_4:=blk_frozen BK157.out 4
         have hfz52_5:=blk_frozen BK157.out 5
         obtain ⟨Ao54,co54,eo54⟩:=Kd.R_slice HO_10.out
         subst eo54
         go_wp2_with (first | ((with_reducible refine gate_builtin (b:=.append) (xs:=#[.tmp 64,.tmp 66]) rfl ?_);at_builtin;refine Kd.S_append (Kd.slice 3 (Kd.int .i64)) (w0:=w) w.heap.size rfl (.tmp 64) (.tmp 66) 61 28 (.slice none 0 0) 24 rfl Tryz.underlying61 info28 rfl (by decide) (by omega) u158005 x158005_2 x10_3 [.slice Ao54 x10_3.length co54] (fun k_=>some k_ ≠ (u4 : Value).ownBlock) (fun k_=>some k_ = (.slice Ao54 x10_3.length co54 : Value).ownBlock) rfl rfl ?aP (fun k_ hk_=>((Kd.R_mono (ok':=fun k_=>((fun k_=>some k_ ≠ (u4 : Value).ownBlock)) k_∧some k_ ≠ (u158005 : Value).ownBlock) (Kd.R_apart' (HO_10.out) (Kd.S_typed HO_158005.out) (by decide)) (fun k_ hk=>⟨hk.1,hk.2⟩))).1 k_ hk_.symm) ?aF ?aO ?aB ?aS ?aL ?_;(case aP=>exact Kd.M_row (Kd.R_mono (Kd.R_tight rfl (Kd.R_mono (ok':=fun k_=>((fun k_=>some k_ ≠ (u4 : Value).ownBlock)) k_∧some k_ ≠ (u158005 : Value).ownBlock) (Kd.R_apart' (HO_10.out) (Kd.S_typed HO_158005.out) (by decide)) (fun k_ hk=>⟨hk.1,hk.2⟩))) (fun _ h_=>h_)));(case aB=>exact (HB.out));(case aF=>exact (fun k_ hk=>Kd.fresh' (Kd.R_lt HO_4.out) k_ hk));(case aO=>exact (Kd.S_mono HO_158005.out (fun k_ hk=>⟨hk.1,fun e_=>hk.2 e_⟩)));(case aS=>exact (below_size (HB.out)));(case aL=>have:=LMc49.out;omega);intro v175 w53 ho hb hg hat;rw [← Ny174.out] at ho;have n0_:=am (Kd.R_over' HO_4.out (Kd.S_typed HO_158005.out) (by decide) hg);have n1_:=am (blk_grown (g:=gb155) (o:=.cells #[.slice A0_0 l0_0.length c0_0,.int .i64 a0_1,.slice A0_2 l0_2.length c0_2,.int .i64 a0_3,.int .i64 a0_4] 27 (0,0)) BK155.out hg (Kd.S_ne HO_158005.out BK155.out (by decide)));have n2_:=am (blk_grown (g:=gb156) (o:=.cells #[.slice none 0 0,.int .i64 0,.slice none 0 0,.int .i64 0,.int .i64 0,.slice none 0 0] 110 (0,0)) BK156.out hg (Kd.S_ne HO_158005.out BK156.out (by decide)));have n3_:=am (blk_grown (g:=gb157) (o:=.cells #[.slice A0_0 l0_0.length c0_0,.int .i64 a0_1,.slice A0_2 l0_2.length c0_2,.int .i64 a0_3,.int .i64 a0_4,u158005] 110 (0,0)) BK157.out hg (Kd.S_ne HO_158005.out BK157.out (by decide)));have n4_:=am (hb);have n5_:=am (ho);clear HO_4;clear BK155;clear BK156;clear BK157;clear HB;clear HO_158005;clear HO_10;have HO_4:=n0_;have BK155:=n1_;have BK156:=n2_;have BK157:=n3_;have HB:=n4_;have HO176:=n5_;clear n0_ n1_ n2_ n3_ n4_ n5_;clear ho hb hg hat;obtain ⟨Ao55,co55,eo55⟩:=Kd.S_slice HO176.out;subst eo55;obtain ⟨hcz56_0,hcz56_1,hcz56_2,hcz56_3,hcz56_4,hcz56_5⟩:=cO6 BK157.out;have hfz56_0:=blk_frozen BK157.out 0;have hfz56_1:=blk_frozen BK157.out 1;have hfz56_2:=blk_frozen BK157.out 2;have hfz56_3:=blk_frozen BK157.out 3;have hfz56_4:=blk_frozen BK157.out 4;have hfz56_5:=blk_frozen BK157.out 5))
         go_roundg k3
         case measure=>have:=HK1.out;have:=HK2.out;have:=HK3.out;omega
         case rel=>exact ⟨(wrap64 (x36_2 + 1)),(y174),(.slice Ao55 y174.length co55),(by first | rfl | (simp;done) | (simp [*];done)),H',⟨by have:=HK1.out;have:=HK2.out;have:=HK3.out;omega⟩,⟨by (with_reducible repeat (first | apply Kd.R_alloc | apply Kd.R_drewN | apply Kd.R_drew));exact Kd.R_mono (Kd.R_far (p:=⟨gb157,5,none⟩) (Kd.R_types HO_4.out BK157.out (by decide)) (fun _ hk=>hk.2) (.slice Ao55 y174.length co55)) (fun _ hk=>trivial)⟩,⟨by (with_reducible repeat (first | apply Kd.S_alloc | apply Kd.S_drewN | apply Kd.S_drew));exact Kd.S_mono (Kd.S_far (p:=⟨gb157,5,none⟩) (Kd.S_types HO176.out BK157.out (by decide)) (fun _ hk=>hk.2) (.slice Ao55 y174.length co55)) (fun _ hk=>hk.1)⟩,⟨(blk_far BK155.out NB155_157.out _)⟩,⟨(blk_far BK156.out NB156_157.out _)⟩,⟨(blk_put (cs:=#[.slice A0_0 l0_0.length c0_0,.int .i64 a0_1,.slice A0_2 l0_2.length c0_2,.int .i64 a0_3,.int .i64 a0_4,u158005]) BK157.out 5 _ rfl)⟩,⟨by repeat (first | (with_reducible first | exact HB.out | refine below_set ?_ (Aside0.out (by assumption)) | apply below_alloc | apply pw_below_drewN) | exact HB.out)⟩⟩
        rw [if_pos c33] at H
        have c33b0 : decide (x42_3 < (l0_2.length : Int)) = true:=decide_eq_true c33
        clear c33
        by_cases c34 : 0≤x42_3
        case neg =>
         rw [if_neg c34] at H
         exact absurd H (by simp)
        rw [if_pos c34] at H
        have c34b0 : decide (0≤x42_3) = true:=decide_eq_true c34
        clear c34
        by_cases c35 : x42_3 < (l0_2.length : Int)
        case neg =>
         rw [if_neg c35] at H
         exact absurd H (by simp)
        rw [if_pos c35] at H
        have c35b0 : decide (x42_3 < (l0_2.length : Int)) = true:=decide_eq_true c35
        clear c35
        by_cases c36 : x42_3 < (x4_1.length : Int)
        case neg =>
         rw [if_neg c36] at H
         exact absurd H (by simp)
        rw [if_pos c36] at H
        have c36b0 : decide (x42_3 < (x4_1.length : Int)) = true:=decide_eq_true c36
        clear c36
        obtain ⟨ji37,hji37⟩ : ∃ j_ : Int,(mn 5 (wrap64 (x36_2 - ((rd_T48 l0_2 x42_3).f1)))) = j_:=⟨_,rfl⟩
        replace H : (if x10_3.length < 17592186044416 then (ca_fill.l2 k3 x4_1 x36_2 (x10_3 ++ [wrap64 (Int.tdiv (wrap64 ((rd x4_1 x42_3) * (mx 0 (ji37)))) 5)]) x36_2 l0_2 (l0_2.length : Int) (wrap64 (x42_3 + 1)) l0_0 a0_1 l0_2 a0_3 a0_4 l0_0 a0_1 l0_2 a0_3 a0_4 x158005_2) else (none)) = some (r1,r2,r3,r4):=by first | (rw [hji37] at H;exact H) | (simp only [hji37] at H ⊢;exact H)
        have hji37_ : (if (wrap64 (x36_2 - ((rd_T48 l0_2 x42_3).f1))) < 5 then (wrap64 (x36_2 - ((rd_T48 l0_2 x42_3).f1))) else 5) = ji37:=hji37
        obtain ⟨ji38,hji38⟩ : ∃ j_ : Int,(mx 0 (ji37)) = j_:=⟨_,rfl⟩
        replace H : (if x10_3.length < 17592186044416 then (ca_fill.l2 k3 x4_1 x36_2 (x10_3 ++ [wrap64 (Int.tdiv (wrap64 ((rd x4_1 x42_3) * (ji38))) 5)]) x36_2 l0_2 (l0_2.length : Int) (wrap64 (x42_3 + 1)) l0_0 a0_1 l0_2 a0_3 a0_4 l0_0 a0_1 l0_2 a0_3 a0_4 x158005_2) else (none)) = some (r1,r2,r3,r4):=by first | (rw [hji38] at H;exact H) | (simp only [hji38] at H ⊢;exact H)
        have hji38_ : (if 0 < (ji37) then (ji37) else 0) = ji38:=hji38
        by_cases c39 : x10_3.length < 17592186044416
        case neg =>
         rw [if_neg c39] at H
         exact absurd H (by simp)
        rw [if_pos c39] at H
        have LMc39:=am c39
        clear c39
        obtain ⟨y171,hy171⟩ : ∃ y_ : List Int,y_ = (x10_3 ++ [wrap64 (Int.tdiv (wrap64 ((rd x4_1 x42_3) * (ji38))) 5)]):=⟨_,rfl⟩
        replace H : (ca_fill.l2 k3 x4_1 x36_2 y171 x36_2 l0_2 (l0_2.length : Int) (wrap64 (x42_3 + 1)) l0_0 a0_1 l0_2 a0_3 a0_4 l0_0 a0_1 l0_2 a0_3 a0_4 x158005_2) = some (r1,r2,r3,r4):=by first | (rw [hy171];with_reducible exact H) | (have H2_:=(Option.bind_some _ _).symm.trans H;rw [hy171];with_reducible exact H2_) | (have H2_:=(Option.bind_some _ _).symm.trans H;with_reducible exact H2_) | with_reducible exact H | (rw [hy171];exact H) | exact H
        have Ny171:=am hy171
        clear hy171
        replace H':=am H
        have p168 : 0≤(x42_3 : Int):=of_decide_eq_true (by assumption)
        have q168 : x42_3 < (l0_2.length : Int):=of_decide_eq_true (by assumption)
        obtain ⟨ad168,e168,hx168_0,hx168_1⟩:=at_T48 HR0_2.out x42_3 p168 q168
        cases e168
        replace hx168_0:=(HB.out.cell (wbl hx168_0)).trans hx168_0
        replace hx168_1:=(HB.out.cell (wbl hx168_1)).trans hx168_1
        replace p168:=eq_true p168
        replace q168:=eq_true q168
        try go_wp2_with (first | ((refine gate_dst (N:=12) rfl ?_);refine box_event rfl (N:=12) rfl (cs:=#[.int .i64 0,.int .i64 0]) (t:=48) ?hr ?_;(case hr=>go_simp;try rfl);intro gb169 hg w40 hbox hb;have BK169:=am (hbox);have GW169:=am (ge_new (HB.out) hg);have GE169:=am (ge_new (HB.out) hg);have NB155_169:=am (ne_new BK155.out hg);have NB169_155:=am (ne_new2 BK155.out hg);have NB156_169:=am (ne_new BK156.out hg);have NB169_156:=am (ne_new2 BK156.out hg);have NB157_169:=am (ne_new BK157.out hg);have NB169_157:=am (ne_new2 BK157.out hg);replace HO_4:=am (Kd.R_below HO_4.out hb);replace HO_10:=am (Kd.R_below HO_10.out hb);replace HO_158005:=am (Kd.S_below HO_158005.out hb);replace BK155:=(kmv hb BK155);replace BK156:=(kmv hb BK156);replace BK157:=(kmv hb BK157);replace HB:=am (below_step (HB.out) hb);clear hb hbox hg;have hnb41:=NB169_155.out;have hnc41:=NB155_169.out;have hnb42:=NB169_156.out;have hnc42:=NB156_169.out;have hnb43:=NB169_157.out;have hnc43:=NB157_169.out;obtain ⟨hcz44_0,hcz44_1⟩:=cO2 BK169.out;have hfz44_0:=blk_frozen BK169.out 0;have hfz44_1:=blk_frozen BK169.out 1))
        have n0_ : Aside0 (Kd.R (Kd.int .i64) 3 ((w40.setCell ⟨gb169,0,none⟩ (.int .i64 ((rd_T48 l0_2 x42_3).f0))).setCell ⟨gb169,1,none⟩ (.int .i64 ((rd_T48 l0_2 x42_3).f1))) w.heap.size (fun k_=>some k_ ≠ (u10 : Value).ownBlock) u4 x4_1):=⟨by (with_reducible repeat (first | apply Kd.R_alloc | apply Kd.R_drewN | apply Kd.R_drew));exact Kd.R_mono (Kd.R_far (p:=⟨gb169,1,none⟩) (Kd.R_far (p:=⟨gb169,0,none⟩) (Kd.R_types HO_4.out BK169.out (by decide)) (fun _ hk=>hk.2) (.int .i64 ((rd_T48 l0_2 x42_3).f0))) (fun _ hk=>hk.2) (.int .i64 ((rd_T48 l0_2 x42_3).f1))) (fun _ hk=>hk.1)⟩
        have n1_ : Aside0 (Kd.R (Kd.int .i64) 3 ((w40.setCell ⟨gb169,0,none⟩ (.int .i64 ((rd_T48 l0_2 x42_3).f0))).setCell ⟨gb169,1,none⟩ (.int .i64 ((rd_T48 l0_2 x42_3).f1))) w.heap.size (fun k_=>some k_ ≠ (u4 : Value).ownBlock) u10 x10_3):=⟨by (with_reducible repeat (first | apply Kd.R_alloc | apply Kd.R_drewN | apply Kd.R_drew));exact Kd.R_mono (Kd.R_far (p:=⟨gb169,1,none⟩) (Kd.R_far (p:=⟨gb169,0,none⟩) (Kd.R_types HO_10.out BK169.out (by decide)) (fun _ hk=>hk.2) (.int .i64 ((rd_T48 l0_2 x42_3).f0))) (fun _ hk=>hk.2) (.int .i64 ((rd_T48 l0_2 x42_3).f1))) (fun _ hk=>hk.1)⟩
        have n2_ : Aside0 (Kd.S (Kd.slice 3 (Kd.int .i64)) 28 ((w40.setCell ⟨gb169,0,none⟩ (.int .i64 ((rd_T48 l0_2 x42_3).f0))).setCell ⟨gb169,1,none⟩ (.int .i64 ((rd_T48 l0_2 x42_3).f1))) w.heap.size (fun k_=>some k_ ≠ (u4 : Value).ownBlock∧some k_ ≠ (u10 : Value).ownBlock) u158005 x158005_2):=⟨by (with_reducible repeat (first | apply Kd.S_alloc | apply Kd.S_drewN | apply Kd.S_drew));exact Kd.S_mono (Kd.S_far (p:=⟨gb169,1,none⟩) (Kd.S_far (p:=⟨gb169,0,none⟩) (Kd.S_types HO_158005.out BK169.out (by decide)) (fun _ hk=>hk.2) (.int .i64 ((rd_T48 l0_2 x42_3).f0))) (fun _ hk=>hk.2) (.int .i64 ((rd_T48 l0_2 x42_3).f1))) (fun _ hk=>⟨hk.1.1,hk.1.2⟩)⟩
        have n3_ : Aside0 (((w40.setCell ⟨gb169,0,none⟩ (.int .i64 ((rd_T48 l0_2 x42_3).f0))).setCell ⟨gb169,1,none⟩ (.int .i64 ((rd_T48 l0_2 x42_3).f1))).heap[gb155]? = some (.cells #[.slice A0_0 l0_0.length c0_0,.int .i64 a0_1,.slice (some ad168) l0_2.length c0_2,.int .i64 a0_3,.int .i64 a0_4] 27 (0,0))):=⟨(blk_far (blk_far BK155.out NB155_169.out _) NB155_169.out _)⟩
        have n4_ : Aside0 (((w40.setCell ⟨gb169,0,none⟩ (.int .i64 ((rd_T48 l0_2 x42_3).f0))).setCell ⟨gb169,1,none⟩ (.int .i64 ((rd_T48 l0_2 x42_3).f1))).heap[gb156]? = some (.cells #[.slice none 0 0,.int .i64 0,.slice none 0 0,.int .i64 0,.int .i64 0,.slice none 0 0] 110 (0,0))):=⟨(blk_far (blk_far BK156.out NB156_169.out _) NB156_169.out _)⟩
        have n5_ : Aside0 (((w40.setCell ⟨gb169,0,none⟩ (.int .i64 ((rd_T48 l0_2 x42_3).f0))).setCell ⟨gb169,1,none⟩ (.int .i64 ((rd_T48 l0_2 x42_3).f1))).heap[gb157]? = some (.cells #[.slice A0_0 l0_0.length c0_0,.int .i64 a0_1,.slice (some ad168) l0_2.length c0_2,.int .i64 a0_3,.int .i64 a0_4,u158005] 110 (0,0))):=⟨(blk_far (blk_far BK157.out NB157_169.out _) NB157_169.out _)⟩
        have n6_ : Aside0 (((w40.setCell ⟨gb169,0,none⟩ (.int .i64 ((rd_T48 l0_2 x42_3).f0))).setCell ⟨gb169,1,none⟩ (.int .i64 ((rd_T48 l0_2 x42_3).f1))).heap[gb169]? = some (.cells #[.int .i64 ((rd_T48 l0_2 x42_3).f0),.int .i64 ((rd_T48 l0_2 x42_3).f1)] 48 (0,0))):=⟨(blk_put (cs:=#[.int .i64 ((rd_T48 l0_2 x42_3).f0),.int .i64 0]) (blk_put (cs:=#[.int .i64 0,.int .i64 0]) BK169.out 0 _ rfl) 1 _ rfl)⟩
        have n7_ : Aside0 (Below w.heap.size w ((w40.setCell ⟨gb169,0,none⟩ (.int .i64 ((rd_T48 l0_2 x42_3).f0))).setCell ⟨gb169,1,none⟩ (.int .i64 ((rd_T48 l0_2 x42_3).f1)))):=⟨by repeat (first | (with_reducible first | exact HB.out | refine below_set ?_ (Aside0.out (by assumption)) | apply below_alloc | apply pw_below_drewN) | exact HB.out)⟩
        (try clear HO_4)
        (try clear HO_10)
        (try clear HO_158005)
        (try clear BK155)
        (try clear BK156)
        (try clear BK157)
        (try clear BK169)
        (try clear HB)
        generalize ((w40.setCell ⟨gb169,0,none⟩ (.int .i64 ((rd_T48 l0_2 x42_3).f0))).setCell ⟨gb169,1,none⟩ (.int .i64 ((rd_T48 l0_2 x42_3).f1))) = w45 at n0_ n1_ n2_ n3_ n4_ n5_ n6_ n7_ ⊢
        have HO_4:=n0_
        have HO_10:=n1_
        have HO_158005:=n2_
        have BK155:=n3_
        have BK156:=n4_
        have BK157:=n5_
        have BK169:=n6_
        have HB:=n7_
        clear n0_ n1_ n2_ n3_ n4_ n5_ n6_ n7_
        replace HO_4:=am (Kd.R_drew HO_4.out)
        replace HO_10:=am (Kd.R_drew HO_10.out)
        replace HO_158005:=am (Kd.S_drew HO_158005.out)
        replace BK155:=am (blk_drew BK155.out)
        replace BK156:=am (blk_drew BK156.out)
        replace BK157:=am (blk_drew BK157.out)
        replace BK169:=am (blk_drew BK169.out)
        replace HB:=am (below_drew1 HB.out)
        obtain ⟨Ao47,co47,eo47⟩:=Kd.R_slice HO_4.out
        (first | subst eo47 | (injection eo47 with f1_ f2_ f3_;have f4_:=f1_.symm;have f5_:=f3_.symm;clear f1_ f2_ f3_;subst f4_;subst f5_))
        have p170 : 0≤(x42_3 : Int):=of_decide_eq_true (by assumption)
        have q170 : x42_3 < (x4_1.length : Int):=of_decide_eq_true (by assumption)
        obtain ⟨ad170,e170,hx170_0⟩:=Kd.at_int (Kd.R_reads' HO_4.out).2.2 x42_3 p170 q170
        cases e170
        replace p170:=eq_true p170
        replace q170:=eq_true q170
        refine start_ (n:=16) (S:=fun w'=>w'.cell? ⟨gb169,0,none⟩ = some (.int .i64 ((rd_T48 l0_2 x42_3).f0))∧w'.cell? ⟨gb169,1,none⟩ = some (.int .i64 ((rd_T48 l0_2 x42_3).f1))∧w'.cell? (ad170.add (x42_3).toNat) = some (.int .i64 (rd x4_1 x42_3))) (ds:=[13,14]) (ba 16 0) (by kernel_rfl) rfl rfl ⟨(blk_cell BK169.out 0).trans rfl,(blk_cell BK169.out 1).trans rfl,hx170_0⟩ (fun hHeld=>?_);refine with_tabW ca_fill.tab16 ca_fill.bits16 (fun HT_ HW_=>?_)
        generalize w45.drew = w46 at HO_4 HO_10 HO_158005 BK155 BK156 BK157 BK169 HB hx170_0 hHeld ⊢
        refine pure_ (i:=0) (N:=some 47) (v:=?_) (a':=?_) (ba 16 1) rfl rfl (any_of HT_.out (by kernel_rfl)) (fun _ _ _ h=>h) (Or.inl ⟨by rfl,?_⟩) ?_ ?_
        rotate_left
        ·intro w'
         go_simp
         with_reducible rfl
        rotate_left
        ·simp only [Act.put,NRM]
         rfl
        refine pure_ (i:=1) (N:=some 48) (v:=?_) (a':=?_) (ba 16 3) rfl rfl (any_of HT_.out (by kernel_rfl)) (fun _ _ _ h=>h) (Or.inl ⟨by rfl,?_⟩) ?_ ?_
        rotate_left
        ·intro w'
         go_simp
         with_reducible rfl
        rotate_left
        ·simp only [Act.put,NRM]
         rfl
        refine pure_ (i:=2) (N:=some 49) (v:=?_) (a':=?_) (ba 16 7) rfl rfl (any_of HT_.out (by kernel_rfl)) (fun _ _ _ h=>h) (Or.inl ⟨by rfl,?_⟩) ?_ ?_
        rotate_left
        ·intro w'
         go_simp
         with_reducible rfl
        rotate_left
        ·simp only [Act.put,NRM]
         rfl
        refine pure_ (i:=3) (N:=some 50) (v:=?_) (a':=?_) (ba 16 15) rfl rfl (any_of HT_.out (by kernel_rfl)) (fun _ _ _ h=>h) (Or.inl ⟨by rfl,?_⟩) ?_ ?_
        rotate_left
        ·intro w'
         go_simp
         with_reducible rfl
        rotate_left
        ·simp only [Act.put,NRM]
         rfl
        refine pure_ (i:=5) (N:=some 52) (v:=?_) (a':=?_) (ba 16 47) rfl rfl (any_of HT_.out (by kernel_rfl)) (fun _ _ _ h=>h) (Or.inl ⟨by rfl,?_⟩) ?_ ?_
        rotate_left
        ·intro w'
         go_simp
         with_reducible rfl
        rotate_left
        ·simp only [Act.put,NRM]
         rfl
        refine pure_ (i:=6) (N:=some 53) (v:=?_) (a':=?_) (ba 16 111) rfl rfl (any_of HT_.out (by kernel_rfl)) (fun _ _ _ h=>h) (Or.inl ⟨by rfl,?_⟩) ?_ ?_
        rotate_left
        ·intro w'
         go_simp
         with_reducible rfl
        rotate_left
        ·simp only [Act.put,NRM]
         rfl
        refine take_ (i:=4) (N:=some 51) (v:=?_) (a':=?_) (ba 16 127) rfl rfl (take_ofW HT_.out HW_.out (by kernel_rfl)) (fun _ _ _ h=>h) (Or.inl ⟨by rfl,?_⟩) hHeld ?_ ?_
        rotate_left
        ·rintro w' ⟨s0,s1,s2⟩
         go_simp
         with_reducible rfl
        rotate_left
        ·simp only [Act.put,NRM]
         rfl
        refine take_ (i:=7) (N:=some 54) (v:=?_) (a':=?_) (ba 16 255) rfl rfl (take_ofW HT_.out HW_.out (by kernel_rfl)) (fun _ _ _ h=>h) (Or.inl ⟨by rfl,?_⟩) hHeld ?_ ?_
        rotate_left
        ·rintro w' ⟨s0,s1,s2⟩
         go_simp
         with_reducible rfl
        rotate_left
        ·simp only [Act.put,NRM]
         rfl
        refine pure_ (i:=8) (N:=some 55) (v:=?_) (a':=?_) (ba 16 511) rfl rfl (any_of HT_.out (by kernel_rfl)) (fun _ _ _ h=>h) (Or.inl ⟨by rfl,?_⟩) ?_ ?_
        rotate_left
        ·intro w'
         go_simp
         with_reducible rfl
        rotate_left
        ·simp only [Act.put,NRM]
         rfl
        refine pure_ (i:=9) (N:=some 56) (v:=?_) (a':=?_) (ba 16 1023) rfl rfl (any_of HT_.out (by kernel_rfl)) (fun _ _ _ h=>h) (Or.inl ⟨by rfl,?_⟩) ?_ ?_
        rotate_left
        ·intro w'
         go_simp
         with_reducible rfl
        rotate_left
        ·simp only [Act.put,NRM]
         rfl
        refine pure_ (i:=10) (N:=some 57) (v:=?_) (a':=?_) (ba 16 2047) rfl rfl (any_of HT_.out (by kernel_rfl)) (fun _ _ _ h=>h) (Or.inl ⟨by rfl,?_⟩) ?_ ?_
        rotate_left
        ·intro w'
         go_simp
         with_reducible rfl
        rotate_left
        ·simp only [Act.put,NRM]
         rfl
        refine pure_ (i:=11) (N:=some 58) (v:=?_) (a':=?_) (ba 16 4095) rfl rfl (any_of HT_.out (by kernel_rfl)) (fun _ _ _ h=>h) (Or.inl ⟨by rfl,?_⟩) ?_ ?_
        rotate_left
        ·intro w'
         go_simp
         with_reducible rfl
        rotate_left
        ·simp only [Act.put,NRM]
         rfl
        refine pure_ (i:=12) (N:=some 59) (v:=?_) (a':=?_) (ba 16 8191) rfl rfl (any_of HT_.out (by kernel_rfl)) (fun _ _ _ h=>h) (Or.inl ⟨by rfl,?_⟩) ?_ ?_
        rotate_left
        ·intro w'
         go_simp
         with_reducible rfl
        rotate_left
        ·simp only [Act.put,NRM]
         rfl
        refine last_ (i:=13) (N:=some 60) (ba 16 16383) rfl rfl (one_of HT_.out (by kernel_rfl)) (by decide) (fun K hK=>?_)
        refine value_ (w1:=?_) (v:=?_) (by rfl) rfl ?_ ?_
        rotate_left 2
        ·go_simp
         constructor
         ·rfl
         ·rfl
        refine hK.out _ _ ?_
        clear hK K
        refine norm_ (a':=?_) ?_ ?_
        rotate_left
        ·show Act.put _ (some 60) _ = _
         simp only [Act.put,NRM]
         rfl
        refine last_ (i:=14) (N:=some 61) (ba 16 32767) rfl rfl (one_of HT_.out (by kernel_rfl)) (by decide) (fun K hK=>?_)
        refine Kd.R_append_step (Kd.int .i64) (w0:=w) w.heap.size (by rfl) (.tmp 47) (.tmp 60) 28 3 (.int .i64 0) 8 rfl Tryz.underlying28 info3 rfl (by decide) (by omega) u10 x10_3 (wrap64 (Int.tdiv (wrap64 ((rd x4_1 x42_3) * (ji38))) 5)) [.int .i64 (wrap64 (Int.tdiv (wrap64 ((rd x4_1 x42_3) * (ji38))) 5))] (fun k_=>some k_ ≠ (.slice (some ad170) x4_1.length co47 : Value).ownBlock) (fun _=>False) rfl rfl ?aP (fun _ hk=>hk.elim) ?aF ?aO ?aB ?aS ?aL ?_
        (case aP=>exact rfl)
        (case aB=>exact (HB.out))
        (case aF=>exact (fun k_ hk=>Kd.fresh' (Kd.R_lt HO_4.out) k_ hk))
        (case aO=>exact HO_10.out)
        (case aS=>exact (below_size (HB.out)))
        (case aL=>have:=LMc39.out;omega)
        intro v172 w48 ho hb hg hat
        rw [← Ny171.out] at ho
        have n0_:=am (Kd.R_after (ok:=(fun _=>True)) (Kd.R_mono HO_4.out (fun _ hk=>⟨trivial,hk⟩)) hg hat)
        have n1_:=am (Kd.S_after (ok:=(fun k_=>some k_ ≠ (.slice (some ad170) x4_1.length co47 : Value).ownBlock)) HO_158005.out hg hat)
        have n2_:=am (blk_grown (g:=gb155) (o:=.cells #[.slice A0_0 l0_0.length c0_0,.int .i64 a0_1,.slice (some ad168) l0_2.length c0_2,.int .i64 a0_3,.int .i64 a0_4] 27 (0,0)) BK155.out hg (Kd.R_ne HO_10.out BK155.out (by decide)))
        have n3_:=am (blk_grown (g:=gb156) (o:=.cells #[.slice none 0 0,.int .i64 0,.slice none 0 0,.int .i64 0,.int .i64 0,.slice none 0 0] 110 (0,0)) BK156.out hg (Kd.R_ne HO_10.out BK156.out (by decide)))
        have n4_:=am (blk_grown (g:=gb157) (o:=.cells #[.slice A0_0 l0_0.length c0_0,.int .i64 a0_1,.slice (some ad168) l0_2.length c0_2,.int .i64 a0_3,.int .i64 a0_4,u158005] 110 (0,0)) BK157.out hg (Kd.R_ne HO_10.out BK157.out (by decide)))
        have n5_:=am (blk_grown (g:=gb169) (o:=.cells #[.int .i64 ((rd_T48 l0_2 x42_3).f0),.int .i64 ((rd_T48 l0_2 x42_3).f1)] 48 (0,0)) BK169.out hg (Kd.R_ne HO_10.out BK169.out (by decide)))
        have n6_:=am (hb)
        have n7_:=am (ho)
        clear HO_4
        clear HO_158005
        clear BK155
        clear BK156
        clear BK157
        clear BK169
        clear HB
        clear HO_10
        have HO_4:=n0_
        have HO_158005:=n1_
        have BK155:=n2_
        have BK156:=n3_
        have BK157:=n4_
        have BK169:=n5_
        have HB:=n6_
        have HO173:=n7_
        clear n0_ n1_ n2_ n3_ n4_ n5_ n6_ n7_
        clear ho hb hg hat
        refine hK.out _ _ ?_
        clear hK K
        refine norm_ (a':=?_) ?_ ?_
        rotate_left
        ·show Act.put _ (some 61) _ = _
         simp only [Act.put,NRM]
         rfl
        refine pure_ (i:=15) (N:=some 10) (v:=?_) (a':=?_) (ba 16 65535) rfl rfl (any_of HT_.out (by kernel_rfl)) (fun _ _ _ h=>h) (Or.inl ⟨by rfl,?_⟩) ?_ ?_
        rotate_left
        ·intro w'
         go_simp
         with_reducible rfl
        rotate_left
        ·simp only [Act.put,NRM]
         rfl
        refine done_ (done_of HT_.out (by kernel_rfl)) ?_
        try go_wp2
        go_roundg k3
        case measure=>have:=HK1.out;have:=HK2.out;have:=HK3.out;omega
        case rel=>exact ⟨(y171),(wrap64 (x42_3 + 1)),(by first | rfl | (simp;done) | (simp [*];done)),H',⟨by have:=HK1.out;have:=HK2.out;have:=HK3.out;omega⟩,⟨by (with_reducible repeat (first | apply Kd.R_alloc | apply Kd.R_drewN | apply Kd.R_drew));exact Kd.R_mono HO_4.out (fun _ hk=>hk.2)⟩,⟨by (with_reducible repeat (first | apply Kd.R_alloc | apply Kd.R_drewN | apply Kd.R_drew));exact HO173.out⟩,⟨by (with_reducible repeat (first | apply Kd.S_alloc | apply Kd.S_drewN | apply Kd.S_drew));exact HO_158005.out⟩,⟨BK155.out⟩,⟨BK156.out⟩,⟨BK157.out⟩,⟨HB.out⟩⟩
def ca_isFlow.f (a0 : Int) : Option (Bool):=(ca_in.f a0 0 10000).bind fun t137=>(some t137)
theorem ca_isFlow.calls (a0 : Int) (r : Bool) (w : World) (h : ca_isFlow.f a0 = some r) :
 Calls Tryz.prog 67 #[.int .i64 a0] w fun e w'=>e = .returned (.bool r)∧Drawn0 w w':=by
 have H : ((ca_in.f a0 0 10000).bind fun t137=>(some t137)) = some r:=h
 clear h
 replace H:=obm H
 obtain ⟨t137,A20,H⟩:=H
 replace H : (some t137) = some r:=H
 have A2:=am A20
 clear A20
 obtain rfl:=Option.some.inj H
 go_enter Tryz.func67,Tryz.ntmps67
 go_wp2_with (first | ((with_reducible refine gate_callee (f:=79) rfl ?_);refine goesL_ (some 4) rfl rfl Tryz.func79 (by kernel_rfl) rfl #[.int .i64 a0,.int .i64 0,.int .i64 10000] rfl (by (try simp only [List.map_toArray,List.map_cons,List.map_nil]);first | done | rfl | (simp only [List.length_drop,List.length_take];rfl)) ?_;(with_reducible refine (ca_in.calls a0 0 10000 t137 _ A2.out).mono ?_);rintro e w' ⟨rfl,⟨nd,rfl⟩⟩;refine ⟨_,rfl,?_⟩))
 go_ret
 exact ⟨by first | rfl | (simp;done) | (simp [*];done),by repeat (first | exact Drawn0.refl _ | apply Drawn0.step)⟩
end
set_option linter.unusedSimpArgs false
end Go.Proofs.YtnnmnhpeblhiiaaGreatDoor.C

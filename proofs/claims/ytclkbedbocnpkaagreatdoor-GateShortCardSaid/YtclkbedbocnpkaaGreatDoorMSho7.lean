/- A part of the proof: the walks of the functions that it reaches. TIGHT. -/
import Derived.Test.YtclkbedbocnpkaaGreatDoorMSho6
import Derived.Laws.ResultCell
set_option linter.unusedVariables false
set_option linter.unusedSimpArgs false
namespace Go.Proofs.YtclkbedbocnpkaaGreatDoor.C
open Go.RowKit Go.Proofs.YtclkbedbocnpkaaGreatDoorW.PrintWords Go.Proofs.YtclkbedbocnpkaaGreatDoorW.PrintLast Go.Proofs.YtclkbedbocnpkaaGreatDoorW.PrintMore
set_option linter.unusedVariables false
set_option linter.unusedSimpArgs false
set_option maxHeartbeats 16000000
set_option maxRecDepth 100000
theorem goesV_ {P : Program} {ops : Array Oper} {Q : Exit → Act → World → Prop} {oi : Oper} {N : Option Tmp} {a : Act} {w : World} {K : Act → World → Prop} {t : Tmp} {f : FuncId} {fn : Func} {oas : Array Operand} {ts : Array TypeId} (hf : P.funcs[f]? = some fn) (hname : (fn.name == "runtime.NumGoroutine") = false) (hb : fn.body.isSome = true) (args : Array Value)
 (hw : Region.wanted oi (yielded ops a.tmps) = true) (hN : oi.dst = N) (hop : oi.op = .call { callee:=.value (.tmp t),args:=oas,argTypes:=ts }) (hv : a.eval (.tmp t) = .func (.func f) #[] #[]) (hargs : oas.map a.eval = args)
 (h : Calls P f args w fun e w'=>∃ v,e = .returned v∧K (a.put N v) w') : if Region.wanted oi (yielded ops a.tmps) = true then Oper.wp P oi a w K Q else K (a.put N undef) w:=by
 refine call_ f args hw hN ?_ h
 have he:=enters_ hf hname hb args w
 unfold execOp
 simp [hop,resolve,Deferred.ofValue,invoke,hv,hargs,he]
theorem ga_end.calls (w : World) : Calls Tryz.prog 124 #[] w fun e w'=>e = .returned (.agg #[.func (.func 129) #[] #[],.func (.func 130) #[] #[]])∧Below w.heap.size w w':=by
 have hu:=Tryz.underlying128
 go_enter Tryz.func124,Tryz.ntmps124
 go_wp2
 refine bodyPost_ret (v:=.agg #[.func (.func 129) #[] #[],.func (.func 130) #[] #[]]) (by simp [results,Tryz.results124,go_sem]) rfl ⟨rfl,?_⟩
 exact (Below.refl _ _).alloc (Nat.le_refl _) _
theorem ends_at (hi : Bool) (W : World) : (Instr.index 128 (.agg #[.func (.func 129) #[] #[],.func (.func 130) #[] #[]]) (.int .i64 (if hi = true then 1 else 0))).run Tryz.prog W = .ok (.func (.func (if hi = true then 130 else 129)) #[] #[]) W:=by
 cases hi<;>kernel_rfl
theorem grown_trans {A B C : World} {row : Option Nat} (h : A.grownBy B row) (k : B.grownBy C row) : A.grownBy C row:=
 ⟨k.os.trans h.os,k.tape.trans h.tape,k.output.trans h.output,Nat.le_trans h.size k.size,fun i hi hne=>(k.block i (Nat.lt_of_lt_of_le hi h.size) hne).trans (h.block i hi hne)⟩
theorem put4 {W : World} {g t : Nat} {a0 a1 a2 a3 v0 v1 v2 v3 : Value} (h : W.heap[g]? = some (.cells #[a0,a1,a2,a3] t (0,0))) : ((((W.setCell ⟨g,0,none⟩ v0).setCell ⟨g,1,none⟩ v1).setCell ⟨g,2,none⟩ v2).setCell ⟨g,3,none⟩ v3).heap[g]? = some (.cells #[v0,v1,v2,v3] t (0,0))∧W.grownBy ((((W.setCell ⟨g,0,none⟩ v0).setCell ⟨g,1,none⟩ v1).setCell ⟨g,2,none⟩ v2).setCell ⟨g,3,none⟩ v3) (some g):=
 ⟨blk_set (blk_set (blk_set (blk_set h 0 v0) 1 v1) 2 v2) 3 v3,grown_trans (grown_trans (grown_trans grown_set grown_set) grown_set) grown_set⟩
def short1 (l0_0 : List S37) (hi : Bool) : List Int→List Int→Option (List Int)
 | [],acc=>some acc
 | p :: ps,acc=>if 0≤p then (if p < (l0_0.length : Int) then (if acc.length < 1000000 then short1 l0_0 hi ps (acc ++ [(rd_T37 l0_0 p).f1,wrap64 (-(if hi = true then (rd_T37 l0_0 p).f0.f1 else (rd_T37 l0_0 p).f0.f0))]) else none) else none) else none
def short2 (k : Nat) (l0_0 : List S37) (l0_1 : List S65) (l0_2 l1 : List Int) : List S65→Int→List Int→Option (List Int)
 | [],_,acc=>some acc
 | x :: xs,c,acc=>(sl_Contains_int_int.f k l1 x.f1).bind fun t=>if t = true then ((sl_Contains_int_int.f k l1 x.f0).bind fun u=>if u = true then short2 k l0_0 l0_1 l0_2 l1 xs (c + 1) acc else (gs_carries.f k l0_0 l0_1 l0_2 c).bind fun v=>if acc.length < 1000000 then short2 k l0_0 l0_1 l0_2 l1 xs (c + 1) (acc ++ [wrap64 (-v)]) else none) else short2 k l0_0 l0_1 l0_2 l1 xs (c + 1) acc
def gs_short.f (k : Nat) (l0_0 : List S37) (l0_1 : List S65) (l0_2 l1 : List Int) (hi : Bool) : Option Int:=(short1 l0_0 hi l1 []).bind fun a=>(short2 k l0_0 l0_1 l0_2 l1 l0_1 0 a).bind fun b=>ga_sum.f k b
theorem gs_short.calls (k : Nat) (A0_0 : Option Addr) (c0_0 : Nat) (l0_0 : List S37) (A0_1 : Option Addr) (c0_1 : Nat) (l0_1 : List S65) (A0_2 : Option Addr) (c0_2 : Nat) (l0_2 : List Int) (A1 : Option Addr) (c1 : Nat) (l1 : List Int) (hi : Bool) (r : Int) (w : World) (hr0_0 : Kd.C k37 w A0_0 l0_0.length l0_0) (hc0_0 : l0_0.length≤c0_0) (hr0_1 : Kd.C k65 w A0_1 l0_1.length l0_1) (hc0_1 : l0_1.length≤c0_1) (hr0_2 : Kd.C (Kd.int .i64) w A0_2 l0_2.length l0_2) (hc0_2 : l0_2.length≤c0_2) (hr1 : Kd.C (Kd.int .i64) w A1 l1.length l1) (hc1 : l1.length≤c1) (h : gs_short.f k l0_0 l0_1 l0_2 l1 hi = some r) :
 Calls Tryz.prog 107 #[.agg #[.slice A0_0 l0_0.length c0_0,.slice A0_1 l0_1.length c0_1,.slice A0_2 l0_2.length c0_2],.slice A1 l1.length c1,.int .i64 (if hi = true then 1 else 0)] w fun e w'=>e = .returned (.int .i64 r)∧Below w.heap.size w w':=by
 have hus:=Tryz.underlying80
 have hun:=Tryz.underlying25
 have hup:=Tryz.underlying37
 have hus2:=Tryz.underlying35
 have hug:=Tryz.underlying131
 have huc:=Tryz.underlying65
 have hen:=ends_at hi
 unfold gs_short.f at h
 obtain ⟨a,ha,h⟩:=obm h
 obtain ⟨b,hb,h⟩:=obm h
 have H1:=am ha
 have H2:=am hb
 have H3:=am h
 have HR0:=am hr0_0
 have HC0:=am hc0_0
 have HR1:=am hr0_1
 have HC1:=am hc0_1
 have HR2:=am hr0_2
 have HC2:=am hc0_2
 have HRp:=am hr1
 have HCp:=am hc1
 have HB:=am (Below.refl w.heap.size w)
 have hm1 : l1.length≤9223372036854775807:=Kd.C_max hr1
 have hm2 : l0_1.length≤9223372036854775807:=Kd.C_max hr0_1
 clear ha hb h hr0_0 hc0_0 hr0_1 hc0_1 hr0_2 hc0_2 hr1 hc1
 obtain ⟨av,hav⟩ : ∃ z : Int,(if hi = true then 1 else 0) = z:=⟨_,rfl⟩
 rw [hav] at hen ⊢
 clear hav
 go_enter Tryz.func107,Tryz.ntmps107
 go_wp2_with ((refine ga_dst (N:=3) rfl ?_);(try (refine ga_guard (by rfl) ?_;dsimp only));refine box_event rfl (N:=3) rfl (cs:=#[.slice A0_0 l0_0.length c0_0,.slice A0_1 l0_1.length c0_1,.slice A0_2 l0_2.length c0_2]) (t:=80) ?hr ?_;(case hr=>go_simp;try rfl);intro gs hg w1 hbox hb;have HG:=am (show w.heap.size≤gs by rw [hg];exact HB.out.size);replace HB:=(bmv HB hb);clear hg;have BKgs:=am hbox;clear hbox;(try clear hczgs_0 hfzgs_0);have hczgs_0:=cO1 BKgs.out;(try clear hczgs_1 hfzgs_1);have hczgs_1 : w1.cell? ⟨gs,1,none⟩ = some (.slice A0_1 l0_1.length c0_1):=(blk_cell BKgs.out 1).trans rfl;(try clear hczgs_2 hfzgs_2);have hczgs_2 : w1.cell? ⟨gs,2,none⟩ = some (.slice A0_2 l0_2.length c0_2):=(blk_cell BKgs.out 2).trans rfl;clear hb)
 have HGL:=am (blk_lt BKgs.out)
 go_loopw [7,14] (fun v7 v14 W'=>∃ (dn rs acc : List Int),l1 = dn ++ rs∧v14 = .int .i64 (dn.length : Int)∧Aside0 ((Kd.int .i64).R 3 W' w1.heap.size (fun _=>True) v7 acc)∧Aside0 (short1 l0_0 hi rs acc = some a)∧Aside0 (Below w.heap.size w W')∧Aside0 (W'.heap[gs]? = some (.cells #[.slice A0_0 l0_0.length c0_0,.slice A0_1 l0_1.length c0_1,.slice A0_2 l0_2.length c0_2] 80 (0,0)))∧Aside0 (w1.heap.size≤W'.heap.size)) (fun _ v14 _=>l1.length - (intOf v14).toNat)
 case atStart=>exact ⟨[],l1,[],rfl,rfl,⟨Kd.R_nil _ _ _ _ _⟩,H1,HB,BKgs,⟨Nat.le_refl _⟩⟩
 case round =>
  clear H1 HB BKgs
  (try clear hczgs_0 hczgs_1 hczgs_2 hfzgs_0 hfzgs_1 hfzgs_2)
  obtain ⟨dn,rs,acc,hx2,rfl,HO,HQ,HB,BK,HS⟩:=hrel
  have hlen : l1.length = dn.length + rs.length:=by rw [hx2];simp
  cases rs with
  | nil =>
   obtain hd : l1 = dn:=by simpa using hx2
   subst hd
   clear hx2 hlen
   have hq1 : decide ((l1.length : Int) < (l1.length : Int)) = false:=by simp
   have hacc:=HQ.out
   rw [short1] at hacc
   obtain rfl:=Option.some.inj hacc
   clear HQ hacc
   have c0:=(blk_cell BK.out 0).trans rfl
   have c1_:=(blk_cell BK.out 1).trans rfl
   have c2_:=(blk_cell BK.out 2).trans rfl
   go_wp2
   clear c0 c1_ c2_
   have HQ2:=am (show short2 k l0_0 l0_1 l0_2 l1 l0_1 (([] : List S65).length : Int) acc = some b from H2.out)
   go_loopw [7,46] (fun v7 v46 W'=>∃ (dn rs : List S65) (acc : List Int),l0_1 = dn ++ rs∧v46 = .int .i64 (dn.length : Int)∧Aside0 ((Kd.int .i64).R 3 W' w1.heap.size (fun _=>True) v7 acc)∧Aside0 (short2 k l0_0 l0_1 l0_2 l1 rs (dn.length : Int) acc = some b)∧Aside0 (Below w.heap.size w W')∧Aside0 (W'.heap[gs]? = some (.cells #[.slice A0_0 l0_0.length c0_0,.slice A0_1 l0_1.length c0_1,.slice A0_2 l0_2.length c0_2] 80 (0,0)))∧Aside0 (w1.heap.size≤W'.heap.size)) (fun _ v46 _=>l0_1.length - (intOf v46).toNat)
   case atStart=>exact ⟨[],l0_1,acc,rfl,rfl,HO,HQ2,HB,BK,HS⟩
   case round =>
    clear HQ2 HO HB BK HS
    obtain ⟨dn,rs,acc,hx2,rfl,HO,HQ,HB,BK,HS⟩:=hrel
    have hlen : l0_1.length = dn.length + rs.length:=by rw [hx2];simp
    obtain ⟨A7,c7,rfl,hl7,hC7⟩:=Kd.R_reads HO.out
    cases rs with
    | nil =>
     obtain hd : l0_1 = dn:=by simpa using hx2
     subst hd
     clear hx2 hlen
     have hq2 : decide ((l0_1.length : Int) < (l0_1.length : Int)) = false:=by simp
     have hacc:=HQ.out
     rw [short2] at hacc
     obtain rfl:=Option.some.inj hacc
     have HC7:=am hC7
     have HL7:=am hl7
     clear HQ hacc hC7 hl7
     go_wp2_with (go_at_call 125;refine (ga_sum.calls k A7 c7 acc r _ HC7.out HL7.out H3.out).mono ?_;rintro e w5 ⟨rfl,hd⟩;have hb:=hd.below;clear hd)
     go_ret
     exact ⟨rfl,below_then HB.out HB.out.size hb⟩
    | cons x xs =>
     have q0 : (0 : Int)≤(dn.length : Int):=by omega
     have q1 : (dn.length : Int) < (l0_1.length : Int):=by rw [hlen];simp;omega
     have hq2 : decide ((dn.length : Int) < (l0_1.length : Int)) = true:=decide_eq_true q1
     obtain ⟨adp,eAp,hx0,hx1,hx2_,hx3⟩:=at_T65 HR1.out (dn.length : Int) q0 q1
     have hrd : rd_T65 l0_1 (dn.length : Int) = x:=by show l0_1.getD _ _ = x;rw [hx2];simp
     rw [hrd] at hx0 hx1 hx2_ hx3
     subst eAp
     replace hx0:=(HB.out.cell (wbl hx0)).trans hx0
     replace hx1:=(HB.out.cell (wbl hx1)).trans hx1
     replace hx2_:=(HB.out.cell (wbl hx2_)).trans hx2_
     replace hx3:=(HB.out.cell (wbl hx3)).trans hx3
     have HLEN:=am hlen
     have HXE:=am hx2
     clear hlen hrd hl7 hC7 hx2
     have hq:=HQ.out
     rw [short2] at hq
     obtain ⟨t,ht,hq⟩:=obm hq
     have HT:=am ht
     clear ht HQ
     have hw1 : IntKind.i64.wrap ((dn.length : Int) + 1) = (dn.length : Int) + 1:=(i64_w _).trans (by unfold wrap64;have:=HLEN.out;simp at this;omega)
     simp only [Int.toNat_natCast] at hx0 hx1 hx2_ hx3
     cases t with
     | false =>
      rw [if_neg (by decide)] at hq
      have HQ3:=am (show short2 k l0_0 l0_1 l0_2 l1 xs ((dn ++ [x]).length : Int) acc = some b by rw [show (((dn ++ [x]).length : Nat) : Int) = (dn.length : Int) + 1 by simp];exact hq)
      clear hq
      go_wp2_with (first | ((refine ga_dst (N:=11) rfl ?_);refine box_event rfl (N:=11) rfl (cs:=#[.int .i64 0,.int .i64 0,.int .i64 0,.bool false]) (t:=65) ?hr ?_;(case hr=>go_simp;try rfl);intro gx hg w3 hbox hb;have BX:=am hbox;have n1:=(kmv hb BK);have n2:=(bmv HB hb);have n3:=am (R_keepsEx (X:=fun _=>False) HO.out (KeepsEx.of_below hb) (fun _ h=>h.elim));have n4:=am (Nat.le_trans HS.out hb.size);have n6:=am (show w1.heap.size≤gx by rw [hg];exact HS.out);clear BK HB HO HS hb hg hbox;have BK:=n1;have HB:=n2;have HO:=n3;have HS:=n4;have HGX:=n6;clear n1 n2 n3 n4 n6;have y0_:=(blk_cell BX.out 0).trans rfl;have z0_:=blk_frozen BX.out 0;have y1_:=(blk_cell BX.out 1).trans rfl;have z1_:=blk_frozen BX.out 1;have y2_:=(blk_cell BX.out 2).trans rfl;have z2_:=blk_frozen BX.out 2;have y3_:=(blk_cell BX.out 3).trans rfl;have z3_:=blk_frozen BX.out 3) | ((with_reducible refine ga_store (t:=65) (p:=11) rfl ?_);obtain ⟨p4,g4⟩:=put4 (v0:=.int .i64 x.f0) (v1:=.int .i64 x.f1) (v2:=.int .i64 x.f2) (v3:=.bool x.f3) BX.out;have m1:=blk_grown1 BK.out g4 (fun r e=>by cases e;exact fun e2=>obj_ne BK.out BX.out (by decide) e2.symm);have m2:=HB.out.grown g4 HB.out.size (fun r e=>by cases e;have:=HGX.out;have:=HGL.out;have:=HG.out;omega);have m3:=R_keepI HO.out (fun k cells hc=>blk_grown1 hc g4 (fun r e=>by cases e;exact fun e2=>obj_ne hc BX.out (by decide) e2.symm));have m4:=Nat.le_trans HS.out g4.size;refine skip_abs (fun W'=>W'.heap[gx]? = some (.cells #[.int .i64 x.f0,.int .i64 x.f1,.int .i64 x.f2,.bool x.f3] 65 (0,0))∧W'.heap[gs]? = some (.cells #[.slice A0_0 l0_0.length c0_0,.slice (some adp) l0_1.length c0_1,.slice A0_2 l0_2.length c0_2] 80 (0,0))∧Below w.heap.size w W'∧(Kd.int .i64).R 3 W' w1.heap.size (fun _=>True) (.slice A7 acc.length c7) acc∧w1.heap.size≤W'.heap.size) (W1:=((((w3.setCell ⟨gx,0,none⟩ (.int .i64 x.f0)).setCell ⟨gx,1,none⟩ (.int .i64 x.f1)).setCell ⟨gx,2,none⟩ (.int .i64 x.f2)).setCell ⟨gx,3,none⟩ (.bool x.f3))) (by rfl) (by rfl) ?hrun ⟨p4,m1,m2,m3,m4⟩ ?_;(case hrun=>first | (go_simp;done) | (go_simp;rfl));clear p4 g4 m1 m2 m3 m4 y0_ z0_ y1_ z1_ y2_ z2_ y3_ z3_ BK HB HO HS BX hx0 hx1 hx2_ hx3;rintro w4 ⟨p4,m1,m2,m3,m4⟩;have BX:=am p4;have BK:=am m1;have HB:=am m2;have HO:=am m3;have HS:=am m4;clear p4 m1 m2 m3 m4;(try clear x0_ x1_ s0_ s1_ s2_);obtain ⟨x0_,x1_⟩:=cO2 BX.out;obtain ⟨s0_,s1_,s2_⟩:=cO3 BK.out) | (go_at_call 81;(refine (sl_Contains_int_int.calls k A1 c1 l1 x.f1 false _ (kC HRp.out HB.out) HCp.out HT.out).mono ?_);rintro e w5 ⟨rfl,hd⟩;have hb:=hd.below;clear hd HT;have n1:=(kmv hb BK);have n2:=(bmv HB hb);have n3:=am (R_keepsEx (X:=fun _=>False) HO.out (KeepsEx.of_below hb) (fun _ h=>h.elim));have n4:=am (Nat.le_trans HS.out hb.size);have n5:=(kmv hb BX);clear BK HB HO HS BX;have BK:=n1;have HB:=n2;have HO:=n3;have HS:=n4;have BX:=n5;clear n1 n2 n3 n4 n5;(try clear x0_ x1_ s0_ s1_ s2_);obtain ⟨x0_,x1_⟩:=cO2 BX.out;obtain ⟨s0_,s1_,s2_⟩:=cO3 BK.out;clear hb))
      go_roundw
      case rel=>exact ⟨dn ++ [x],xs,acc,by rw [HXE.out];simp,by simp,HO,HQ3,HB,BK,HS⟩
      case measure=>have:=HLEN.out;simp [intOf] at this ⊢;omega
     | true =>
      rw [if_pos rfl] at hq
      obtain ⟨u,hu,hq⟩:=obm hq
      have HU:=am hu
      clear hu
      cases u with
      | true =>
       rw [if_pos rfl] at hq
       have HQ3:=am (show short2 k l0_0 l0_1 l0_2 l1 xs ((dn ++ [x]).length : Int) acc = some b by rw [show (((dn ++ [x]).length : Nat) : Int) = (dn.length : Int) + 1 by simp];exact hq)
       clear hq
       go_wp2_with (first | ((refine ga_dst (N:=11) rfl ?_);refine box_event rfl (N:=11) rfl (cs:=#[.int .i64 0,.int .i64 0,.int .i64 0,.bool false]) (t:=65) ?hr ?_;(case hr=>go_simp;try rfl);intro gx hg w3 hbox hb;have BX:=am hbox;have n1:=(kmv hb BK);have n2:=(bmv HB hb);have n3:=am (R_keepsEx (X:=fun _=>False) HO.out (KeepsEx.of_below hb) (fun _ h=>h.elim));have n4:=am (Nat.le_trans HS.out hb.size);have n6:=am (show w1.heap.size≤gx by rw [hg];exact HS.out);clear BK HB HO HS hb hg hbox;have BK:=n1;have HB:=n2;have HO:=n3;have HS:=n4;have HGX:=n6;clear n1 n2 n3 n4 n6;have y0_:=(blk_cell BX.out 0).trans rfl;have z0_:=blk_frozen BX.out 0;have y1_:=(blk_cell BX.out 1).trans rfl;have z1_:=blk_frozen BX.out 1;have y2_:=(blk_cell BX.out 2).trans rfl;have z2_:=blk_frozen BX.out 2;have y3_:=(blk_cell BX.out 3).trans rfl;have z3_:=blk_frozen BX.out 3) | ((with_reducible refine ga_store (t:=65) (p:=11) rfl ?_);obtain ⟨p4,g4⟩:=put4 (v0:=.int .i64 x.f0) (v1:=.int .i64 x.f1) (v2:=.int .i64 x.f2) (v3:=.bool x.f3) BX.out;have m1:=blk_grown1 BK.out g4 (fun r e=>by cases e;exact fun e2=>obj_ne BK.out BX.out (by decide) e2.symm);have m2:=HB.out.grown g4 HB.out.size (fun r e=>by cases e;have:=HGX.out;have:=HGL.out;have:=HG.out;omega);have m3:=R_keepI HO.out (fun k cells hc=>blk_grown1 hc g4 (fun r e=>by cases e;exact fun e2=>obj_ne hc BX.out (by decide) e2.symm));have m4:=Nat.le_trans HS.out g4.size;refine skip_abs (fun W'=>W'.heap[gx]? = some (.cells #[.int .i64 x.f0,.int .i64 x.f1,.int .i64 x.f2,.bool x.f3] 65 (0,0))∧W'.heap[gs]? = some (.cells #[.slice A0_0 l0_0.length c0_0,.slice (some adp) l0_1.length c0_1,.slice A0_2 l0_2.length c0_2] 80 (0,0))∧Below w.heap.size w W'∧(Kd.int .i64).R 3 W' w1.heap.size (fun _=>True) (.slice A7 acc.length c7) acc∧w1.heap.size≤W'.heap.size) (W1:=((((w3.setCell ⟨gx,0,none⟩ (.int .i64 x.f0)).setCell ⟨gx,1,none⟩ (.int .i64 x.f1)).setCell ⟨gx,2,none⟩ (.int .i64 x.f2)).setCell ⟨gx,3,none⟩ (.bool x.f3))) (by rfl) (by rfl) ?hrun ⟨p4,m1,m2,m3,m4⟩ ?_;(case hrun=>first | (go_simp;done) | (go_simp;rfl));clear p4 g4 m1 m2 m3 m4 y0_ z0_ y1_ z1_ y2_ z2_ y3_ z3_ BK HB HO HS BX hx0 hx1 hx2_ hx3;rintro w4 ⟨p4,m1,m2,m3,m4⟩;have BX:=am p4;have BK:=am m1;have HB:=am m2;have HO:=am m3;have HS:=am m4;clear p4 m1 m2 m3 m4;(try clear x0_ x1_ s0_ s1_ s2_);obtain ⟨x0_,x1_⟩:=cO2 BX.out;obtain ⟨s0_,s1_,s2_⟩:=cO3 BK.out) | (go_at_call 81;(refine (sl_Contains_int_int.calls k A1 c1 l1 x.f1 true _ (kC HRp.out HB.out) HCp.out HT.out).mono ?_);rintro e w5 ⟨rfl,hd⟩;have hb:=hd.below;clear hd HT;have n1:=(kmv hb BK);have n2:=(bmv HB hb);have n3:=am (R_keepsEx (X:=fun _=>False) HO.out (KeepsEx.of_below hb) (fun _ h=>h.elim));have n4:=am (Nat.le_trans HS.out hb.size);have n5:=(kmv hb BX);clear BK HB HO HS BX;have BK:=n1;have HB:=n2;have HO:=n3;have HS:=n4;have BX:=n5;clear n1 n2 n3 n4 n5;(try clear x0_ x1_ s0_ s1_ s2_);obtain ⟨x0_,x1_⟩:=cO2 BX.out;obtain ⟨s0_,s1_,s2_⟩:=cO3 BK.out;clear hb) | (go_at_call 81;(refine (sl_Contains_int_int.calls k A1 c1 l1 x.f0 true _ (kC HRp.out HB.out) HCp.out HU.out).mono ?_);rintro e w6 ⟨rfl,hd⟩;have hb:=hd.below;clear hd HU;have n1:=(kmv hb BK);have n2:=(bmv HB hb);have n3:=am (R_keepsEx (X:=fun _=>False) HO.out (KeepsEx.of_below hb) (fun _ h=>h.elim));have n4:=am (Nat.le_trans HS.out hb.size);have n5:=(kmv hb BX);clear BK HB HO HS BX;have BK:=n1;have HB:=n2;have HO:=n3;have HS:=n4;have BX:=n5;clear n1 n2 n3 n4 n5;(try clear x0_ x1_ s0_ s1_ s2_);obtain ⟨x0_,x1_⟩:=cO2 BX.out;obtain ⟨s0_,s1_,s2_⟩:=cO3 BK.out;clear hb))
       go_roundw
       case rel=>exact ⟨dn ++ [x],xs,acc,by rw [HXE.out];simp,by simp,HO,HQ3,HB,BK,HS⟩
       case measure=>have:=HLEN.out;simp [intOf] at this ⊢;omega
      | false =>
       rw [if_neg (by decide)] at hq
       obtain ⟨v,hv,hq⟩:=obm hq
       have HV:=am hv
       clear hv
       by_cases p2 : acc.length < 1000000
       rotate_left
       ·rw [if_neg p2] at hq;cases hq
       rw [if_pos p2] at hq
       have HP2:=am p2
       clear p2
       have HQ3:=am (show short2 k l0_0 l0_1 l0_2 l1 xs ((dn ++ [x]).length : Int) (acc ++ [wrap64 (-v)]) = some b by rw [show (((dn ++ [x]).length : Nat) : Int) = (dn.length : Int) + 1 by simp];exact hq)
       clear hq
       go_wp2_with (first | ((refine ga_dst (N:=11) rfl ?_);refine box_event rfl (N:=11) rfl (cs:=#[.int .i64 0,.int .i64 0,.int .i64 0,.bool false]) (t:=65) ?hr ?_;(case hr=>go_simp;try rfl);intro gx hg w3 hbox hb;have BX:=am hbox;have n1:=(kmv hb BK);have n2:=(bmv HB hb);have n3:=am (R_keepsEx (X:=fun _=>False) HO.out (KeepsEx.of_below hb) (fun _ h=>h.elim));have n4:=am (Nat.le_trans HS.out hb.size);have n6:=am (show w1.heap.size≤gx by rw [hg];exact HS.out);clear BK HB HO HS hb hg hbox;have BK:=n1;have HB:=n2;have HO:=n3;have HS:=n4;have HGX:=n6;clear n1 n2 n3 n4 n6;have y0_:=(blk_cell BX.out 0).trans rfl;have z0_:=blk_frozen BX.out 0;have y1_:=(blk_cell BX.out 1).trans rfl;have z1_:=blk_frozen BX.out 1;have y2_:=(blk_cell BX.out 2).trans rfl;have z2_:=blk_frozen BX.out 2;have y3_:=(blk_cell BX.out 3).trans rfl;have z3_:=blk_frozen BX.out 3) | ((with_reducible refine ga_store (t:=65) (p:=11) rfl ?_);obtain ⟨p4,g4⟩:=put4 (v0:=.int .i64 x.f0) (v1:=.int .i64 x.f1) (v2:=.int .i64 x.f2) (v3:=.bool x.f3) BX.out;have m1:=blk_grown1 BK.out g4 (fun r e=>by cases e;exact fun e2=>obj_ne BK.out BX.out (by decide) e2.symm);have m2:=HB.out.grown g4 HB.out.size (fun r e=>by cases e;have:=HGX.out;have:=HGL.out;have:=HG.out;omega);have m3:=R_keepI HO.out (fun k cells hc=>blk_grown1 hc g4 (fun r e=>by cases e;exact fun e2=>obj_ne hc BX.out (by decide) e2.symm));have m4:=Nat.le_trans HS.out g4.size;refine skip_abs (fun W'=>W'.heap[gx]? = some (.cells #[.int .i64 x.f0,.int .i64 x.f1,.int .i64 x.f2,.bool x.f3] 65 (0,0))∧W'.heap[gs]? = some (.cells #[.slice A0_0 l0_0.length c0_0,.slice (some adp) l0_1.length c0_1,.slice A0_2 l0_2.length c0_2] 80 (0,0))∧Below w.heap.size w W'∧(Kd.int .i64).R 3 W' w1.heap.size (fun _=>True) (.slice A7 acc.length c7) acc∧w1.heap.size≤W'.heap.size) (W1:=((((w3.setCell ⟨gx,0,none⟩ (.int .i64 x.f0)).setCell ⟨gx,1,none⟩ (.int .i64 x.f1)).setCell ⟨gx,2,none⟩ (.int .i64 x.f2)).setCell ⟨gx,3,none⟩ (.bool x.f3))) (by rfl) (by rfl) ?hrun ⟨p4,m1,m2,m3,m4⟩ ?_;(case hrun=>first | (go_simp;done) | (go_simp;rfl));clear p4 g4 m1 m2 m3 m4 y0_ z0_ y1_ z1_ y2_ z2_ y3_ z3_ BK HB HO HS BX hx0 hx1 hx2_ hx3;rintro w4 ⟨p4,m1,m2,m3,m4⟩;have BX:=am p4;have BK:=am m1;have HB:=am m2;have HO:=am m3;have HS:=am m4;clear p4 m1 m2 m3 m4;(try clear x0_ x1_ s0_ s1_ s2_);obtain ⟨x0_,x1_⟩:=cO2 BX.out;obtain ⟨s0_,s1_,s2_⟩:=cO3 BK.out) | (go_at_call 81;(refine (sl_Contains_int_int.calls k A1 c1 l1 x.f1 true _ (kC HRp.out HB.out) HCp.out HT.out).mono ?_);rintro e w5 ⟨rfl,hd⟩;have hb:=hd.below;clear hd HT;have n1:=(kmv hb BK);have n2:=(bmv HB hb);have n3:=am (R_keepsEx (X:=fun _=>False) HO.out (KeepsEx.of_below hb) (fun _ h=>h.elim));have n4:=am (Nat.le_trans HS.out hb.size);have n5:=(kmv hb BX);clear BK HB HO HS BX;have BK:=n1;have HB:=n2;have HO:=n3;have HS:=n4;have BX:=n5;clear n1 n2 n3 n4 n5;(try clear x0_ x1_ s0_ s1_ s2_);obtain ⟨x0_,x1_⟩:=cO2 BX.out;obtain ⟨s0_,s1_,s2_⟩:=cO3 BK.out;clear hb) | (go_at_call 81;(refine (sl_Contains_int_int.calls k A1 c1 l1 x.f0 false _ (kC HRp.out HB.out) HCp.out HU.out).mono ?_);rintro e w6 ⟨rfl,hd⟩;have hb:=hd.below;clear hd HU;have n1:=(kmv hb BK);have n2:=(bmv HB hb);have n3:=am (R_keepsEx (X:=fun _=>False) HO.out (KeepsEx.of_below hb) (fun _ h=>h.elim));have n4:=am (Nat.le_trans HS.out hb.size);have n5:=(kmv hb BX);clear BK HB HO HS BX;have BK:=n1;have HB:=n2;have HO:=n3;have HS:=n4;have BX:=n5;clear n1 n2 n3 n4 n5;(try clear x0_ x1_ s0_ s1_ s2_);obtain ⟨x0_,x1_⟩:=cO2 BX.out;obtain ⟨s0_,s1_,s2_⟩:=cO3 BK.out;clear hb) | (go_at_call 60;(refine (gs_carries.calls k A0_0 c0_0 l0_0 (some adp) c0_1 l0_1 A0_2 c0_2 l0_2 (dn.length : Int) v _ (kC HR0.out HB.out) HC0.out (kC HR1.out HB.out) HC1.out (kC HR2.out HB.out) HC2.out HV.out).mono ?_);rintro e w7 ⟨rfl,hb⟩;have n1:=(kmv hb BK);have n2:=(bmv HB hb);have n3:=am (R_keepsEx (X:=fun _=>False) HO.out (KeepsEx.of_below hb) (fun _ h=>h.elim));have n4:=am (Nat.le_trans HS.out hb.size);have n5:=(kmv hb BX);clear BK HB HO HS BX;have BK:=n1;have HB:=n2;have HO:=n3;have HS:=n4;have BX:=n5;clear n1 n2 n3 n4 n5;(try clear x0_ x1_ s0_ s1_ s2_);obtain ⟨x0_,x1_⟩:=cO2 BX.out;obtain ⟨s0_,s1_,s2_⟩:=cO3 BK.out;clear hb) | ((with_reducible refine ga_builtin (b:=.append) (xs:=#[.tmp 62,.tmp 67]) rfl ?_);at_builtin;refine Kd.R_append (Kd.int .i64) (w0:=w7) w1.heap.size rfl (.tmp 62) (.tmp 67) 26 3 (.int .i64 0) 8 rfl Tryz.underlying26 infoC_int rfl (by decide) (by omega) (.slice A7 acc.length c7) acc (wrap64 (-v)) [.int .i64 (wrap64 (-v))] (fun _=>True) (fun _=>False) rfl (by first | (go_simp;done) | (go_simp;rfl)) rfl (fun _ hk=>hk.elim) (fun _ _=>trivial) HO.out (Below.refl _ _) HS.out (by have:=HP2.out;omega) ?_;intro v8 w8 ho hb8 hg8 hat8;have hrow:=R_own_ge HO.out;have n1:=am (blk_grown1 BK.out hg8 (fun r e=>by have:=hrow r e;have:=HGL.out;omega));have n2:=am (HB.out.trans (hb8.mono (by have:=HG.out;have:=HGL.out;omega)));have n3:=am ho;have n4:=am (Nat.le_trans HS.out hg8.size);clear BK HB HO HS ho hb8 hg8 hat8 hrow BX x0_ x1_ s0_ s1_ s2_;have BK:=n1;have HB:=n2;have HO:=n3;have HS:=n4;clear n1 n2 n3 n4))
       go_roundw
       case rel=>exact ⟨dn ++ [x],xs,acc ++ [wrap64 (-v)],by rw [HXE.out];simp,by simp,HO,HQ3,HB,BK,HS⟩
       case measure=>have:=HLEN.out;simp [intOf] at this ⊢;omega
  | cons p ps =>
   have q0 : (0 : Int)≤(dn.length : Int):=by omega
   have q1 : (dn.length : Int) < (l1.length : Int):=by rw [hlen];simp;omega
   have hq1 : decide ((dn.length : Int) < (l1.length : Int)) = true:=decide_eq_true q1
   obtain ⟨adp,eAp,hxp⟩:=Kd.at_int HRp.out (dn.length : Int) q0 q1
   have hrd : rd l1 (dn.length : Int) = p:=by show l1.getD _ _ = p;rw [hx2];simp
   rw [hrd] at hxp
   subst eAp
   rw [Int.toNat_natCast] at hxp
   replace hxp:=(HB.out.cell (wbl hxp)).trans hxp
   have HLEN:=am hlen
   clear hlen
   have hq:=HQ.out
   rw [short1] at hq
   by_cases p0 : 0≤p
   rotate_left
   ·rw [if_neg p0] at hq;cases hq
   rw [if_pos p0] at hq
   by_cases p1 : p < (l0_0.length : Int)
   rotate_left
   ·rw [if_neg p1] at hq;cases hq
   rw [if_pos p1] at hq
   by_cases p2 : acc.length < 1000000
   rotate_left
   ·rw [if_neg p2] at hq;cases hq
   rw [if_pos p2] at hq
   obtain ⟨ad,eA,hx0,hx1,hx2_⟩:=at_T37 HR0.out p p0 p1
   subst eA
   have HX0:=am hx0
   have HX1:=am hx1
   have HX2:=am hx2_
   have HQ2:=am hq
   have HP2:=am p2
   clear HQ hq p2 hx0 hx1 hx2_
   generalize hlo : (rd_T37 l0_0 p).f0.f0 = lo at HX0 HQ2
   generalize hhi : (rd_T37 l0_0 p).f0.f1 = hh at HX1 HQ2
   generalize hnd : (rd_T37 l0_0 p).f1 = nd at HX2 HQ2
   clear hlo hhi hnd
   replace p0:=eq_true p0
   replace p1:=eq_true p1
   go_wp2
   obtain ⟨A7,c7,rfl,hl7,hC7⟩:=Kd.R_reads HO.out
   clear hl7 hC7 hxp
   have hb : Below wr.heap.size wr wr.drew:=below_drew (Below.refl _ _)
   have SS : (fun w'=>w'.cell? ⟨gs,0,none⟩ = some (.slice (some ad) l0_0.length c0_0)∧w'.cell? (ad.add (p.toNat * 3)) = some (.int .i64 lo)∧w'.cell? ⟨(ad.add (p.toNat * 3)).block,(ad.add (p.toNat * 3)).off + 1,none⟩ = some (.int .i64 hh)∧w'.cell? ⟨(ad.add (p.toNat * 3)).block,(ad.add (p.toNat * 3)).off + 2,none⟩ = some (.int .i64 nd)) wr.drew:=⟨(blk_cell (blk_drew BK.out) 0).trans rfl,((below_then HB.out HB.out.size hb).cell (wbl HX0.out)).trans HX0.out,((below_then HB.out HB.out.size hb).cell (wbl HX1.out)).trans HX1.out,((below_then HB.out HB.out.size hb).cell (wbl HX2.out)).trans HX2.out⟩
   refine start_ (n:=24) (S:=fun w'=>w'.cell? ⟨gs,0,none⟩ = some (.slice (some ad) l0_0.length c0_0)∧w'.cell? (ad.add (p.toNat * 3)) = some (.int .i64 lo)∧w'.cell? ⟨(ad.add (p.toNat * 3)).block,(ad.add (p.toNat * 3)).off + 1,none⟩ = some (.int .i64 hh)∧w'.cell? ⟨(ad.add (p.toNat * 3)).block,(ad.add (p.toNat * 3)).off + 2,none⟩ = some (.int .i64 nd)) (ds:=[]) (ba 24 0) (by kernel_rfl) rfl rfl SS (fun hHeld=>?_)
   clear SS
   have n1:=(kmv hb BK)
   have n2:=(bmv HB hb)
   have n3:=am (R_keepsEx (X:=fun _=>False) HO.out (KeepsEx.of_below hb) (fun _ h=>h.elim))
   have n4:=am (Nat.le_trans HS.out hb.size)
   clear BK HB HO HS hb
   have BK:=n1;have HB:=n2;have HO:=n3;have HS:=n4
   clear n1 n2 n3 n4
   refine pure_ (i:=0) (N:=some 18) (v:=?_) (a':=?_) (ba 24 1) rfl rfl (by kernel_rfl) (fun _ _ _ h=>h) (Or.inl ⟨by rfl,?_⟩) ?_ ?_
   rotate_left
   ·intro w'
    go_simp
    with_reducible rfl
   rotate_left
   ·simp only [Act.put,NRM]
    rfl
   refine pure_ (i:=1) (N:=some 19) (v:=?_) (a':=?_) (ba 24 3) rfl rfl (by kernel_rfl) (fun _ _ _ h=>h) (Or.inl ⟨by rfl,?_⟩) ?_ ?_
   rotate_left
   ·intro w'
    go_simp
    with_reducible rfl
   rotate_left
   ·simp only [Act.put,NRM]
    rfl
   refine pure_ (i:=2) (N:=some 20) (v:=?_) (a':=?_) (ba 24 7) rfl rfl (by kernel_rfl) (fun _ _ _ h=>h) (Or.inl ⟨by rfl,?_⟩) ?_ ?_
   rotate_left
   ·intro w'
    go_simp
    with_reducible rfl
   rotate_left
   ·simp only [Act.put,NRM]
    rfl
   refine take_ (i:=3) (N:=some 21) (v:=?_) (a':=?_) (ba 24 15) rfl rfl (by kernel_rfl) (fun _ _ _ h=>h) (Or.inl ⟨by rfl,?_⟩) hHeld ?_ ?_
   rotate_left
   ·rintro w' ⟨s0,s1,s2,s3⟩
    go_simp
    with_reducible rfl
   rotate_left
   ·simp only [Act.put,NRM]
    rfl
   refine pure_ (i:=4) (N:=some 22) (v:=?_) (a':=?_) (ba 24 31) rfl rfl (by kernel_rfl) (fun _ _ _ h=>h) (Or.inl ⟨by rfl,?_⟩) ?_ ?_
   rotate_left
   ·intro w'
    go_simp
    with_reducible rfl
   rotate_left
   ·simp only [Act.put,NRM]
    rfl
   refine pure_ (i:=5) (N:=some 23) (v:=?_) (a':=?_) (ba 24 63) rfl rfl (by kernel_rfl) (fun _ _ _ h=>h) (Or.inl ⟨by rfl,?_⟩) ?_ ?_
   rotate_left
   ·intro w'
    go_simp
    with_reducible rfl
   rotate_left
   ·simp only [Act.put,NRM]
    rfl
   refine pure_ (i:=6) (N:=some 24) (v:=?_) (a':=?_) (ba 24 127) rfl rfl (by kernel_rfl) (fun _ _ _ h=>h) (Or.inl ⟨by rfl,?_⟩) ?_ ?_
   rotate_left
   ·intro w'
    go_simp
    with_reducible rfl
   rotate_left
   ·simp only [Act.put,NRM]
    rfl
   refine take_ (i:=7) (N:=some 25) (v:=?_) (a':=?_) (ba 24 255) rfl rfl (by kernel_rfl) (fun _ _ _ h=>h) (Or.inl ⟨by rfl,?_⟩) hHeld ?_ ?_
   rotate_left
   ·rintro w' ⟨s0,s1,s2,s3⟩
    go_simp
    with_reducible rfl
   rotate_left
   ·simp only [Act.put,NRM]
    rfl
   refine pure_ (i:=9) (N:=some 27) (v:=?_) (a':=?_) (ba 24 767) rfl rfl (by kernel_rfl) (fun _ _ _ h=>h) (Or.inl ⟨by rfl,?_⟩) ?_ ?_
   rotate_left
   ·intro w'
    go_simp
    with_reducible rfl
   rotate_left
   ·simp only [Act.put,NRM]
    rfl
   refine pure_ (i:=11) (N:=some 29) (v:=?_) (a':=?_) (ba 24 2815) rfl rfl (by kernel_rfl) (fun _ _ _ h=>h) (Or.inl ⟨by rfl,?_⟩) ?_ ?_
   rotate_left
   ·intro w'
    go_simp
    with_reducible rfl
   rotate_left
   ·simp only [Act.put,NRM]
    rfl
   refine pure_ (i:=12) (N:=some 30) (v:=?_) (a':=?_) (ba 24 6911) rfl rfl (by kernel_rfl) (fun _ _ _ h=>h) (Or.inl ⟨by rfl,?_⟩) ?_ ?_
   rotate_left
   ·intro w'
    go_simp
    with_reducible rfl
   rotate_left
   ·simp only [Act.put,NRM]
    rfl
   refine take_ (i:=13) (N:=some 31) (v:=?_) (a':=?_) (ba 24 15103) rfl rfl (by kernel_rfl) (fun _ _ _ h=>h) (Or.inl ⟨by rfl,?_⟩) hHeld ?_ ?_
   rotate_left
   ·rintro w' ⟨s0,s1,s2,s3⟩
    go_simp
    with_reducible rfl
   rotate_left
   ·simp only [Act.put,NRM]
    rfl
   refine pure_ (i:=14) (N:=some 32) (v:=?_) (a':=?_) (ba 24 31487) rfl rfl (by kernel_rfl) (fun _ _ _ h=>h) (Or.inl ⟨by rfl,?_⟩) ?_ ?_
   rotate_left
   ·intro w'
    go_simp
    with_reducible rfl
   rotate_left
   ·simp only [Act.put,NRM]
    rfl
   refine pure_ (i:=15) (N:=some 33) (v:=?_) (a':=?_) (ba 24 64255) rfl rfl (by kernel_rfl) (fun _ _ _ h=>h) (Or.inl ⟨by rfl,?_⟩) ?_ ?_
   rotate_left
   ·intro w'
    go_simp
    with_reducible rfl
   rotate_left
   ·simp only [Act.put,NRM]
    rfl
   refine pure_ (i:=16) (N:=some 34) (v:=?_) (a':=?_) (ba 24 129791) rfl rfl (by kernel_rfl) (fun _ _ _ h=>h) (Or.inl ⟨by rfl,?_⟩) ?_ ?_
   rotate_left
   ·intro w'
    go_simp
    with_reducible rfl
   rotate_left
   ·simp only [Act.put,NRM]
    rfl
   refine take_ (i:=17) (N:=some 35) (v:=?_) (a':=?_) (ba 24 260863) rfl rfl (by kernel_rfl) (fun _ _ _ h=>h) (Or.inl ⟨by rfl,?_⟩) hHeld ?_ ?_
   rotate_left
   ·rintro w' ⟨s0,s1,s2,s3⟩
    go_simp
    with_reducible rfl
   rotate_left
   ·simp only [Act.put,NRM]
    rfl
   refine pure_ (i:=18) (N:=some 36) (v:=?_) (a':=?_) (ba 24 523007) rfl rfl (by kernel_rfl) (fun _ _ _ h=>h) (Or.inl ⟨by rfl,?_⟩) ?_ ?_
   rotate_left
   ·intro w'
    go_simp
    with_reducible rfl
   rotate_left
   ·simp only [Act.put,NRM]
    rfl
   refine one_ (i:=8) (N:=some 26) (ba 24 523263) rfl rfl (by kernel_rfl) (by decide) (fun K hK=>?_)
   refine goes_ Tryz.func124 (by kernel_rfl) rfl #[] (by rfl) rfl rfl (by (try simp only [List.map_toArray,List.map_cons,List.map_nil]);first | done | rfl) ?_
   refine (ga_end.calls _).mono ?_
   rintro e w3 ⟨rfl,hb⟩
   have n1:=(kmv hb BK)
   have n2:=(bmv HB hb)
   have n3:=am (R_keepsEx (X:=fun _=>False) HO.out (KeepsEx.of_below hb) (fun _ h=>h.elim))
   have n4:=am (Nat.le_trans HS.out hb.size)
   clear BK HB HO HS hb
   have BK:=n1;have HB:=n2;have HO:=n3;have HS:=n4
   clear n1 n2 n3 n4
   refine ⟨_,rfl,?_⟩
   refine hK.out _ _ ⟨(blk_cell BK.out 0).trans rfl,(HB.out.cell (wbl HX0.out)).trans HX0.out,(HB.out.cell (wbl HX1.out)).trans HX1.out,(HB.out.cell (wbl HX2.out)).trans HX2.out⟩ (fun hHeld=>?_)
   clear hK K
   refine norm_ (a':=?_) ?_ ?_
   rotate_left
   ·show Act.put _ (some 26) _ = _
    simp only [Act.put,NRM]
    rfl
   refine pure_ (i:=10) (N:=some 28) (v:=?_) (a':=?_) (ba 24 524287) rfl rfl (by kernel_rfl) (fun _ _ _ h=>h) (Or.inl ⟨by rfl,?_⟩) ?_ ?_
   rotate_left
   ·intro w'
    go_simp
    with_reducible rfl
   rotate_left
   ·simp only [Act.put,NRM]
    rfl
   refine one_ (i:=19) (N:=some 37) (ba 24 1048575) rfl rfl (by kernel_rfl) (by decide) (fun K hK=>?_)
   have hcall : Calls Tryz.prog (if hi = true then 130 else 129) #[.agg #[.int .i64 lo,.int .i64 hh]] w3 fun e w'=>e = .returned (.int .i64 (if hi = true then hh else lo))∧Below w3.heap.size w3 w':=by
    cases hi with
    | true=>exact gp_greatest.calls lo hh _ _ rfl
    | false=>exact gp_least.calls lo hh _ _ rfl
   obtain ⟨fn_,hfn,hnm,hbd⟩ : ∃ fn_,Tryz.prog.funcs[(if hi = true then 130 else 129 : Nat)]? = some fn_ ∧ (fn_.name == "runtime.NumGoroutine") = false ∧ fn_.body.isSome = true := by cases hi <;> exact ⟨_,by first | exact Tryz.func130 | exact Tryz.func129,by kernel_rfl,rfl⟩
   refine goesV_ (f:=(if hi = true then 130 else 129)) hfn hnm hbd #[.agg #[.int .i64 lo,.int .i64 hh]] (by rfl) rfl rfl (by rfl) (by (try simp only [List.map_toArray,List.map_cons,List.map_nil]);first | done | rfl) ?_
   refine hcall.mono ?_
   rintro e w4 ⟨rfl,hb⟩
   clear hcall hfn hnm hbd
   have n1:=(kmv hb BK)
   have n2:=(bmv HB hb)
   have n3:=am (R_keepsEx (X:=fun _=>False) HO.out (KeepsEx.of_below hb) (fun _ h=>h.elim))
   have n4:=am (Nat.le_trans HS.out hb.size)
   clear BK HB HO HS hb
   have BK:=n1;have HB:=n2;have HO:=n3;have HS:=n4
   clear n1 n2 n3 n4
   refine ⟨_,rfl,?_⟩
   refine hK.out _ _ ⟨(blk_cell BK.out 0).trans rfl,(HB.out.cell (wbl HX0.out)).trans HX0.out,(HB.out.cell (wbl HX1.out)).trans HX1.out,(HB.out.cell (wbl HX2.out)).trans HX2.out⟩ (fun hHeld=>?_)
   clear hK K
   refine norm_ (a':=?_) ?_ ?_
   rotate_left
   ·show Act.put _ (some 37) _ = _
    simp only [Act.put,NRM]
    rfl
   refine pure_ (i:=20) (N:=some 38) (v:=?_) (a':=?_) (ba 24 2097151) rfl rfl (by kernel_rfl) (fun _ _ _ h=>h) (Or.inl ⟨by rfl,?_⟩) ?_ ?_
   rotate_left
   ·intro w'
    go_simp
    with_reducible rfl
   rotate_left
   ·simp only [Act.put,NRM]
    rfl
   refine one_ (i:=21) (N:=some 39) (ba 24 4194303) rfl rfl (by kernel_rfl) (by decide) (fun K hK=>?_)
   refine Kd.R_lit_step (Kd.int .i64) (w0:=w4) w4.heap.size 3 (by rfl) (N:=39) rfl (xs:=[nd,wrap64 (-(if hi = true then hh else lo))]) (inner:=[.int .i64 nd,.int .i64 (wrap64 (-(if hi = true then hh else lo)))]) (ok:=fun _=>True) (okp:=fun _=>True) ?hrun ?hrep (fun _ h=>h) trivial (Below.refl _ _) (Nat.le_refl _) (by simp) ?_
   case hrun=>first | (go_simp;done) | (go_simp;rfl)
   case hrep=>exact reps_int2 _ _
   intro v5 w5 hr5 hb hg5 ho5
   obtain ⟨A5,c5,rfl,hl5,hC5⟩:=R_reads_len hr5
   have HC5:=am hC5
   clear hr5 hg5 ho5 hl5 hC5
   have n1:=(kmv hb BK)
   have n2:=(bmv HB hb)
   have n3:=am (R_keepsEx (X:=fun _=>False) HO.out (KeepsEx.of_below hb) (fun _ h=>h.elim))
   have n4:=am (Nat.le_trans HS.out hb.size)
   clear BK HB HO HS hb
   have BK:=n1;have HB:=n2;have HO:=n3;have HS:=n4
   clear n1 n2 n3 n4
   refine hK.out _ _ ⟨(blk_cell BK.out 0).trans rfl,(HB.out.cell (wbl HX0.out)).trans HX0.out,(HB.out.cell (wbl HX1.out)).trans HX1.out,(HB.out.cell (wbl HX2.out)).trans HX2.out⟩ (fun hHeld=>?_)
   clear hK K
   refine norm_ (a':=?_) ?_ ?_
   rotate_left
   ·show Act.put _ (some 39) _ = _
    simp only [Act.put,NRM]
    rfl
   refine one_ (i:=22) (N:=some 40) (ba 24 8388607) rfl rfl (by kernel_rfl) (by decide) (fun K hK=>?_)
   refine Kd.R_append_rows_step (Kd.int .i64) (Rr:=((Kd.int .i64)).K w5) (w0:=w5) w1.heap.size (by rfl) (.tmp 18) (.tmp 39) 26 3 (.int .i64 0) 8 rfl Tryz.underlying26 infoC_int rfl (by decide) (by omega) (.slice A7 acc.length c7) acc [nd,wrap64 (-(if hi = true then hh else lo))] A5 2 c5 (fun _=>True) (fun _=>False) rfl rfl HO.out HC5.out (fun _ _ hk=>hk) (fun _ h=>h.elim) (fun _ _=>trivial) (Below.refl _ _) HS.out (by have:=HP2.out;omega) ?_
   intro v6 w6 ho6 hb6 hg6 hat6
   have hrow:=R_own_ge HO.out
   have n1:=am (blk_grown1 BK.out hg6 (fun r e=>by have:=hrow r e;have:=HGL.out;omega))
   have n2:=am (HB.out.trans (hb6.mono (by have:=HG.out;have:=HGL.out;omega)))
   have n3:=am ho6
   have n4:=am (Nat.le_trans HS.out hg6.size)
   clear BK HB HO HS ho6 hb6 hg6 hat6 hrow
   have BK:=n1;have HB:=n2;have HO:=n3;have HS:=n4
   clear n1 n2 n3 n4
   obtain ⟨A6,c6,rfl,hl6,hC6⟩:=Kd.R_reads HO.out
   clear hl6 hC6
   refine hK.out _ _ ⟨(blk_cell BK.out 0).trans rfl,(HB.out.cell (wbl HX0.out)).trans HX0.out,(HB.out.cell (wbl HX1.out)).trans HX1.out,(HB.out.cell (wbl HX2.out)).trans HX2.out⟩ (fun hHeld=>?_)
   clear hK K
   refine norm_ (a':=?_) ?_ ?_
   rotate_left
   ·show Act.put _ (some 40) _ = _
    simp only [Act.put,NRM]
    rfl
   refine pure_ (i:=23) (N:=some 7) (v:=?_) (a':=?_) (ba 24 16777215) rfl rfl (by kernel_rfl) (fun _ _ _ h=>h) (Or.inl ⟨by rfl,?_⟩) ?_ ?_
   rotate_left
   ·intro w'
    go_simp
    with_reducible rfl
   rotate_left
   ·simp only [Act.put,NRM]
    rfl
   refine done_ (by kernel_rfl) ?_
   clear hHeld HX0 HX1 HX2 HC5
   have hw1 : IntKind.i64.wrap ((dn.length : Int) + 1) = (dn.length : Int) + 1:=(i64_w _).trans (by unfold wrap64;have:=HLEN.out;simp at this;omega)
   go_wp2
   go_roundw
   case rel=>exact ⟨dn ++ [p],ps,acc ++ [nd,wrap64 (-(if hi = true then hh else lo))],by rw [hx2];simp,by simp,⟨by simpa using HO.out⟩,HQ2,HB,BK,HS⟩
   case measure=>have:=HLEN.out;simp [intOf] at this ⊢;omega
end Go.Proofs.YtclkbedbocnpkaaGreatDoor.C
namespace Go.Proofs.YtclkbedbocnpkaaGreatDoor.C
open Go Go.RowKit Go.Shelf Go.Proofs.YtclkbedbocnpkaaGreatDoorW.PrintWords Go.Proofs.YtclkbedbocnpkaaGreatDoorW.PrintLast Go.Proofs.YtclkbedbocnpkaaGreatDoorW.PrintMore
set_option linter.unusedVariables false
set_option linter.unusedSimpArgs false
set_option maxHeartbeats 16000000
set_option maxRecDepth 100000
section
attribute [local go_sem] Oper.semAt_some
theorem C_putO {W : World} {l : Nat} {o o' : Obj} (hl : W.heap[l]? = some o) (ho : o.isCells = false) {A : Option Addr} {n : Nat} {xs : List Int} (h : (Kd.int .i64).C W A n xs) : (Kd.int .i64).C (W.putObj l o') A n xs:=by
 refine ⟨h.1,h.2.1,fun hn=>?_⟩
 obtain ⟨ad,e,hc⟩:=h.2.2 hn
 exact ⟨ad,e,fun j p hj=>by obtain ⟨c,hlc,hK,hcc⟩:=hc j p hj;exact ⟨c,hlc,hK,fun i u hu=>cell_putO hl ho (hcc i u hu)⟩⟩
theorem first_calls (gf : Nat) (lb : Array Value) (eg : ∀ args w,(callFunc gf args).run Tryz.prog w = .ok (.enter gf args) w) (gg : Nat) (lg : Array Value) (egg : ∀ args w,(callFunc gg args).run Tryz.prog w = .ok (.enter gg args) w) (Cap : Nat→Prop) (L : List (List Int)) (P : List Int→Prop) (q : List Int→Option Bool) (r : Option (List Int)) (w : World)
 (hseq : SeqStopsE Fence.wide 8 Tryz.prog gf lb hEnc (hOk w.heap.size P) Cap (fun ys=>ys.map (·.1) = L) (fun ys=>ys.map (·.1) <+: L) w)
 (hq : ∀ (x : HX) (W : World),Below w.heap.size w W→hOk w.heap.size P x W→∃ b,q x.1 = some b∧Calls Tryz.prog gg (#[.slice x.2.1 x.1.length x.2.2] ++ lg) W fun e W'=>e = .returned (.bool b)∧Below W.heap.size W W')
 (h : firstM q L = some r) :
 Calls Tryz.prog 74 #[.func (.func gf) #[] lb,.func (.func gg) #[] lg] w fun e w'=>((r = none∧e = .returned (.tuple #[.slice none 0 0,.bool false]))∨(∃ l A c,r = some l∧e = .returned (.tuple #[.slice A l.length c,.bool true])∧l.length≤c∧Kd.C (Kd.int .i64) w' A l.length l∧Kd.R (Kd.int .i64) 3 w' w.heap.size (fun _=>True) (.slice A l.length c) l))∧Below w.heap.size w w':=by
 refine (callsIn_wide (n:=9)).1 ?_
 have HH:=Aside0.mk h
 have HB0:=(((Below.refl w.heap.size w).alloc (Nat.le_refl _) (.cells #[.func (.func gg) #[] lg] 91)).alloc (by simp) (.cells #[.slice none 0 0] 26)).alloc (by simp;omega) (.cells #[.bool false] 4)
 obtain ⟨W0,hW0⟩ : ∃ W0,((w.alloc (.cells #[.func (.func gg) #[] lg] 91)).alloc (.cells #[.slice none 0 0] 26)).alloc (.cells #[.bool false] 4) = W0:=⟨_,rfl⟩
 have hsz : W0.heap.size = w.heap.size + 3:=by rw [← hW0];simp
 have g3 : W0.heap[w.heap.size]? = some (.cells #[.func (.func gg) #[] lg] 91 (0,0)):=by
  rw [← hW0];exact (Below.heap_alloc _ _ _ (by simp;omega)).trans ((Below.heap_alloc _ _ _ (by simp)).trans (World.alloc_heap_new w _))
 have g4 : W0.heap[w.heap.size + 1]? = some (.cells #[.slice none 0 0] 26 (0,0)):=by
  rw [← hW0];refine (Below.heap_alloc _ _ _ (by simp)).trans ?_
  have:=World.alloc_heap_new (w.alloc (.cells #[.func (.func gg) #[] lg] 91)) (.cells #[.slice none 0 0] 26);rwa [World.size_alloc] at this
 have g5 : W0.heap[w.heap.size + 1 + 1]? = some (.cells #[.bool false] 4 (0,0)):=by
  rw [← hW0]
  have:=World.alloc_heap_new ((w.alloc (.cells #[.func (.func gg) #[] lg] 91)).alloc (.cells #[.slice none 0 0] 26)) (.cells #[.bool false] 4);rwa [World.size_alloc,World.size_alloc] at this
 rw [hW0] at HB0
 have HQ:=Aside0.mk hq
 clear h hq
 refine callsIn_of_wp_marks Tryz.func74 rfl trivial ?_ rfl
 simp only [Tryz.ntmps74,List.size_toArray,List.length_cons,List.length_nil,Nat.reduceAdd,Nat.reduceSub,Array.replicate_succ,Array.replicate_zero,List.push_toArray,List.append_toArray,List.nil_append,List.cons_append]
 gi_wp2
 (try rw [hW0])
 clear hW0
 refine rangeE (α:=HX) (n:=9) rfl (by decide) (gf:=gf) (lb:=lb) rfl trivial eg (fun _=>False)
  hseq (fun _ h=>h.elim) (fun x W l o o' hx hl ho=>hOk_putO hx hl ho) HB0 (fun _=>rfl)
  (fun pre W=>(∀ y ∈ pre,q y.1 = some false)∧W.heap[w.heap.size]? = some (.cells #[.func (.func gg) #[] lg] 91 (0,0))∧W.heap[w.heap.size + 1]? = some (.cells #[.slice none 0 0] 26 (0,0))∧W.heap[w.heap.size + 1 + 1]? = some (.cells #[.bool false] 4 (0,0))∧Below w.heap.size w W)
  (fun c pre W=>c = .ret∧(∃ (p0 : List HX) (x : HX),pre = p0 ++ [x]∧(∀ y ∈ p0,q y.1 = some false)∧q x.1 = some true∧W.heap[w.heap.size + 1]? = some (.cells #[.slice x.2.1 x.1.length x.2.2] 26 (0,0))∧x.1.length≤x.2.2∧Kd.C (Kd.int .i64) W x.2.1 x.1.length x.1∧Kd.R (Kd.int .i64) 3 W w.heap.size (fun _=>True) (.slice x.2.1 x.1.length x.2.2) x.1)∧W.heap[w.heap.size + 1 + 1]? = some (.cells #[.bool true] 4 (0,0))∧Below w.heap.size w W)
  (fun s A B row hs hg hr=>⟨hs.1,blk_grownO hs.2.1 hg hr (by omega),blk_grownO hs.2.2.1 hg hr (by omega),blk_grownO hs.2.2.2.1 hg hr (by omega),hs.2.2.2.2.grown hg hs.2.2.2.2.size (fun k e=>by have:=hr k e;omega)⟩)
  (fun c pre W l o o' hl hs ho hc hw=>by
   obtain ⟨rfl,⟨p0,x,rfl,hp,hx,h4,hle,hC,hR⟩,h5,hB⟩:=hs
   exact ⟨rfl,⟨p0,x,rfl,hp,hx,blk_putO h4 rfl ho hc,hle,C_putO ho hc hC,R_keepI hR (fun k cells h=>blk_putO h rfl ho hc)⟩,blk_putO h5 rfl ho hc,hB.trans (belowK_b (w:=w) (Nat.le_refl _) W l _ _ (by omega) ho hc hw)⟩)
  ⟨(fun y hy=>by cases hy),g3,g4,g5,HB0⟩
  (fun x=>{ tmps:=#[.func (.func gf) #[] lb,.func (.func gg) #[] lg,undef,.pointer (some ⟨w.heap.size,0,none⟩),.pointer (some ⟨w.heap.size + 1,0,none⟩),.pointer (some ⟨w.heap.size + 1 + 1,0,none⟩),.slice x.2.1 x.1.length x.2.2,undef,.func (.func gf) #[] lb,.slice x.2.1 x.1.length x.2.2,undef,undef,undef,undef,undef],defers:=[] }) ?assign ?body ?done ?stop
 case assign =>
  intro l x W K hK
  simp only [hEnc]
  gi_wp2
  exact hK
 case body =>
  rintro l pre ⟨xl,xA,xc⟩ W ⟨hpre,b3,b4,b5,hB⟩ hok
  obtain ⟨bv,hbv,hcall⟩:=HQ.out (xl,xA,xc) W hB hok
  obtain ⟨hxl,hxle,hxC,hxR⟩:=hok
  dsimp only at hxl hxle hxC hxR hbv hcall ⊢
  have HV:=Aside0.mk hbv
  have HXL:=Aside0.mk hxl
  have HP:=Aside0.mk hpre
  have HC:=Aside0.mk hcall
  clear hbv hxl hpre hcall
  have hc3 : W.cell? ⟨w.heap.size,0,none⟩ = some (.func (.func gg) #[] lg):=(blk_cell b3 0).trans rfl
  have b3:=Aside0.mk b3
  have b4:=Aside0.mk b4
  have b5:=Aside0.mk b5
  have hB:=Aside0.mk hB
  have hxC:=Aside0.mk hxC
  have hxR:=Aside0.mk hxR
  cases bv with
  | false =>
   gi_wp2
   refine ⟨trivial,?_⟩
   refine (CallsIn.inRound l (callsIn_wide.2 HC.out)).mono ?_
   rintro e W2 ⟨rfl,hb⟩
   gi_wp2
   exact ⟨KeepsEx.of_below hb,fun y hy=>(List.mem_append.1 hy).elim (HP.out y) (fun e=>by rw [List.mem_singleton.1 e];exact HV.out),blk_below b3.out hb,blk_below b4.out hb,blk_below b5.out hb,below_then hB.out hB.out.size hb⟩
  | true =>
   gi_wp2
   refine ⟨trivial,?_⟩
   refine (CallsIn.inRound l (callsIn_wide.2 HC.out)).mono ?_
   rintro e W2 ⟨rfl,hb⟩
   have q4:=blk_below b4.out hb
   have q5:=blk_below b5.out hb
   have hc4 : W2.cell? ⟨w.heap.size + 1,0,none⟩ = some (.slice none 0 0):=(blk_cell q4 0).trans rfl
   have hf4:=blk_frozen q4 0
   have hc5 : W2.cell? ⟨w.heap.size + 1 + 1,0,none⟩ = some (.bool false):=(blk_cell q5 0).trans rfl
   have hf5:=blk_frozen q5 0
   have q4:=Aside0.mk q4
   have q5:=Aside0.mk q5
   gi_wp2
   have hC2:=kC hxC.out hb
   have hR2:=R_keepI hxR.out (fun k cells h=>blk_below h hb)
   have hR3:=R_keepI (W':=(W2.setCell ⟨w.heap.size + 1,0,none⟩ (.slice xA xl.length xc)).setCell ⟨w.heap.size + 1 + 1,0,none⟩ (.bool true)) hR2 (fun k cells h=>blkF_set (blkF_set h (obj_ne h q4.out (by decide))) (obj_ne h q5.out (by decide)))
   have e5:=blkF_set1 (v:=.bool true) (blkF_set (g:=w.heap.size + 1) (i:=0) (v:=.slice xA xl.length xc) q5.out (by omega))
   have e4:=blkF_set (g:=w.heap.size + 1 + 1) (i:=0) (v:=.bool true) (blkF_set1 (v:=.slice xA xl.length xc) q4.out) (by omega)
   have hB2:=below_then hB.out hB.out.size hb
   have hB3:=(hB2.setCell (p:=⟨w.heap.size + 1,0,none⟩) (by simp) (.slice xA xl.length xc)).setCell (p:=⟨w.heap.size + 1 + 1,0,none⟩) (by simp;omega) (.bool true)
   exact ⟨(((kept_below hb).trans (KeepsOthers.setCell _ _ _)).trans (KeepsOthers.setCell _ _ _)).from _,rfl,⟨pre,(xl,xA,xc),rfl,HP.out,HV.out,e4,hxle,C_int_set (blkF_set (g:=w.heap.size + 1) (i:=0) (v:=.slice xA xl.length xc) q5.out (by omega)) (fun p e=>by cases e) (C_int_set q4.out (fun p e=>by cases e) hC2),hR3⟩,e5,hB3⟩
 case done =>
  rintro D xs W hD hS ⟨hp,b3,b4,b5,hB⟩ hK
  have hc4 : W.cell? ⟨w.heap.size + 1,0,none⟩ = some (.slice none 0 0):=(blk_cell b4 0).trans rfl
  have hf4:=blk_frozen b4 0
  have hc5 : W.cell? ⟨w.heap.size + 1 + 1,0,none⟩ = some (.bool false):=(blk_cell b5 0).trans rfl
  have hf5:=blk_frozen b5 0
  have HN:=Aside0.mk (firstM_none HH.out (fun y hy=>by rw [← hS] at hy;obtain ⟨z,hz,rfl⟩:=List.mem_map.1 hy;exact hp z hz))
  have b4:=Aside0.mk b4
  have b5:=Aside0.mk b5
  have hB:=Aside0.mk hB
  have hK:=Aside0.mk hK
  clear hp hS b3
  gi_wp2
  have e5:=blkF_set1 (v:=.bool false) (blkF_set (g:=w.heap.size + 1) (i:=0) (v:=.slice none 0 0) b5.out (by omega))
  have e4:=blkF_set (g:=w.heap.size + 1 + 1) (i:=0) (v:=.bool false) (blkF_set1 (v:=.slice none 0 0) b4.out) (by omega)
  have hK':=((KeepsOthers.setCell W ⟨w.heap.size + 1,0,none⟩ (.slice none 0 0)).trans (KeepsOthers.setCell _ ⟨w.heap.size + 1 + 1,0,none⟩ (.bool false))).same D _ hK.out rfl
  refine ⟨by simp,.inl ⟨_,_,rfl,run_takeDeferred hK',?_⟩⟩
  have p4:=(blk_cell (blk_putO (o':=.deferred none) e4 rfl hK' rfl) 0).trans rfl
  have p5:=(blk_cell (blk_putO (o':=.deferred none) e5 rfl hK' rfl) 0).trans rfl
  refine ⟨.tuple #[.slice none 0 0,.bool false],?_,.inl ⟨HN.out,rfl⟩,((hB.out.setCell (p:=⟨w.heap.size + 1,0,none⟩) (by simp) (.slice none 0 0)).setCell (p:=⟨w.heap.size + 1 + 1,0,none⟩) (by simp;omega) (.bool false)).trans (belowK_b (w:=w) (Nat.le_refl _) _ D _ _ (by omega) hK' rfl rfl)⟩
  simp [results,Tryz.f74,go_sem,p4,p5]
 case stop =>
  rintro D c pre W hD hSp ⟨rfl,⟨p0,x,rfl,hp,hx,b4,hle,hC,hR⟩,b5,hB⟩ hK
  have HN:=Aside0.mk (firstM_some HH.out (pre:=p0.map (·.1)) (x:=x.1) (fun y hy=>by obtain ⟨z,hz,rfl⟩:=List.mem_map.1 hy;exact hp z hz) hx (by simpa using hSp))
  have b4:=Aside0.mk b4
  have b5:=Aside0.mk b5
  have hB:=Aside0.mk hB
  have hK:=Aside0.mk hK
  have hC:=Aside0.mk hC
  have hR:=Aside0.mk hR
  clear hp hSp hx
  gi_wp2
  refine ⟨by simp,.inl ⟨_,_,rfl,run_takeDeferred hK.out,?_⟩⟩
  have p4:=(blk_cell (blk_putO (o':=.deferred none) b4.out rfl hK.out rfl) 0).trans rfl
  have p5:=(blk_cell (blk_putO (o':=.deferred none) b5.out rfl hK.out rfl) 0).trans rfl
  refine ⟨.tuple #[.slice x.2.1 x.1.length x.2.2,.bool true],?_,.inr ⟨x.1,x.2.1,x.2.2,HN.out,rfl,hle,C_putO hK.out rfl hC.out,R_keepI hR.out (fun k cells h=>blk_putO h rfl hK.out rfl)⟩,hB.out.trans (belowK_b (w:=w) (Nat.le_refl _) W D _ _ (by omega) hK.out rfl rfl)⟩
  simp [results,Tryz.f74,go_sem,p4,p5]
end
end Go.Proofs.YtclkbedbocnpkaaGreatDoor.C
namespace Go.Proofs.YtclkbedbocnpkaaGreatDoor.C
open Go.RowKit Go.Proofs.YtclkbedbocnpkaaGreatDoorW.PrintWords Go.Proofs.YtclkbedbocnpkaaGreatDoorW.PrintLast Go.Proofs.YtclkbedbocnpkaaGreatDoorW.PrintMore
set_option linter.unusedVariables false
set_option linter.unusedSimpArgs false
set_option maxHeartbeats 16000000
set_option maxRecDepth 100000
theorem parts_stops (gm gl : Nat) (A : Option Addr) (c : Nat) (xs : List Int) (m : Nat) (P : List Int→Prop) (w : World) (bm : w.heap[gm]? = some (.cells #[.int .i64 (m : Int)] 3 (0,0))) (bl : w.heap[gl]? = some (.cells #[.slice A xs.length c] 26 (0,0))) (hC : (Kd.int .i64).C w A xs.length xs) (hxl : xs.length < 1000000) (hP : ∀ y ∈ partsOf xs [] m,P y) (n : Nat) :
 SeqStopsE Fence.wide n Tryz.prog 114 #[.pointer (some ⟨gm,0,none⟩),.pointer (some ⟨gl,0,none⟩)] hEnc (hOk w.heap.size P) (fun k=>k = gm∨k = gl∨∃ ad,A = some ad∧k = ad.block) (fun ys=>ys.map (·.1) = partsOf xs [] m) (fun ys=>ys.map (·.1) <+: partsOf xs [] m) w:=by
 intro X l J Jx W hW hlt hX hJ hJx hY hj
 refine callsIn_wide.2 ?_
 have HB:=Aside0.mk (Below.refl W.heap.size W)
 have HJ:=Aside0.mk hj
 have HW:=Aside0.mk hW
 have HM:=Aside0.mk bm
 have HL:=Aside0.mk bl
 have HC:=Aside0.mk hC
 have HX:=Aside0.mk hX
 have HPP:=Aside0.mk hP
 clear hj hW bm bl hC hX hP
 have hmf : ∀ (fn : Fn) (first cap : Array Value) (w : World),(Instr.makeFunc fn first cap).run Tryz.prog w = .ok (.func fn first cap) w:=fun _ _ _ _=>rfl
 go_enter Tryz.func114,Tryz.ntmps114
 go_wp2_with (first | ((with_reducible refine ga_dst (N:=3) rfl ?_);(try (refine ga_guard (by rfl) ?_;dsimp only));refine box_event ?hg (N:=3) ?hd (cs:=#[.func (.yield l) #[] #[]]) (t:=91) ?hr ?_;(case hd=>rfl);(case hg=>rfl);(case hr=>first | (go_simp;done) | (go_simp;rfl));intro gy hg w1 hbox hb;have HG0:=Aside0.mk (show W.heap.size≤gy by rw [hg];exact HB.out.size);have n_:=Aside0.mk (below_then HB.out HB.out.size hb);clear HB;have HB:=n_;clear n_;have n_:=Aside0.mk (hJ.below HJ.out hb);clear HJ;have HJ:=n_;clear n_;clear hg;have BKgy:=Aside0.mk hbox;clear hbox;(try clear hczgy_0 hfzgy_0);have hczgy_0 : w1.cell? ⟨gy,0,none⟩ = some (.func (.yield l) #[] #[]):=(blk_cell BKgy.out 0).trans rfl;have hfzgy_0:=blk_frozen BKgy.out 0;clear hb) | ((with_reducible refine ga_dst (N:=4) rfl ?_);(try (refine ga_guard (by rfl) ?_;dsimp only));refine box_event ?hg (N:=4) ?hd (cs:=#[.slice none 0 0]) (t:=26) ?hr ?_;(case hd=>rfl);(case hg=>rfl);(case hr=>first | (go_simp;done) | (go_simp;rfl));intro gn hg w2 hbox hb;have HNgy_gn:=Aside0.mk (show gy ≠ gn by have:=blk_lt BKgy.out;omega);have HG1:=Aside0.mk (show W.heap.size≤gn by rw [hg];exact HB.out.size);have n_:=Aside0.mk (below_then HB.out HB.out.size hb);clear HB;have HB:=n_;clear n_;have n_:=Aside0.mk (hJ.below HJ.out hb);clear HJ;have HJ:=n_;clear n_;have n_:=Aside0.mk (blk_below BKgy.out hb);clear BKgy;have BKgy:=n_;clear n_;clear hg;have BKgn:=Aside0.mk hbox;clear hbox;(try clear hczgy_0 hfzgy_0);have hczgy_0 : w2.cell? ⟨gy,0,none⟩ = some (.func (.yield l) #[] #[]):=(blk_cell BKgy.out 0).trans rfl;have hfzgy_0:=blk_frozen BKgy.out 0;(try clear hczgn_0 hfzgn_0);have hczgn_0 : w2.cell? ⟨gn,0,none⟩ = some (.slice none 0 0):=(blk_cell BKgn.out 0).trans rfl;have hfzgn_0:=blk_frozen BKgn.out 0;clear hb) | ((with_reducible refine ga_dst (N:=5) rfl ?_);(try (refine ga_guard (by rfl) ?_;dsimp only));refine box_event ?hg (N:=5) ?hd (cs:=#[.nilFunc]) (t:=78) ?hr ?_;(case hd=>rfl);(case hg=>rfl);(case hr=>first | (go_simp;done) | (go_simp;rfl));intro gf hg w3 hbox hb;have HNgy_gf:=Aside0.mk (show gy ≠ gf by have:=blk_lt BKgy.out;omega);have HNgn_gf:=Aside0.mk (show gn ≠ gf by have:=blk_lt BKgn.out;omega);have HG2:=Aside0.mk (show W.heap.size≤gf by rw [hg];exact HB.out.size);have n_:=Aside0.mk (below_then HB.out HB.out.size hb);clear HB;have HB:=n_;clear n_;have n_:=Aside0.mk (hJ.below HJ.out hb);clear HJ;have HJ:=n_;clear n_;have n_:=Aside0.mk (blk_below BKgy.out hb);clear BKgy;have BKgy:=n_;clear n_;have n_:=Aside0.mk (blk_below BKgn.out hb);clear BKgn;have BKgn:=n_;clear n_;clear hg;have BKgf:=Aside0.mk hbox;clear hbox;(try clear hczgy_0 hfzgy_0);have hczgy_0 : w3.cell? ⟨gy,0,none⟩ = some (.func (.yield l) #[] #[]):=(blk_cell BKgy.out 0).trans rfl;have hfzgy_0:=blk_frozen BKgy.out 0;(try clear hczgn_0 hfzgn_0);have hczgn_0 : w3.cell? ⟨gn,0,none⟩ = some (.slice none 0 0):=(blk_cell BKgn.out 0).trans rfl;have hfzgn_0:=blk_frozen BKgn.out 0;(try clear hczgf_0 hfzgf_0);have hczgf_0 : w3.cell? ⟨gf,0,none⟩ = some (.nilFunc):=(blk_cell BKgf.out 0).trans rfl;have hfzgf_0:=blk_frozen BKgf.out 0;clear hb) | ((with_reducible refine ga_store (t:=78) (p:=5) rfl ?_);have HPS : PSt X w l W.heap.size w3.heap.size gn gm gy gl gf A c xs m (w3.setCell ⟨gf,0,none⟩ (.func (.func 115) #[] #[.pointer (some ⟨gn,0,none⟩),.pointer (some ⟨gm,0,none⟩),.pointer (some ⟨gy,0,none⟩),.pointer (some ⟨gl,0,none⟩),.pointer (some ⟨gf,0,none⟩)])) []:=⟨⟨_,blkF_set BKgn.out (obj_ne BKgn.out BKgf.out (by decide)),Kd.R_nil _ _ _ _ _⟩,blkF_set BKgy.out (obj_ne BKgy.out BKgf.out (by decide)),blkF_set1 BKgf.out,HM.out,HL.out,HC.out,((KeepsEx.of_below HW.out).trans (KeepsEx.of_below HB.out)).grown grown_set (fun r e=>by cases e;exact Nat.le_trans HW.out.size HG2.out),⟨HW.out.size,HG1.out,HG0.out,HG2.out,blk_lt BKgn.out,blk_lt BKgy.out,blk_lt BKgf.out,grown_set.size⟩,⟨fun k hk=>(HX.out k hk).1,fun hk=>(HX.out _ hk).2 (.inl rfl),fun hk=>(HX.out _ hk).2 (.inr (.inl rfl)),fun ad e hk=>(HX.out _ hk).2 (.inr (.inr ⟨ad,e,rfl⟩))⟩⟩;have HJS:=hJ _ _ _ _ HJ.out (grown_set (g:=gf) (i:=0) (v:=.func (.func 115) #[] #[.pointer (some ⟨gn,0,none⟩),.pointer (some ⟨gm,0,none⟩),.pointer (some ⟨gy,0,none⟩),.pointer (some ⟨gl,0,none⟩),.pointer (some ⟨gf,0,none⟩)])) (fun r e=>by cases e;exact HG2.out);refine skip_abs (fun W'=>PSt X w l W.heap.size w3.heap.size gn gm gy gl gf A c xs m W' []∧J [] W') (W1:=w3.setCell ⟨gf,0,none⟩ (.func (.func 115) #[] #[.pointer (some ⟨gn,0,none⟩),.pointer (some ⟨gm,0,none⟩),.pointer (some ⟨gy,0,none⟩),.pointer (some ⟨gl,0,none⟩),.pointer (some ⟨gf,0,none⟩)])) (by rfl) (by rfl) ?hrun ⟨HPS,HJS⟩ ?_;(case hrun=>first | (go_simp;done) | (go_simp;rfl));clear HPS HJS;rintro w4 ⟨HPS,HJS⟩;have c5:=(blk_cell HPS.bf 0).trans rfl;have HCA:=Aside0.mk (from_in X w l W.heap.size w3.heap.size gn gm gy gl gf A c xs m hxl J Jx hJ P (n - 1) hY (xs.length + 1) xs [] [] m [] w4 (by omega) rfl (by simp) (by simpa using hxl) HPP.out HPS HJS);clear HPS HJS) | (go_at_call 115;refine (HCA.out).mono ?_;rintro e w5 (⟨rfl,ys,_,hz,hj5⟩ | ⟨rfl,ys,hz,hj5⟩)))
 all_goals go_end0
 ·exact ⟨⟨_,rfl⟩,.inl ⟨ys,hz,by simpa using hj5⟩⟩
 ·exact ⟨⟨_,rfl⟩,.inr ⟨ys,hz,by simpa using hj5⟩⟩
theorem ga_parts.calls (A : Option Addr) (n c : Nat) (a1 : Int) (w : World) :
 Calls Tryz.prog 95 #[.slice A n c,.int .i64 a1] w fun e w'=>∃ gl gm : Nat,e = .returned (.func (.func 114) #[] #[.pointer (some ⟨gm,0,none⟩),.pointer (some ⟨gl,0,none⟩)])∧w'.heap[gl]? = some (.cells #[.slice A n c] 26 (0,0))∧w'.heap[gm]? = some (.cells #[.int .i64 a1] 3 (0,0))∧w.heap.size≤gl∧w.heap.size≤gm∧Below w.heap.size w w':=by
 have hmf : ∀ (fn : Fn) (first cap : Array Value) (w : World),(Instr.makeFunc fn first cap).run Tryz.prog w = .ok (.func fn first cap) w:=fun _ _ _ _=>rfl
 have HB:=Aside0.mk (Below.refl w.heap.size w)
 go_enter Tryz.func95,Tryz.ntmps95
 go_wp2_with (first | ((with_reducible refine ga_dst (N:=2) rfl ?_);(try (refine ga_guard (by rfl) ?_;dsimp only));refine box_event ?hg (N:=2) ?hd (cs:=#[.slice A n c]) (t:=26) ?hr ?_;(case hd=>rfl);(case hg=>rfl);(case hr=>first | (go_simp;done) | (go_simp;rfl));intro gl hg w1 hbox hb;have HG0:=Aside0.mk (show w.heap.size≤gl by rw [hg];exact HB.out.size);have n_:=Aside0.mk (below_then HB.out HB.out.size hb);clear HB;have HB:=n_;clear n_;clear hg;have BKgl:=Aside0.mk hbox;clear hbox;(try clear hczgl_0 hfzgl_0);have hczgl_0 : w1.cell? ⟨gl,0,none⟩ = some (.slice A n c):=(blk_cell BKgl.out 0).trans rfl;have hfzgl_0:=blk_frozen BKgl.out 0;clear hb) | ((with_reducible refine ga_dst (N:=3) rfl ?_);(try (refine ga_guard (by rfl) ?_;dsimp only));refine box_event ?hg (N:=3) ?hd (cs:=#[.int .i64 a1]) (t:=3) ?hr ?_;(case hd=>rfl);(case hg=>rfl);(case hr=>first | (go_simp;done) | (go_simp;rfl));intro gm hg w2 hbox hb;have HNgl_gm:=Aside0.mk (show gl ≠ gm by have:=blk_lt BKgl.out;omega);have HG1:=Aside0.mk (show w.heap.size≤gm by rw [hg];exact HB.out.size);have n_:=Aside0.mk (below_then HB.out HB.out.size hb);clear HB;have HB:=n_;clear n_;have n_:=Aside0.mk (blk_below BKgl.out hb);clear BKgl;have BKgl:=n_;clear n_;clear hg;have BKgm:=Aside0.mk hbox;clear hbox;(try clear hczgl_0 hfzgl_0);have hczgl_0 : w2.cell? ⟨gl,0,none⟩ = some (.slice A n c):=(blk_cell BKgl.out 0).trans rfl;have hfzgl_0:=blk_frozen BKgl.out 0;(try clear hczgm_0 hfzgm_0);have hczgm_0 : w2.cell? ⟨gm,0,none⟩ = some (.int .i64 a1):=(blk_cell BKgm.out 0).trans rfl;have hfzgm_0:=blk_frozen BKgm.out 0;clear hb))
 go_ret
 exact ⟨_,_,rfl,BKgl.out,BKgm.out,HG0.out,HG1.out,HB.out⟩
theorem ga_shortest.calls (A : Option Addr) (n c : Nat) (w : World) :
 Calls Tryz.prog 75 #[.slice A n c] w fun e w'=>∃ gl : Nat,e = .returned (.func (.func 110) #[] #[.pointer (some ⟨gl,0,none⟩)])∧w'.heap[gl]? = some (.cells #[.slice A n c] 26 (0,0))∧w.heap.size≤gl∧Below w.heap.size w w':=by
 have hmf : ∀ (fn : Fn) (first cap : Array Value) (w : World),(Instr.makeFunc fn first cap).run Tryz.prog w = .ok (.func fn first cap) w:=fun _ _ _ _=>rfl
 have HB:=Aside0.mk (Below.refl w.heap.size w)
 go_enter Tryz.func75,Tryz.ntmps75
 go_wp2_with ((with_reducible refine ga_dst (N:=1) rfl ?_);(try (refine ga_guard (by rfl) ?_;dsimp only));refine box_event ?hg (N:=1) ?hd (cs:=#[.slice A n c]) (t:=26) ?hr ?_;(case hd=>rfl);(case hg=>rfl);(case hr=>first | (go_simp;done) | (go_simp;rfl));intro gl hg w1 hbox hb;have HG0:=Aside0.mk (show w.heap.size≤gl by rw [hg];exact HB.out.size);have n_:=Aside0.mk (below_then HB.out HB.out.size hb);clear HB;have HB:=n_;clear n_;clear hg;have BKgl:=Aside0.mk hbox;clear hbox;(try clear hczgl_0 hfzgl_0);have hczgl_0 : w1.cell? ⟨gl,0,none⟩ = some (.slice A n c):=(blk_cell BKgl.out 0).trans rfl;have hfzgl_0:=blk_frozen BKgl.out 0;clear hb)
 go_ret
 exact ⟨_,rfl,BKgl.out,HG0.out,HB.out⟩
end Go.Proofs.YtclkbedbocnpkaaGreatDoor.C
namespace Go.Proofs.YtclkbedbocnpkaaGreatDoor.C
open Go Go.RowKit Go.Shelf Go.Proofs.YtclkbedbocnpkaaGreatDoorW.PrintWords Go.Proofs.YtclkbedbocnpkaaGreatDoorW.PrintLast Go.Proofs.YtclkbedbocnpkaaGreatDoorW.PrintMore
set_option linter.unusedVariables false
set_option linter.unusedSimpArgs false
set_option maxHeartbeats 16000000
set_option maxRecDepth 100000
section
attribute [local go_sem] Oper.semAt_some
def uptoOf (xs : List Int) : Nat→List (List Int)
 | 0=>[]
 | k + 1=>uptoOf xs k ++ partsOf xs [] k
def shortestOf (xs : List Int) : List (List Int):=uptoOf xs (xs.length + 1)
theorem uptoOf_le {xs : List Int} {k m : Nat} (h : k≤m) : uptoOf xs k <+: uptoOf xs m:=by
 induction h with
 | refl=>exact List.prefix_refl _
 | step _ ih=>exact ih.trans (List.prefix_append _ _)
def markD (D : Nat) : Deferred:={ target:=.collected D,args:=#[] }
def MarksOk (Bs : Nat) (Ds : List Nat) (W : World) : Prop:=Ds.Nodup∧∀ D ∈ Ds,Bs≤D∧W.heap[D]? = some (.deferred (some []))
theorem MarksOk.same {Bs : Nat} {Ds : List Nat} {W W' : World} (h : MarksOk Bs Ds W) (hs : ∀ D ∈ Ds,W.heap[D]? = some (.deferred (some []))→W'.heap[D]? = some (.deferred (some []))) : MarksOk Bs Ds W':=⟨h.1,fun D hD=>⟨(h.2 D hD).1,hs D hD (h.2 D hD).2⟩⟩
theorem MarksOk.lt {Bs : Nat} {Ds : List Nat} {W : World} (h : MarksOk Bs Ds W) : ∀ D ∈ Ds,D < W.heap.size:=fun D hD=>(Array.getElem?_eq_some_iff.1 (h.2 D hD).2).1
theorem marks_leave {n : Nat} {P : Program} {fn : Func} {tmps : Array Value} {R : Ending→World→Prop} {Bs : Nat} (Kp : World→Prop) (hK : ∀ W,Kp W→LeavesInM Fence.wide n P fn tmps R [] .returning W) (hput : ∀ W D,Bs≤D→Kp W→W.heap[D]? = some (.deferred (some []))→Kp (W.putObj D (.deferred none))) :
 ∀ (Ds : List Nat) (W : World),MarksOk Bs Ds W→Kp W→LeavesInM Fence.wide n P fn tmps R (Ds.map markD) .returning W
 | [],W,_,h=>hK W h
 | D :: Ds,W,hm,h=>by
  have hD:=hm.2 D List.mem_cons_self
  refine ⟨by simp,.inl ⟨D,_,rfl,run_takeDeferred hD.2,?_⟩⟩
  refine marks_leave Kp hK hput Ds _ ⟨(List.nodup_cons.1 hm.1).2,fun E hE=>⟨(hm.2 E (List.mem_cons_of_mem _ hE)).1,?_⟩⟩ (hput W D hD.1 h hD.2)
  exact (World.putObj_heap_other (fun e=>by subst e;exact (List.nodup_cons.1 hm.1).1 hE)).trans (hm.2 E (List.mem_cons_of_mem _ hE)).2
theorem gateIn {F : Fence} {n : Nat} {P : Program} {ops : Array Oper} {o : Oper} {a : Act} {Q : Exit→Act→World→Prop} {rest : List Oper} {W : World} {N : Tmp} (_ : o.dst = some N) (h : wpListIn F n P ops Q (o :: rest) a W) : wpListIn F n P ops Q (o :: rest) a W:=h
theorem shortest_stops (gl : Nat) (A : Option Addr) (c : Nat) (xs : List Int) (P : List Int→Prop) (w : World) (bl : w.heap[gl]? = some (.cells #[.slice A xs.length c] 26 (0,0))) (hC : (Kd.int .i64).C w A xs.length xs) (hxl : xs.length < 1000000) (hP : ∀ y ∈ shortestOf xs,P y) (n : Nat) :
 SeqStopsE Fence.wide n Tryz.prog 110 #[.pointer (some ⟨gl,0,none⟩)] hEnc (hOk w.heap.size P) (fun k=>k = gl∨∃ ad,A = some ad∧k = ad.block) (fun ys=>ys.map (·.1) = shortestOf xs) (fun ys=>ys.map (·.1) <+: shortestOf xs) w:=by
 intro X l J Jx W hW hlt hX hJ hJx hY hj
 refine callsIn_wide.2 ((callsIn_wide (n:=9)).1 ?_)
 have bl2:=blk_below bl hW
 have e0:=(blk_cell bl2 0).trans rfl
 have hXl : ¬ X gl:=fun hk=>(hX _ hk).2 (.inl rfl)
 have hXA : ∀ ad,A = some ad→¬ X ad.block:=fun ad e hk=>(hX _ hk).2 (.inr ⟨ad,e,rfl⟩)
 have HB:=Aside0.mk (Below.refl W.heap.size W)
 have HJ:=Aside0.mk hj
 have HWW:=Aside0.mk hW
 have HPP:=Aside0.mk hP
 have BL:=Aside0.mk bl2
 have HXX:=Aside0.mk hX
 have HXA:=Aside0.mk hXA
 have HXL:=Aside0.mk hXl
 have BL0:=Aside0.mk bl
 have HC0:=Aside0.mk hC
 clear hj hW hP bl2 hX hXA hXl bl hC
 have hw0 : IntKind.i64.wrap ((xs.length : Int) + 1) = (xs.length : Int) + 1:=(i64_w _).trans (by unfold wrap64;omega)
 refine callsIn_of_wp_marks Tryz.func110 rfl trivial ?_ rfl
 simp only [Tryz.ntmps110,List.size_toArray,List.length_cons,List.length_nil,Nat.reduceAdd,Nat.reduceSub,Array.replicate_succ,Array.replicate_zero,List.push_toArray,List.append_toArray,List.nil_append,List.cons_append]
 gi_wp2_with ((with_reducible refine gateIn (N:=2) rfl ?_);refine boxIn rfl (fun _=>trivial) ?hg (cs:=#[.func (.yield l) #[] #[]]) (t:=91) ?hr ?_;(case hg=>rfl);(case hr=>first | (go_simp;done) | (go_simp;rfl));intro gy hg w1 hbox hb;have n1:=Aside0.mk (hJ.below HJ.out hb);clear HJ;have HJ:=n1;clear n1;have BY:=Aside0.mk hbox;have HK:=Aside0.mk ((KeepsEx.of_below (X:=X) HWW.out).trans (KeepsEx.of_below hb));have HGY:=Aside0.mk (show W.heap.size≤gy by rw [hg];exact Nat.le_refl _);(try clear e0);have e0 : w1.cell? ⟨gl,0,none⟩ = some (.slice A xs.length c):=(blk_cell (blk_below BL.out hb) 0).trans rfl;clear hg hb hbox)
 refine wpIn_loop (fun a' W'=>∃ (k : Nat) (ys : List HX) (Ds : List Nat) (u3 u4 u9 u10 u11 u12 u13 u14 u15 u16 u17 u18 u19 : Value),a' = { tmps:=#[.func (.yield l) #[] #[],.pointer (some ⟨gl,0,none⟩),.pointer (some ⟨gy,0,none⟩),u3,u4,.slice A xs.length c,.int .i64 (xs.length : Int),.int .i64 ((xs.length : Int) + 1),.int .i64 (k : Int),u9,u10,u11,u12,u13,u14,u15,u16,u17,u18,u19],defers:=Ds.map markD }∧k≤xs.length + 1∧Aside0 (ys.map (·.1) = uptoOf xs k)∧Aside0 (J ys W')∧Aside0 (MarksOk W.heap.size Ds W')∧Aside0 (W'.heap[gy]? = some (.cells #[.func (.yield l) #[] #[]] 91 (0,0)))∧Aside0 (KeepsEx X w W')) (fun a' _=>xs.length + 1 - (intOf (a'.tmps.getD 8 undef)).toNat) ?_ ?_
 ·exact ⟨0,[],[],_,_,_,_,_,_,_,_,_,_,_,_,_,rfl,by omega,⟨rfl⟩,HJ,⟨List.nodup_nil,fun D hD=>by cases hD⟩,BY,HK⟩
 clear HJ BY HK e0
 rintro a W2 ⟨k,ys,Ds,u3,u4,u9,u10,u11,u12,u13,u14,u15,u16,u17,u18,u19,rfl,hk,HY,HJ,HM,BY,HK⟩
 have HS : W.heap.size≤W2.heap.size:=Nat.le_of_lt (Nat.lt_of_le_of_lt HGY.out (blk_lt BY.out))
 by_cases hlt : k < xs.length + 1
 rotate_left
 ·obtain rfl : k = xs.length + 1:=by omega
  have hq : decide (((xs.length + 1 : Nat) : Int) < (xs.length : Int) + 1) = false:=decide_eq_false (by omega)
  clear hlt hk
  gi_wp2
  exact marks_leave (Bs:=W.heap.size) (fun W'=>J ys W') (fun W' hj=>⟨_,results_none rfl _ _ _,⟨_,rfl⟩,.inl ⟨ys,HY.out,hj⟩⟩) (fun W' D hD hj ho=>hJ.putObj _ hj hD) Ds W2 HM.out HJ.out
 ·have hq : decide ((k : Int) < (xs.length : Int) + 1) = true:=decide_eq_true (by omega)
  have e0 : W2.cell? ⟨gl,0,none⟩ = some (.slice A xs.length c):=(blk_cell (HK.out.same _ _ HXL.out BL0.out) 0).trans rfl
  gi_wp2_with (refine ⟨trivial,?_⟩;refine (callsIn_wide.2 (ga_parts.calls A xs.length c (k : Int) W2)).mono ?_;rintro e w3 ⟨gl2,gm2,rfl,b1,b2,g1,g2,hb⟩)
  have hS3 : W.heap.size≤w3.heap.size:=Nat.le_trans HS hb.size
  have HM3:=HM.out.same (W':=w3) (fun D hD h=>(hb.block D (Array.getElem?_eq_some_iff.1 h).1).trans h)
  have BY3:=blk_below BY.out hb
  have HK3:=HK.out.trans (KeepsEx.of_below hb)
  have HJ3:=hJ.below HJ.out hb
  have hlt3:=blk_lt BY3
  have hXn : ∀ D,W.heap.size≤D→¬ X D:=fun D hD hx=>by have:=(HXX.out D hx).1;omega
  refine rangeE (α:=HX) (n:=9) rfl (by decide) (gf:=114) (lb:=#[.pointer (some ⟨gm2,0,none⟩),.pointer (some ⟨gl2,0,none⟩)]) rfl trivial (enters_of Tryz.func114 (by kernel_rfl) rfl) X
   (parts_stops gm2 gl2 A c xs k P w3 b2 b1 (C_keepsEx HK3 HC0.out HXA.out) hxl (fun y hy=>HPP.out y ((uptoOf_le (show k + 1≤xs.length + 1 by omega)).subset (List.mem_append_right _ hy))) (9 - 1))
   (fun j hj=>⟨by have:=(HXX.out j hj).1;omega,fun hc=>by
    rcases hc with rfl | rfl | ⟨ad,e,rfl⟩
    ·exact hXn _ (by omega) hj
    ·exact hXn _ (by omega) hj
    ·exact HXA.out ad e hj⟩)
   (fun x W' l o o' hx hl ho=>hOk_putO hx hl ho) (Below.refl _ w3) (fun _=>rfl)
   (fun pre W'=>J (ys ++ pre) W'∧W'.heap[gy]? = some (.cells #[.func (.yield l) #[] #[]] 91 (0,0))∧KeepsEx X w W'∧MarksOk W.heap.size Ds W')
   (fun c pre W'=>c = .ret∧Jx (ys ++ pre) W'∧MarksOk W.heap.size Ds W')
   (fun s A' B' row hs hg hr=>⟨hJ _ _ _ _ hs.1 hg (fun r e=>Nat.le_trans hS3 (hr r e)),blk_grown1 hs.2.1 hg (fun r e=>by have:=hr r e;omega),hs.2.2.1.grown hg (fun r e=>by have:=hr r e;have:=HWW.out.size;omega),hs.2.2.2.same (fun D hD h=>blk_grown1 h hg (fun r e=>by have:=hr r e;have:=HM3.lt D hD;omega))⟩)
   (fun c pre W' l' o o' hl' hs ho hc hw=>⟨hs.1,hJx _ _ _ _ _ (Nat.le_trans hS3 hl') hs.2.1 ho hc hw,hs.2.2.same (fun D hD h=>(World.putObj_heap_other (by have:=HM3.lt D hD;omega)).trans h)⟩)
   ⟨by simpa using HJ3,BY3,HK3,HM3⟩
   (fun x=>{ tmps:=#[.func (.yield l) #[] #[],.pointer (some ⟨gl,0,none⟩),.pointer (some ⟨gy,0,none⟩),.int .i64 (k : Int),.slice x.2.1 x.1.length x.2.2,.slice A xs.length c,.int .i64 (xs.length : Int),.int .i64 ((xs.length : Int) + 1),.int .i64 (k : Int),.bool true,.int .i64 (k : Int),.slice A xs.length c,.int .i64 (k : Int),.func (.func 114) #[] #[.pointer (some ⟨gm2,0,none⟩),.pointer (some ⟨gl2,0,none⟩)],.slice x.2.1 x.1.length x.2.2,u15,u16,u17,u18,u19],defers:=[] }) ?assign ?body ?done ?stop
  case assign =>
   intro l2 x W' K hK
   simp only [hEnc]
   gi_wp2
   exact hK
  case body =>
   rintro l2 pre ⟨xl,xA,xc⟩ W4 ⟨hj4,by4,hk4,hm4⟩ hok
   have hle3 : w.heap.size≤w3.heap.size:=HK3.size
   obtain ⟨fn,tmps,assign,body,hy,hR⟩:=hAny rfl (9 - 1 - 1 - 1) (hY (ys ++ pre) (xl,xA,xc) W4 hj4 (hOk_lower hok hle3 (fun _ h=>h)))
   dsimp only [hEnc] at hy
   have hR' : RoundIn (Fence.wide.inRound l2) (9 - 1 - 1 - 1) Tryz.prog l fn tmps assign body W4 _:=hR
   have c2 : W4.cell? ⟨gy,0,none⟩ = some (.func (.yield l) #[] #[]):=(blk_cell by4 0).trans rfl
   have HJ4:=Aside0.mk hj4
   have BY4:=Aside0.mk by4
   have HK4:=Aside0.mk hk4
   have HM4:=Aside0.mk hm4
   have HXN:=Aside0.mk hXn
   clear hj4 by4 hk4 hm4 hok hR hXn
   gi_wp2
   refine hR'.mono ?_
   rintro e W5 (⟨rfl,hj5,hk5⟩ | ⟨rfl,hj5,hk5⟩)
   ·gi_wp2
    exact ⟨hk5,by rw [← List.append_assoc];exact hj5,hk5.same _ _ (HXN.out _ HGY.out) BY4.out,HK4.out.trans hk5,HM4.out.same (fun D hD h=>hk5.same D _ (HXN.out D (HM4.out.2 D hD).1) h)⟩
   ·gi_wp2
    exact ⟨⟨hk5.size,fun j o hj ho hc=>hk5.same j o (Nat.le_trans hS3 hj) ho hc⟩,rfl,by rw [← List.append_assoc];exact hj5,HM4.out.same (fun D hD h=>hk5.same D _ (HM4.out.2 D hD).1 h rfl)⟩
  case done =>
   rintro D zs W4 hD hS ⟨hj4,by4,hk4,hm4⟩ hK
   have HN:=Aside0.mk (show MarksOk W.heap.size (D :: Ds) W4 from ⟨List.nodup_cons.2 ⟨fun hm=>by have:=HM3.lt D hm;omega,hm4.1⟩,fun E hE=>by
    rcases List.mem_cons.1 hE with rfl | hE
    ·exact ⟨Nat.le_trans hS3 hD,hK⟩
    ·exact hm4.2 E hE⟩)
   have HS4:=Aside0.mk hS
   have HJ4:=Aside0.mk hj4
   have BY4:=Aside0.mk by4
   have HK4:=Aside0.mk hk4
   have hw1 : IntKind.i64.wrap ((k : Int) + 1) = (k : Int) + 1:=(i64_w _).trans (by unfold wrap64;omega)
   clear hj4 by4 hk4 hm4 hK hS
   gi_wp2
   exact ⟨⟨k + 1,ys ++ zs,D :: Ds,_,_,_,_,_,_,_,_,_,_,_,_,_,rfl,by omega,⟨by rw [List.map_append,HY.out,HS4.out];rfl⟩,HJ4,HN,BY4,HK4⟩,by simp [intOf];omega⟩
  case stop =>
   rintro D c2 pre W4 hD hSp ⟨rfl,hj4,hm4⟩ hK
   have HN : MarksOk W.heap.size (D :: Ds) W4:=⟨List.nodup_cons.2 ⟨fun hm=>by have:=HM3.lt D hm;omega,hm4.1⟩,fun E hE=>by
    rcases List.mem_cons.1 hE with rfl | hE
    ·exact ⟨Nat.le_trans hS3 hD,hK⟩
    ·exact hm4.2 E hE⟩
   have HPX : (ys ++ pre).map (·.1) <+: shortestOf xs:=by
    rw [List.map_append,HY.out]
    exact ((List.prefix_append_right_inj _).2 hSp).trans (uptoOf_le (show k + 1≤xs.length + 1 by omega))
   gi_wp2
   exact marks_leave (Bs:=W.heap.size) (fun W'=>Jx (ys ++ pre) W') (fun W' h=>⟨_,results_none rfl _ _ _,⟨_,rfl⟩,.inr ⟨ys ++ pre,HPX,h⟩⟩) (fun W' E hE h ho=>hJx _ _ _ _ _ hE h ho rfl rfl) (D :: Ds) W4 HN hj4
end
end Go.Proofs.YtclkbedbocnpkaaGreatDoor.C
namespace Go.Proofs.YtclkbedbocnpkaaGreatDoor.C
open Go.RowKit Go.Proofs.YtclkbedbocnpkaaGreatDoorW.PrintWords Go.Proofs.YtclkbedbocnpkaaGreatDoorW.PrintLast Go.Proofs.YtclkbedbocnpkaaGreatDoorW.PrintMore
set_option linter.unusedVariables false
set_option linter.unusedSimpArgs false
set_option maxHeartbeats 16000000
set_option maxRecDepth 100000
def ga_points.l0 : Nat→List Int→Int→Int→Option (List Int)
 | 0,_,_,_=>none
 | k + 1,x3,x7,x8=>if x8 < x7 then (if x3.length < 17592186044416 then (ga_points.l0 k (x3 ++ [x8]) x7 (wrap64 (x8 + 1))) else (none)) else (some x3)
def ga_points.f (k : Nat) (l0_0 : List (S37)) (l0_1 : List (S65)) : Option (List Int):=ga_points.l0 k ([] : List Int) (l0_0.length : Int) 0
theorem ga_points.calls (k : Nat) (A0_0 : Option Addr) (c0_0 : Nat) (l0_0 : List (S37)) (A0_1 : Option Addr) (c0_1 : Nat) (l0_1 : List (S65)) (r : List Int) (w : World) (hr0_0 : Kd.C k37 w A0_0 l0_0.length l0_0) (hc0_0 : l0_0.length≤c0_0) (hr0_1 : Kd.C k65 w A0_1 l0_1.length l0_1) (hc0_1 : l0_1.length≤c0_1) (h : ga_points.f k l0_0 l0_1 = some r) :
 Calls Tryz.prog 105 #[.agg #[.slice A0_0 l0_0.length c0_0,.slice A0_1 l0_1.length c0_1]] w fun e w'=>∃ v0_ : Value,e = .returned (v0_)∧Kd.R (Kd.int .i64) 3 w' w.heap.size (fun _=>True) v0_ r∧Below w.heap.size w w':=by
 have hu25:=Tryz.underlying25
 have HR0_0:=am hr0_0
 have HC0_0:=am hc0_0
 clear hr0_0 hc0_0
 have HR0_1:=am hr0_1
 have HC0_1:=am hc0_1
 clear hr0_1 hc0_1
 have HB:=am (Below.refl w.heap.size w)
 have H : (ga_points.l0 k ([] : List Int) (l0_0.length : Int) 0) = some r:=h
 clear h
 replace H':=am H
 go_enter Tryz.func105,Tryz.ntmps105
 go_wp2_with (first | ((refine ga_dst (N:=1) rfl ?_);refine box_event rfl (N:=1) rfl (cs:=#[.slice A0_0 l0_0.length c0_0,.slice A0_1 l0_1.length c0_1]) (t:=25) ?hr ?_;(case hr=>go_simp;try rfl);intro gb143 hg w2 hbox hb;have BK143:=am (hbox);have GW143:=am (ge_new (HB.out) hg);have GE143:=am (ge_new (HB.out) hg);replace HB:=am (below_step (HB.out) hb);clear hb hbox hg;obtain ⟨hcz3_0,hcz3_1⟩:=cO2 BK143.out))
 go_loopg [3,8] k (fun kq v3 v8 w'=>∃ (x3_1 : List Int) (x8_1 : Int),v8 = .int .i64 x8_1∧Aside0 (ga_points.l0 kq x3_1 (l0_0.length : Int) x8_1 = some r)∧Aside0 (kq≤k)∧Aside0 (Kd.R (Kd.int .i64) 3 w' w.heap.size (fun _=>True) v3 x3_1)∧Aside0 (w'.heap[gb143]? = some (.cells #[(.slice A0_0 l0_0.length c0_0),(.slice A0_1 l0_1.length c0_1)] 25 (0,0)))∧Aside0 (Below w.heap.size w w'))
 case atStart=>exact ⟨(([] : List Int)),(0),(by first | rfl | (simp;done) | (simp [*];done)),H',⟨Nat.le_refl _⟩,⟨by first | exact Kd.R_nil _ _ _ _ _ | exact Kd.N_nil _ _ _ _ _ | exact Kd.V_nil _ _ _ _ _ | exact Kd.Q_nil _ _ _ _ _ | exact Kd.S_nil _ _ _ _ _⟩,⟨BK143.out⟩,⟨HB.out⟩⟩
 case round =>
  clear H'
  obtain ⟨x3_1,x8_1,rfl,HA,HK1,HO_3,BK143,HB⟩:=hrel
  cases gk with
  | zero=>exact absurd HA.out (by simp [ga_points.l0])
  | succ k1 =>
   have H:=HA.out
   clear HA
   simp only [ga_points.l0] at H
   by_cases c4 : x8_1 < (l0_0.length : Int)
   case neg =>
    rw [if_neg c4] at H
    have c4b0 : decide (x8_1 < (l0_0.length : Int)) = false:=decide_eq_false c4
    clear c4
    obtain rfl:=Option.some.inj H
    go_wp2
    go_ret
    exact ⟨_,by first | rfl | (simp [*]<;>rfl),by (with_reducible repeat (first | apply Kd.R_alloc | apply Kd.R_drewN | apply Kd.R_drew));exact HO_3.out,HB.out⟩
   rw [if_pos c4] at H
   have c4b0 : decide (x8_1 < (l0_0.length : Int)) = true:=decide_eq_true c4
   clear c4
   by_cases c5 : x3_1.length < 17592186044416
   case neg =>
    rw [if_neg c5] at H
    exact absurd H (by simp)
   rw [if_pos c5] at H
   have LMc5:=am c5
   clear c5
   obtain ⟨y144,hy144⟩ : ∃ y_ : List Int,y_ = (x3_1 ++ [x8_1]):=⟨_,rfl⟩
   replace H : (ga_points.l0 k1 y144 (l0_0.length : Int) (wrap64 (x8_1 + 1))) = some r:=by first | (rw [hy144];with_reducible exact H) | (have H2_:=(Option.bind_some _ _).symm.trans H;rw [hy144];with_reducible exact H2_) | (have H2_:=(Option.bind_some _ _).symm.trans H;with_reducible exact H2_) | with_reducible exact H | (rw [hy144];exact H) | exact H
   have Ny144:=am hy144
   clear hy144
   replace H':=am H
   go_wp2_with (first | ((with_reducible refine ga_builtin (b:=.append) (xs:=#[.tmp 11,.tmp 13]) rfl ?_);at_builtin;refine Kd.R_append (Kd.int .i64) (w0:=w) w.heap.size rfl (.tmp 11) (.tmp 13) 26 3 (.int .i64 0) 8 rfl Tryz.underlying26 info3 rfl (by decide) (by omega) u3 x3_1 x8_1 [.int .i64 x8_1] (fun _=>True) (fun _=>False) rfl rfl ?aP (fun _ hk=>hk.elim) ?aF ?aO ?aB ?aS ?aL ?_;(case aP=>exact rfl);(case aB=>exact (HB.out));(case aF=>exact (fun _ _=>trivial));(case aO=>exact HO_3.out);(case aS=>exact (below_size (HB.out)));(case aL=>have:=LMc5.out;omega);intro v145 w6 ho hb hg hat;rw [← Ny144.out] at ho;have n0_:=am (blk_grown (g:=gb143) (o:=.cells #[.slice A0_0 l0_0.length c0_0,.slice A0_1 l0_1.length c0_1] 25 (0,0)) BK143.out hg (Kd.R_ne HO_3.out BK143.out (by decide)));have n1_:=am (hb);have n2_:=am (ho);clear BK143;clear HB;clear HO_3;have BK143:=n0_;have HB:=n1_;have HO146:=n2_;clear n0_ n1_ n2_;clear ho hb hg hat))
   go_roundg k1
   case measure=>have:=HK1.out;omega
   case rel=>exact ⟨(y144),(wrap64 (x8_1 + 1)),(by first | rfl | (simp;done) | (simp [*];done)),H',⟨by have:=HK1.out;omega⟩,⟨by (with_reducible repeat (first | apply Kd.R_alloc | apply Kd.R_drewN | apply Kd.R_drew));exact HO146.out⟩,⟨BK143.out⟩,⟨HB.out⟩⟩
def firstT (q : List Int→Option Bool) (L : List (List Int)) : Option (Option (List Int)):=if (L.all fun l=>(q l).isSome) = true then firstM q L else none
theorem firstT_total {q : List Int→Option Bool} {L : List (List Int)} {r : Option (List Int)} (h : firstT q L = some r) : (∀ l ∈ L,∃ b,q l = some b)∧firstM q L = some r:=by
 unfold firstT at h
 split at h
 ·rename_i ha
  rw [List.all_eq_true] at ha
  exact ⟨fun l hl=>Option.isSome_iff_exists.1 (ha l hl),h⟩
 ·cases h
def firstV : Option (List Int)→List Int × Bool
 | none=>([],false)
 | some l=>(l,true)
theorem first_res {e : Ending} {w' : World} {B B' : Nat} {r : Option (List Int)} {r1 : List Int} {r2 : Bool} (hres : (r = none∧e = .returned (.tuple #[.slice none 0 0,.bool false]))∨(∃ l A c,r = some l∧e = .returned (.tuple #[.slice A l.length c,.bool true])∧l.length≤c∧Kd.C (Kd.int .i64) w' A l.length l∧Kd.R (Kd.int .i64) 3 w' B (fun _=>True) (.slice A l.length c) l)) (h4 : firstV r = (r1,r2)) (hB : B'≤B) :
 ∃ v0 : Value,e = .returned (.tuple #[v0,.bool r2])∧Kd.R (Kd.int .i64) 3 w' B' (fun _=>True) v0 r1:=by
 rcases hres with ⟨rfl,rfl⟩ | ⟨l,A,c,rfl,rfl,hle,hC,hR⟩
 ·simp only [firstV,Prod.mk.injEq] at h4
  obtain ⟨rfl,rfl⟩:=h4
  exact ⟨_,rfl,Kd.R_nil _ _ _ _ _⟩
 ·simp only [firstV,Prod.mk.injEq] at h4
  obtain ⟨rfl,rfl⟩:=h4
  exact ⟨_,rfl,Kd.R_lower hR hB⟩
def cutq.f (k : Nat) (l0_0 : List S37) (l0_1 : List S65) (l0_2 : List Int) (hi : Bool) (l : List Int) : Option Bool:=(gs_short.f k l0_0 l0_1 l0_2 l hi).bind fun r=>some (decide (0 < r))
def cutH.f (k : Nat) (l0_0 : List S37) (l0_1 : List S65) (l0_2 : List Int) (hi : Bool) : Option (List Int × Bool):=
 (ga_points.f k l0_0 l0_1).bind fun ps=>if ps.length < 1000000 then (firstT (cutq.f k l0_0 l0_1 l0_2 hi) (shortestOf ps)).bind fun r=>some (firstV r) else none
def gs_cut.f (k : Nat) (l0_0 : List S37) (l0_1 : List S65) (l0_2 : List Int) (a1 : Int) : Option (List Int × Bool):=if a1 = 0 then cutH.f k l0_0 l0_1 l0_2 false else if a1 = 1 then cutH.f k l0_0 l0_1 l0_2 true else none
theorem cutq.calls (k gs ga : Nat) (A0_0 : Option Addr) (c0_0 : Nat) (l0_0 : List S37) (A0_1 : Option Addr) (c0_1 : Nat) (l0_1 : List S65) (A0_2 : Option Addr) (c0_2 : Nat) (l0_2 : List Int) (hi : Bool) (A1 : Option Addr) (c1 : Nat) (l1 : List Int) (r : Bool) (w : World) (hbs : w.heap[gs]? = some (.cells #[.slice A0_0 l0_0.length c0_0,.slice A0_1 l0_1.length c0_1,.slice A0_2 l0_2.length c0_2] 80 (0,0))) (hba : w.heap[ga]? = some (.cells #[.int .i64 (if hi = true then 1 else 0)] 3 (0,0))) (hr0_0 : Kd.C k37 w A0_0 l0_0.length l0_0) (hc0_0 : l0_0.length≤c0_0) (hr0_1 : Kd.C k65 w A0_1 l0_1.length l0_1) (hc0_1 : l0_1.length≤c0_1) (hr0_2 : Kd.C (Kd.int .i64) w A0_2 l0_2.length l0_2) (hc0_2 : l0_2.length≤c0_2) (hr1 : Kd.C (Kd.int .i64) w A1 l1.length l1) (hc1 : l1.length≤c1) (h : cutq.f k l0_0 l0_1 l0_2 hi l1 = some r) :
 Calls Tryz.prog 106 #[.slice A1 l1.length c1,.pointer (some ⟨gs,0,none⟩),.pointer (some ⟨ga,0,none⟩)] w fun e w'=>e = .returned (.bool r)∧Below w.heap.size w w':=by
 have hus:=Tryz.underlying80
 have hun:=Tryz.underlying25
 unfold cutq.f at h
 obtain ⟨v,hv,h⟩:=obm h
 obtain rfl:=Option.some.inj h
 have c0:=(blk_cell hbs 0).trans rfl
 have c1_:=(blk_cell hbs 1).trans rfl
 have c2_:=(blk_cell hbs 2).trans rfl
 have c3_:=(blk_cell hba 0).trans rfl
 have HC:=am (gs_short.calls k A0_0 c0_0 l0_0 A0_1 c0_1 l0_1 A0_2 c0_2 l0_2 A1 c1 l1 hi v w hr0_0 hc0_0 hr0_1 hc0_1 hr0_2 hc0_2 hr1 hc1 hv)
 obtain ⟨av,hav⟩ : ∃ z : Int,(if hi = true then 1 else 0) = z:=⟨_,rfl⟩
 rw [hav] at c3_ HC
 clear hav h hv hbs hba hr0_0 hc0_0 hr0_1 hc0_1 hr0_2 hc0_2 hr1 hc1
 go_enter Tryz.func106,Tryz.ntmps106
 go_wp2_with (go_at_call 107;refine (HC.out).mono ?_;rintro e w1 ⟨rfl,hb⟩)
 go_ret
 exact ⟨rfl,hb⟩
theorem cutH.calls (k : Nat) (A0_0 : Option Addr) (c0_0 : Nat) (l0_0 : List S37) (A0_1 : Option Addr) (c0_1 : Nat) (l0_1 : List S65) (A0_2 : Option Addr) (c0_2 : Nat) (l0_2 : List Int) (hi : Bool) (r1 : List Int) (r2 : Bool) (w : World) (hr0_0 : Kd.C k37 w A0_0 l0_0.length l0_0) (hc0_0 : l0_0.length≤c0_0) (hr0_1 : Kd.C k65 w A0_1 l0_1.length l0_1) (hc0_1 : l0_1.length≤c0_1) (hr0_2 : Kd.C (Kd.int .i64) w A0_2 l0_2.length l0_2) (hc0_2 : l0_2.length≤c0_2) (h : cutH.f k l0_0 l0_1 l0_2 hi = some (r1,r2)) :
 Calls Tryz.prog 66 #[.agg #[.slice A0_0 l0_0.length c0_0,.slice A0_1 l0_1.length c0_1,.slice A0_2 l0_2.length c0_2],.int .i64 (if hi = true then 1 else 0)] w fun e w'=>∃ v0_ : Value,e = .returned (.tuple #[v0_,.bool r2])∧Kd.R (Kd.int .i64) 3 w' w.heap.size (fun _=>True) v0_ r1∧Below w.heap.size w w':=by
 have hus:=Tryz.underlying80
 have hun:=Tryz.underlying25
 have hmf : ∀ (fn : Fn) (first cap : Array Value) (w : World),(Instr.makeFunc fn first cap).run Tryz.prog w = .ok (.func fn first cap) w:=fun _ _ _ _=>rfl
 unfold cutH.f at h
 obtain ⟨ps,hps,h⟩:=obm h
 by_cases hpl : ps.length < 1000000
 rotate_left
 ·rw [if_neg hpl] at h;cases h
 rw [if_pos hpl] at h
 obtain ⟨r,hr,h⟩:=obm h
 have h:=Option.some.inj h
 obtain ⟨htot,hfm⟩:=firstT_total hr
 have H1:=am hps
 have H2:=am htot
 have H3:=am hfm
 have H4:=am h
 have H5:=am hpl
 have HR0:=am hr0_0
 have HC0:=am hc0_0
 have HR1:=am hr0_1
 have HC1:=am hc0_1
 have HR2:=am hr0_2
 have HC2:=am hc0_2
 have HB:=am (Below.refl w.heap.size w)
 clear hps htot hfm h hpl hr hr0_0 hc0_0 hr0_1 hc0_1 hr0_2 hc0_2
 obtain ⟨av,hav⟩ : ∃ z : Int,(if hi = true then 1 else 0) = z:=⟨_,rfl⟩
 have HAV:=am hav
 rw [hav]
 clear hav
 go_enter Tryz.func66,Tryz.ntmps66
 go_wp2_with (first | ((refine ga_dst (N:=2) rfl ?_);(try (refine ga_guard (by rfl) ?_;dsimp only));refine box_event rfl (N:=2) rfl (cs:=#[.slice A0_0 l0_0.length c0_0,.slice A0_1 l0_1.length c0_1,.slice A0_2 l0_2.length c0_2]) (t:=80) ?hr ?_;(case hr=>go_simp;try rfl);intro gs hg w1 hbox hb;replace HR0:=(cmv HR0 hb);replace HR1:=(cmv HR1 hb);replace HR2:=(cmv HR2 hb);replace HB:=(bmv HB hb);clear hg;have BKgs:=am hbox;clear hbox;(try clear hczgs_0 hczgs_1 hczgs_2);obtain ⟨hczgs_0,hczgs_1,hczgs_2⟩:=cO3 BKgs.out;clear hb) | ((refine ga_dst (N:=3) rfl ?_);(try (refine ga_guard (by rfl) ?_;dsimp only));refine box_event rfl (N:=3) rfl (cs:=#[.int .i64 av]) (t:=3) ?hr ?_;(case hr=>go_simp;try rfl);intro ga hg w2 hbox hb;replace HR0:=(cmv HR0 hb);replace HR1:=(cmv HR1 hb);replace HR2:=(cmv HR2 hb);replace HB:=(bmv HB hb);replace BKgs:=(kmv hb BKgs);clear hg;have BKga:=am hbox;clear hbox;(try clear hczgs_0 hczgs_1 hczgs_2);obtain ⟨hczgs_0,hczgs_1,hczgs_2⟩:=cO3 BKgs.out;(try clear hczga_0);have hczga_0:=cO1 BKga.out;clear hb) | (go_at_call 105;(refine (ga_points.calls k A0_0 c0_0 l0_0 A0_1 c0_1 l0_1 ps _ HR0.out HC0.out HR1.out HC1.out H1.out).mono ?_);rintro e w3 ⟨v9,rfl,hr9,hb⟩;replace HR0:=(cmv HR0 hb);replace HR1:=(cmv HR1 hb);replace HR2:=(cmv HR2 hb);replace HB:=(bmv HB hb);replace BKgs:=(kmv hb BKgs);replace BKga:=(kmv hb BKga);(try clear hczgs_0 hczgs_1 hczgs_2);obtain ⟨hczgs_0,hczgs_1,hczgs_2⟩:=cO3 BKgs.out;(try clear hczga_0);have hczga_0:=cO1 BKga.out;obtain ⟨Ap,cp,rfl,hlp,hCp⟩:=Kd.R_reads hr9;have HCp:=am hCp;clear hr9 hlp hCp;clear hb) | (go_at_call 75;(refine (ga_shortest.calls Ap ps.length cp _).mono ?_);rintro e w4 ⟨gl,rfl,hbl,hgl,hb⟩;replace HR0:=(cmv HR0 hb);replace HR1:=(cmv HR1 hb);replace HR2:=(cmv HR2 hb);replace HB:=(bmv HB hb);replace BKgs:=(kmv hb BKgs);replace BKga:=(kmv hb BKga);replace HCp:=(cmv HCp hb);(try clear hczgs_0 hczgs_1 hczgs_2);obtain ⟨hczgs_0,hczgs_1,hczgs_2⟩:=cO3 BKgs.out;(try clear hczga_0);have hczga_0:=cO1 BKga.out;have BL:=am hbl;clear hbl hgl;clear hb) | (go_at_call 74;refine (first_calls 110 #[.pointer (some ⟨gl,0,none⟩)] (enters_of Tryz.func110 (by kernel_rfl) rfl) 106 #[.pointer (some ⟨gs,0,none⟩),.pointer (some ⟨ga,0,none⟩)] (enters_of Tryz.func106 (by kernel_rfl) rfl) _ (shortestOf ps) (fun l=>l ∈ shortestOf ps) (cutq.f k l0_0 l0_1 l0_2 hi) r _ (shortest_stops gl Ap cp ps _ _ BL.out HCp.out H5.out (fun y hy=>hy) 8) (fun x W hb hok=>by obtain ⟨b,hb2⟩:=H2.out x.1 hok.1;exact ⟨b,hb2,cutq.calls k gs ga A0_0 c0_0 l0_0 A0_1 c0_1 l0_1 A0_2 c0_2 l0_2 hi x.2.1 x.2.2 x.1 b W (blk_below BKgs.out hb) (by rw [HAV.out];exact blk_below BKga.out hb) (kC HR0.out hb) HC0.out (kC HR1.out hb) HC1.out (kC HR2.out hb) HC2.out hok.2.2.1 hok.2.1 hb2⟩) H3.out).mono ?_;rintro e w5 ⟨hres,hb⟩;have hB2:=below_then HB.out HB.out.size hb;have hB3:=HB.out.size;obtain ⟨v0,hv0,hRv⟩:=first_res hres H4.out hB3;subst hv0;clear hres hb))
 go_ret2
 exact ⟨v0,rfl,hRv,hB2⟩
theorem gs_cut.calls (k : Nat) (A0_0 : Option Addr) (c0_0 : Nat) (l0_0 : List S37) (A0_1 : Option Addr) (c0_1 : Nat) (l0_1 : List S65) (A0_2 : Option Addr) (c0_2 : Nat) (l0_2 : List Int) (a1 : Int) (r1 : List Int) (r2 : Bool) (w : World) (hr0_0 : Kd.C k37 w A0_0 l0_0.length l0_0) (hc0_0 : l0_0.length≤c0_0) (hr0_1 : Kd.C k65 w A0_1 l0_1.length l0_1) (hc0_1 : l0_1.length≤c0_1) (hr0_2 : Kd.C (Kd.int .i64) w A0_2 l0_2.length l0_2) (hc0_2 : l0_2.length≤c0_2) (h : gs_cut.f k l0_0 l0_1 l0_2 a1 = some (r1,r2)) :
 Calls Tryz.prog 66 #[.agg #[.slice A0_0 l0_0.length c0_0,.slice A0_1 l0_1.length c0_1,.slice A0_2 l0_2.length c0_2],.int .i64 a1] w fun e w'=>∃ v0_ : Value,e = .returned (.tuple #[v0_,.bool r2])∧Kd.R (Kd.int .i64) 3 w' w.heap.size (fun _=>True) v0_ r1∧Below w.heap.size w w':=by
 unfold gs_cut.f at h
 split at h
 ·subst a1;exact cutH.calls k A0_0 c0_0 l0_0 A0_1 c0_1 l0_1 A0_2 c0_2 l0_2 false r1 r2 w hr0_0 hc0_0 hr0_1 hc0_1 hr0_2 hc0_2 h
 ·split at h
  ·subst a1;exact cutH.calls k A0_0 c0_0 l0_0 A0_1 c0_1 l0_1 A0_2 c0_2 l0_2 true r1 r2 w hr0_0 hc0_0 hr0_1 hc0_1 hr0_2 hc0_2 h
  ·cases h
def ga_surely.f (k : Nat) (l0_0 : List (S37)) (l0_1 : List (S65)) (l1 : List Int) : Option (Bool):=(gs_cut.f k l0_0 l0_1 l1 0).bind fun bt148=>(some (!bt148.2))
theorem ga_surely.calls (k : Nat) (A0_0 : Option Addr) (c0_0 : Nat) (l0_0 : List (S37)) (A0_1 : Option Addr) (c0_1 : Nat) (l0_1 : List (S65)) (A1 : Option Addr) (c1 : Nat) (l1 : List Int) (r : Bool) (w : World) (hr0_0 : Kd.C k37 w A0_0 l0_0.length l0_0) (hc0_0 : l0_0.length≤c0_0) (hr0_1 : Kd.C k65 w A0_1 l0_1.length l0_1) (hc0_1 : l0_1.length≤c0_1) (hr1 : Kd.C (Kd.int .i64) w A1 l1.length l1) (hc1 : l1.length≤c1) (h : ga_surely.f k l0_0 l0_1 l1 = some r) :
 Calls Tryz.prog 65 #[.agg #[.slice A0_0 l0_0.length c0_0,.slice A0_1 l0_1.length c0_1],.slice A1 l1.length c1] w fun e w'=>e = .returned (.bool r)∧Below w.heap.size w w':=by
 have hu25:=Tryz.underlying25
 have hu80:=Tryz.underlying80
 have HR0_0:=am hr0_0
 have HC0_0:=am hc0_0
 clear hr0_0 hc0_0
 have HR0_1:=am hr0_1
 have HC0_1:=am hc0_1
 clear hr0_1 hc0_1
 have HR1:=am hr1
 have HC1:=am hc1
 clear hr1 hc1
 have HB:=am (Below.refl w.heap.size w)
 have H : ((gs_cut.f k l0_0 l0_1 l1 0).bind fun bt148=>(some (!bt148.2))) = some r:=h
 clear h
 replace H:=obm H
 obtain ⟨⟨t148,t151⟩,A30,H⟩:=H
 replace H : (some (!t151)) = some r:=H
 have A3:=am A30
 clear A30
 obtain rfl:=Option.some.inj H
 go_enter Tryz.func65,Tryz.ntmps65
 go_wp2_with (first | ((refine ga_dst (N:=2) rfl ?_);refine box_event rfl (N:=2) rfl (cs:=#[.slice A0_0 l0_0.length c0_0,.slice A0_1 l0_1.length c0_1]) (t:=25) ?hr ?_;(case hr=>go_simp;try rfl);intro gb147 hg w4 hbox hb;have BK147:=am (hbox);have GW147:=am (ge_new (HB.out) hg);have GE147:=am (ge_new (HB.out) hg);replace HB:=am (below_step (HB.out) hb);clear hb hbox hg;obtain ⟨hcz5_0,hcz5_1⟩:=cO2 BK147.out) | ((with_reducible refine ga_callee (f:=66) rfl ?_);refine goesL_ (some 11) rfl rfl Tryz.func66 (by kernel_rfl) rfl #[.agg #[.slice A0_0 l0_0.length c0_0,.slice A0_1 l0_1.length c0_1,.slice A1 l1.length c1],.int .i64 0] rfl (by (try simp only [List.map_toArray,List.map_cons,List.map_nil]);first | done | rfl | (simp only [List.length_drop,List.length_take];rfl)) ?_;(refine (gs_cut.calls k _ _ l0_0 _ _ l0_1 _ _ l1 0 t148 t151 _ ?side1 ?side2 ?side3 ?side4 ?side5 ?side6 A3.out).mono ?_);(case side1=>exact kC HR0_0.out HB.out);(case side2=>exact HC0_0.out);(case side3=>exact kC HR0_1.out HB.out);(case side4=>exact HC0_1.out);(case side5=>exact kC HR1.out HB.out);(case side6=>exact HC1.out);rintro e w6 ⟨v149,rfl,ho0,hb⟩;refine ⟨_,rfl,?_⟩;have HO150:=am (Kd.R_lower ho0 (below_size (HB.out)));replace BK147:=(kmv hb BK147);replace HB:=am (below_step (HB.out) hb);(try clear hb);(try clear hb2);(try clear hk);(try clear hi);(try clear ho0)))
 go_ret
 exact ⟨by first | rfl | (simp [*]<;>rfl),HB.out⟩
def ga_in.f (a0 : Int) (a1 : Int) (a2 : Int) : Option (Bool):=if a0 ≥ a1 then (some (decide (a0≤a2))) else (some false)
theorem ga_in.calls (a0 : Int) (a1 : Int) (a2 : Int) (r : Bool) (w : World) (h : ga_in.f a0 a1 a2 = some r) :
 Calls Tryz.prog 88 #[.int .i64 a0,.int .i64 a1,.int .i64 a2] w fun e w'=>e = .returned (.bool r)∧Drawn0 w w':=by
 have H : (if a0 ≥ a1 then (some (decide (a0≤a2))) else (some false)) = some r:=h
 clear h
 by_cases c4 : a0 ≥ a1
 ·rw [if_pos c4] at H
  have c4b0 : decide (a1≤a0) = true:=decide_eq_true c4
  clear c4
  obtain rfl:=Option.some.inj H
  go_enter Tryz.func88,Tryz.ntmps88
  go_wp2
  go_ret
  exact ⟨by first | rfl | (simp;done) | (simp [*];done),by repeat (first | exact Drawn0.refl _ | apply Drawn0.step)⟩
 ·rw [if_neg c4] at H
  have c4b0 : decide (a1≤a0) = false:=decide_eq_false c4
  clear c4
  obtain rfl:=Option.some.inj H
  go_enter Tryz.func88,Tryz.ntmps88
  go_wp2
  go_ret
  exact ⟨by first | rfl | (simp;done) | (simp [*];done),by repeat (first | exact Drawn0.refl _ | apply Drawn0.step)⟩
def ga_isCups.f (a0 : Int) : Option (Bool):=(ga_in.f a0 0 10000).bind fun t731=>(some t731)
theorem ga_isCups.calls (a0 : Int) (r : Bool) (w : World) (h : ga_isCups.f a0 = some r) :
 Calls Tryz.prog 59 #[.int .i64 a0] w fun e w'=>e = .returned (.bool r)∧Drawn0 w w':=by
 have H : ((ga_in.f a0 0 10000).bind fun t731=>(some t731)) = some r:=h
 clear h
 replace H:=obm H
 obtain ⟨t731,A20,H⟩:=H
 replace H : (some t731) = some r:=H
 have A2:=am A20
 clear A20
 obtain rfl:=Option.some.inj H
 go_enter Tryz.func59,Tryz.ntmps59
 go_wp2_with (first | ((with_reducible refine ga_callee (f:=88) rfl ?_);refine goesL_ (some 4) rfl rfl Tryz.func88 (by kernel_rfl) rfl #[.int .i64 a0,.int .i64 0,.int .i64 10000] rfl (by (try simp only [List.map_toArray,List.map_cons,List.map_nil]);first | done | rfl | (simp only [List.length_drop,List.length_take];rfl)) ?_;(refine (ga_in.calls a0 0 10000 t731 _ A2.out).mono ?_);rintro e w' ⟨rfl,⟨nd,rfl⟩⟩;refine ⟨_,rfl,?_⟩))
 go_ret
 exact ⟨by first | rfl | (simp;done) | (simp [*];done),by repeat (first | exact Drawn0.refl _ | apply Drawn0.step)⟩
def ga_isNet_1.f (a0_0 : Int) (a0_1 : Int) (a0_2 : Int) : Option (Bool):=(ga_isCups.f a0_0).bind fun t733=>(if t733 = true then ((ga_isCups.f a0_1).bind fun t734=>(if t734 = true then (if a0_0 > a0_1 then (some true) else ((ga_isCups.f a0_2).bind fun t735=>(some (!t735)))) else (some true))) else (some true))
theorem ga_isNet_1.calls (a0_0 : Int) (a0_1 : Int) (a0_2 : Int) (r : Bool) (w : World) (h : ga_isNet_1.f a0_0 a0_1 a0_2 = some r) :
 Calls Tryz.prog 100 #[.agg #[.int .i64 a0_0,.int .i64 a0_1,.int .i64 a0_2]] w fun e w'=>e = .returned (.bool r)∧Below w.heap.size w w':=by
 have hu37:=Tryz.underlying37
 have HB:=am (Below.refl w.heap.size w)
 have H : ((ga_isCups.f a0_0).bind fun t733=>(if t733 = true then ((ga_isCups.f a0_1).bind fun t734=>(if t734 = true then (if a0_0 > a0_1 then (some true) else ((ga_isCups.f a0_2).bind fun t735=>(some (!t735)))) else (some true))) else (some true))) = some r:=h
 clear h
 replace H:=obm H
 obtain ⟨t733,A20,H⟩:=H
 replace H : (if t733 = true then ((ga_isCups.f a0_1).bind fun t734=>(if t734 = true then (if a0_0 > a0_1 then (some true) else ((ga_isCups.f a0_2).bind fun t735=>(some (!t735)))) else (some true))) else (some true)) = some r:=H
 have A2:=am A20
 clear A20
 by_cases c3 : t733 = true
 case neg =>
  replace c3:=Bool.eq_false_iff.mpr c3
  subst c3
  replace H : (some true) = some r:=by rw [if_neg (show ¬ (false = true) by decide)] at H;exact H
  obtain rfl:=Option.some.inj H
  go_enter Tryz.func100,Tryz.ntmps100
  go_wp2_with (first | ((refine ga_dst (N:=1) rfl ?_);refine box_event rfl (N:=1) rfl (cs:=#[.int .i64 a0_0,.int .i64 a0_1,.int .i64 a0_2]) (t:=37) ?hr ?_;(case hr=>go_simp;try rfl);intro gb732 hg w14 hbox hb;have BK732:=am (hbox);have GW732:=am (ge_new (HB.out) hg);have GE732:=am (ge_new (HB.out) hg);replace HB:=am (below_step (HB.out) hb);clear hb hbox hg;obtain ⟨hcz15_0,hcz15_1,hcz15_2⟩:=cO3 BK732.out) | ((with_reducible refine ga_callee (f:=59) rfl ?_);refine goesL_ (some 6) rfl rfl Tryz.func59 (by kernel_rfl) rfl #[.int .i64 a0_0] rfl (by (try simp only [List.map_toArray,List.map_cons,List.map_nil]);first | done | rfl | (simp only [List.length_drop,List.length_take];rfl)) ?_;(refine (ga_isCups.calls a0_0 false _ A2.out).mono ?_);rintro e w' ⟨rfl,⟨nd,rfl⟩⟩;refine ⟨_,rfl,?_⟩))
  go_ret
  exact ⟨by first | rfl | (simp [*]<;>rfl),pw_below_drewN HB.out _⟩
 subst c3
 replace H : ((ga_isCups.f a0_1).bind fun t734=>(if t734 = true then (if a0_0 > a0_1 then (some true) else ((ga_isCups.f a0_2).bind fun t735=>(some (!t735)))) else (some true))) = some r:=by rw [if_pos rfl] at H;exact H
 replace H:=obm H
 obtain ⟨t734,A40,H⟩:=H
 replace H : (if t734 = true then (if a0_0 > a0_1 then (some true) else ((ga_isCups.f a0_2).bind fun t735=>(some (!t735)))) else (some true)) = some r:=H
 have A4:=am A40
 clear A40
 by_cases c5 : t734 = true
 case neg =>
  replace c5:=Bool.eq_false_iff.mpr c5
  subst c5
  replace H : (some true) = some r:=by rw [if_neg (show ¬ (false = true) by decide)] at H;exact H
  obtain rfl:=Option.some.inj H
  go_enter Tryz.func100,Tryz.ntmps100
  go_wp2_with (first | ((refine ga_dst (N:=1) rfl ?_);refine box_event rfl (N:=1) rfl (cs:=#[.int .i64 a0_0,.int .i64 a0_1,.int .i64 a0_2]) (t:=37) ?hr ?_;(case hr=>go_simp;try rfl);intro gb732 hg w12 hbox hb;have BK732:=am (hbox);have GW732:=am (ge_new (HB.out) hg);have GE732:=am (ge_new (HB.out) hg);replace HB:=am (below_step (HB.out) hb);clear hb hbox hg;obtain ⟨hcz13_0,hcz13_1,hcz13_2⟩:=cO3 BK732.out) | ((with_reducible refine ga_callee (f:=59) rfl ?_);refine goesL_ (some 6) rfl rfl Tryz.func59 (by kernel_rfl) rfl #[.int .i64 a0_0] rfl (by (try simp only [List.map_toArray,List.map_cons,List.map_nil]);first | done | rfl | (simp only [List.length_drop,List.length_take];rfl)) ?_;(refine (ga_isCups.calls a0_0 true _ A2.out).mono ?_);rintro e w' ⟨rfl,⟨nd,rfl⟩⟩;refine ⟨_,rfl,?_⟩) | (go_at_call 59;(refine (ga_isCups.calls a0_1 false _ A4.out).mono ?_);rintro e w' ⟨rfl,⟨nd,rfl⟩⟩))
  go_ret
  exact ⟨by first | rfl | (simp [*]<;>rfl),pw_below_drewN HB.out _⟩
 subst c5
 replace H : (if a0_0 > a0_1 then (some true) else ((ga_isCups.f a0_2).bind fun t735=>(some (!t735)))) = some r:=by rw [if_pos rfl] at H;exact H
 by_cases c6 : a0_0 > a0_1
 ·rw [if_pos c6] at H
  have c6b0 : decide (a0_1 < a0_0) = true:=decide_eq_true c6
  clear c6
  obtain rfl:=Option.some.inj H
  go_enter Tryz.func100,Tryz.ntmps100
  go_wp2_with (first | ((refine ga_dst (N:=1) rfl ?_);refine box_event rfl (N:=1) rfl (cs:=#[.int .i64 a0_0,.int .i64 a0_1,.int .i64 a0_2]) (t:=37) ?hr ?_;(case hr=>go_simp;try rfl);intro gb732 hg w7 hbox hb;have BK732:=am (hbox);have GW732:=am (ge_new (HB.out) hg);have GE732:=am (ge_new (HB.out) hg);replace HB:=am (below_step (HB.out) hb);clear hb hbox hg;obtain ⟨hcz8_0,hcz8_1,hcz8_2⟩:=cO3 BK732.out) | ((with_reducible refine ga_callee (f:=59) rfl ?_);refine goesL_ (some 6) rfl rfl Tryz.func59 (by kernel_rfl) rfl #[.int .i64 a0_0] rfl (by (try simp only [List.map_toArray,List.map_cons,List.map_nil]);first | done | rfl | (simp only [List.length_drop,List.length_take];rfl)) ?_;(refine (ga_isCups.calls a0_0 true _ A2.out).mono ?_);rintro e w' ⟨rfl,⟨nd,rfl⟩⟩;refine ⟨_,rfl,?_⟩) | (go_at_call 59;(refine (ga_isCups.calls a0_1 true _ A4.out).mono ?_);rintro e w' ⟨rfl,⟨nd,rfl⟩⟩))
  go_ret
  exact ⟨by first | rfl | (simp [*]<;>rfl),pw_below_drewN HB.out _⟩
 ·rw [if_neg c6] at H
  have c6b0 : decide (a0_1 < a0_0) = false:=decide_eq_false c6
  clear c6
  replace H:=obm H
  obtain ⟨t735,A90,H⟩:=H
  replace H : (some (!t735)) = some r:=H
  have A9:=am A90
  clear A90
  obtain rfl:=Option.some.inj H
  go_enter Tryz.func100,Tryz.ntmps100
  go_wp2_with (first | ((refine ga_dst (N:=1) rfl ?_);refine box_event rfl (N:=1) rfl (cs:=#[.int .i64 a0_0,.int .i64 a0_1,.int .i64 a0_2]) (t:=37) ?hr ?_;(case hr=>go_simp;try rfl);intro gb732 hg w10 hbox hb;have BK732:=am (hbox);have GW732:=am (ge_new (HB.out) hg);have GE732:=am (ge_new (HB.out) hg);replace HB:=am (below_step (HB.out) hb);clear hb hbox hg;obtain ⟨hcz11_0,hcz11_1,hcz11_2⟩:=cO3 BK732.out) | ((with_reducible refine ga_callee (f:=59) rfl ?_);refine goesL_ (some 6) rfl rfl Tryz.func59 (by kernel_rfl) rfl #[.int .i64 a0_0] rfl (by (try simp only [List.map_toArray,List.map_cons,List.map_nil]);first | done | rfl | (simp only [List.length_drop,List.length_take];rfl)) ?_;(refine (ga_isCups.calls a0_0 true _ A2.out).mono ?_);rintro e w' ⟨rfl,⟨nd,rfl⟩⟩;refine ⟨_,rfl,?_⟩) | (go_at_call 59;(refine (ga_isCups.calls a0_1 true _ A4.out).mono ?_);rintro e w' ⟨rfl,⟨nd,rfl⟩⟩) | (go_at_call 59;(refine (ga_isCups.calls a0_2 t735 _ A9.out).mono ?_);rintro e w' ⟨rfl,⟨nd,rfl⟩⟩))
  go_ret
  exact ⟨by first | rfl | (simp [*]<;>rfl),pw_below_drewN HB.out _⟩
def Pred_isNet1 (q : S37→Option Bool) (w : World) (xs : List S37) : Prop:=∀ (x : S37) (b : Bool) (W : World) ,x ∈ xs→q x = some b→Below w.heap.size w W→
 Calls Tryz.prog 100 #[.agg #[.int .i64 x.f0.f0,.int .i64 x.f0.f1,.int .i64 x.f1]] W fun e W'=>e = .returned (.bool b)∧Below W.heap.size W W'
theorem idx_isNet1 (q : S37→Option Bool) (A : Option Addr) (c : Nat) (xs : List S37) (r : Int) (w : World) (hr : Kd.C k37 w A xs.length xs) (hp : Pred_isNet1 q w xs) (h : idxM q xs 0 = some r) :
 Calls Tryz.prog 122 #[.slice A xs.length c,.func (.func 100) #[] #[]] w fun e w'=>e = .returned (.int .i64 r)∧Below w.heap.size w w':=by
 have huE:=Tryz.underlying37
 have HR:=Aside0.mk hr
 have HP:=Aside0.mk hp
 have HQ:=Aside0.mk (show idxM q (xs.drop (0 : Int).toNat) 0 = some r from h)
 have hm : xs.length≤9223372036854775807:=Kd.C_max hr
 clear hr hp h
 go_enter Tryz.func122,Tryz.ntmps122
 go_wp2
 go_loopw [5,8] (fun v5 v8 w'=>∃ i : Int,0≤i∧i≤xs.length∧v8 = .int .i64 i∧Aside0 (idxM q (xs.drop i.toNat) i = some r)∧Aside0 (Below w.heap.size w w')) (fun _ v8 _=>xs.length - (intOf v8).toNat)
 case atStart=>exact ⟨0,by omega,by omega,rfl,HQ,⟨Below.refl _ _⟩⟩
 case round =>
  clear HQ
  obtain ⟨i,p1,hi,rfl,HQ,HB⟩:=hrel
  by_cases hlt : i < (xs.length : Int)
  ·obtain ⟨ad,e1,hx0,hx1,hx2⟩:=at_T37 HR.out i p1 hlt
   cases e1
   replace hx0:=(HB.out.cell (wbl hx0)).trans hx0
   replace hx1:=(HB.out.cell (wbl hx1)).trans hx1
   replace hx2:=(HB.out.cell (wbl hx2)).trans hx2
   rcases idxM_step z37 p1 hlt HQ.out with ⟨hq,he⟩ | ⟨hq,hn⟩
   ·have H1:=Aside0.mk hq
    have X1:=Aside0.mk (getD_mem z37 p1 hlt)
    have H2:=Aside0.mk he
    clear hq he
    go_wp2_with (go_at_call 100;refine (HP.out (xs.getD i.toNat z37) _ _ X1.out H1.out HB.out).mono ?_;rintro e W' ⟨rfl,hb⟩)
    go_ret
    exact ⟨ret_int_eq H2.out,below_then HB.out HB.out.size hb⟩
   ·have H1:=Aside0.mk hq
    have X1:=Aside0.mk (getD_mem z37 p1 hlt)
    have H2:=Aside0.mk hn
    clear hq hn
    go_wp2_with (go_at_call 100;refine (HP.out (xs.getD i.toNat z37) _ _ X1.out H1.out HB.out).mono ?_;rintro e W' ⟨rfl,hb⟩)
    go_roundw
    case rel=>exact ⟨i + 1,by omega,by omega,by go_num,H2,⟨below_then HB.out HB.out.size hb⟩⟩
    case measure=>simp [intOf];omega
  ·go_wp2
   go_ret
   exact ⟨ret_int_eq (idxM_end (by omega) HQ.out),HB.out⟩
theorem any_isNet1 (q : S37→Option Bool) (A : Option Addr) (c : Nat) (xs : List S37) (r : Bool) (w : World) (hr : Kd.C k37 w A xs.length xs) (hp : Pred_isNet1 q w xs) (h : anyM q xs = some r) :
 Calls Tryz.prog 102 #[.slice A xs.length c,.func (.func 100) #[] #[]] w fun e w'=>e = .returned (.bool r)∧Below w.heap.size w w':=by
 obtain ⟨j,hj,hd⟩:=idxM_of_anyM q xs 0 r (by omega) h
 have H1:=Aside0.mk hj
 have H2:=Aside0.mk hd
 have HR:=Aside0.mk hr
 have HP:=Aside0.mk hp
 clear hr hp h hj hd
 go_enter Tryz.func102,Tryz.ntmps102
 go_wp2_with (go_at_call 122;refine (idx_isNet1 q _ _ xs j _ HR.out HP.out H1.out).mono ?_;rintro e W' ⟨rfl,hb⟩)
 go_ret
 exact ⟨ret_bool_eq H2.out,hb⟩
def Pred_isNet2 (g : Nat) (q : S65→Option Bool) (w : World) (xs : List S65) : Prop:=∀ (x : S65) (b : Bool) (W : World) ,x ∈ xs→q x = some b→Below w.heap.size w W→
 Calls Tryz.prog 101 #[.agg #[.int .i64 x.f0,.int .i64 x.f1,.int .i64 x.f2,.bool x.f3],.pointer (some ⟨g,0,none⟩)] W fun e W'=>e = .returned (.bool b)∧Below W.heap.size W W'
theorem idx_isNet2 (g : Nat) (q : S65→Option Bool) (A : Option Addr) (c : Nat) (xs : List S65) (r : Int) (w : World) (hr : Kd.C k65 w A xs.length xs) (hp : Pred_isNet2 g q w xs) (h : idxM q xs 0 = some r) :
 Calls Tryz.prog 123 #[.slice A xs.length c,.func (.func 101) #[] #[.pointer (some ⟨g,0,none⟩)]] w fun e w'=>e = .returned (.int .i64 r)∧Below w.heap.size w w':=by
 have huE:=Tryz.underlying65
 have HR:=Aside0.mk hr
 have HP:=Aside0.mk hp
 have HQ:=Aside0.mk (show idxM q (xs.drop (0 : Int).toNat) 0 = some r from h)
 have hm : xs.length≤9223372036854775807:=Kd.C_max hr
 clear hr hp h
 go_enter Tryz.func123,Tryz.ntmps123
 go_wp2
 go_loopw [5,8] (fun v5 v8 w'=>∃ i : Int,0≤i∧i≤xs.length∧v8 = .int .i64 i∧Aside0 (idxM q (xs.drop i.toNat) i = some r)∧Aside0 (Below w.heap.size w w')) (fun _ v8 _=>xs.length - (intOf v8).toNat)
 case atStart=>exact ⟨0,by omega,by omega,rfl,HQ,⟨Below.refl _ _⟩⟩
 case round =>
  clear HQ
  obtain ⟨i,p1,hi,rfl,HQ,HB⟩:=hrel
  by_cases hlt : i < (xs.length : Int)
  ·obtain ⟨ad,e1,hx0,hx1,hx2,hx3⟩:=at_T65 HR.out i p1 hlt
   cases e1
   replace hx0:=(HB.out.cell (wbl hx0)).trans hx0
   replace hx1:=(HB.out.cell (wbl hx1)).trans hx1
   replace hx2:=(HB.out.cell (wbl hx2)).trans hx2
   replace hx3:=(HB.out.cell (wbl hx3)).trans hx3
   rcases idxM_step z65 p1 hlt HQ.out with ⟨hq,he⟩ | ⟨hq,hn⟩
   ·have H1:=Aside0.mk hq
    have X1:=Aside0.mk (getD_mem z65 p1 hlt)
    have H2:=Aside0.mk he
    clear hq he
    go_wp2_with (go_at_call 101;refine (HP.out (xs.getD i.toNat z65) _ _ X1.out H1.out HB.out).mono ?_;rintro e W' ⟨rfl,hb⟩)
    go_ret
    exact ⟨ret_int_eq H2.out,below_then HB.out HB.out.size hb⟩
   ·have H1:=Aside0.mk hq
    have X1:=Aside0.mk (getD_mem z65 p1 hlt)
    have H2:=Aside0.mk hn
    clear hq hn
    go_wp2_with (go_at_call 101;refine (HP.out (xs.getD i.toNat z65) _ _ X1.out H1.out HB.out).mono ?_;rintro e W' ⟨rfl,hb⟩)
    go_roundw
    case rel=>exact ⟨i + 1,by omega,by omega,by go_num,H2,⟨below_then HB.out HB.out.size hb⟩⟩
    case measure=>simp [intOf];omega
  ·go_wp2
   go_ret
   exact ⟨ret_int_eq (idxM_end (by omega) HQ.out),HB.out⟩
theorem any_isNet2 (g : Nat) (q : S65→Option Bool) (A : Option Addr) (c : Nat) (xs : List S65) (r : Bool) (w : World) (hr : Kd.C k65 w A xs.length xs) (hp : Pred_isNet2 g q w xs) (h : anyM q xs = some r) :
 Calls Tryz.prog 103 #[.slice A xs.length c,.func (.func 101) #[] #[.pointer (some ⟨g,0,none⟩)]] w fun e w'=>e = .returned (.bool r)∧Below w.heap.size w w':=by
 obtain ⟨j,hj,hd⟩:=idxM_of_anyM q xs 0 r (by omega) h
 have H1:=Aside0.mk hj
 have H2:=Aside0.mk hd
 have HR:=Aside0.mk hr
 have HP:=Aside0.mk hp
 clear hr hp h hj hd
 go_enter Tryz.func103,Tryz.ntmps103
 go_wp2_with (go_at_call 123;refine (idx_isNet2 g q _ _ xs j _ HR.out HP.out H1.out).mono ?_;rintro e W' ⟨rfl,hb⟩)
 go_ret
 exact ⟨ret_bool_eq H2.out,hb⟩
def ga_isPoint.f (l0_0 : List (S37)) (l0_1 : List (S65)) (a1 : Int) : Option (Bool):=(ga_in.f a1 0 (wrap64 ((l0_0.length : Int) - 1))).bind fun t171=>(some t171)
theorem ga_isPoint.calls (A0_0 : Option Addr) (c0_0 : Nat) (l0_0 : List (S37)) (A0_1 : Option Addr) (c0_1 : Nat) (l0_1 : List (S65)) (a1 : Int) (r : Bool) (w : World) (hr0_0 : Kd.C k37 w A0_0 l0_0.length l0_0) (hc0_0 : l0_0.length≤c0_0) (hr0_1 : Kd.C k65 w A0_1 l0_1.length l0_1) (hc0_1 : l0_1.length≤c0_1) (h : ga_isPoint.f l0_0 l0_1 a1 = some r) :
 Calls Tryz.prog 70 #[.agg #[.slice A0_0 l0_0.length c0_0,.slice A0_1 l0_1.length c0_1],.int .i64 a1] w fun e w'=>e = .returned (.bool r)∧Below w.heap.size w w':=by
 have hu25:=Tryz.underlying25
 have HR0_0:=am hr0_0
 have HC0_0:=am hc0_0
 clear hr0_0 hc0_0
 have HR0_1:=am hr0_1
 have HC0_1:=am hc0_1
 clear hr0_1 hc0_1
 have HB:=am (Below.refl w.heap.size w)
 have H : ((ga_in.f a1 0 (wrap64 ((l0_0.length : Int) - 1))).bind fun t171=>(some t171)) = some r:=h
 clear h
 replace H:=obm H
 obtain ⟨t171,A30,H⟩:=H
 replace H : (some t171) = some r:=H
 have A3:=am A30
 clear A30
 obtain rfl:=Option.some.inj H
 go_enter Tryz.func70,Tryz.ntmps70
 go_wp2_with (first | ((refine ga_dst (N:=2) rfl ?_);refine box_event rfl (N:=2) rfl (cs:=#[.slice A0_0 l0_0.length c0_0,.slice A0_1 l0_1.length c0_1]) (t:=25) ?hr ?_;(case hr=>go_simp;try rfl);intro gb170 hg w4 hbox hb;have BK170:=am (hbox);have GW170:=am (ge_new (HB.out) hg);have GE170:=am (ge_new (HB.out) hg);replace HB:=am (below_step (HB.out) hb);clear hb hbox hg;obtain ⟨hcz5_0,hcz5_1⟩:=cO2 BK170.out) | ((with_reducible refine ga_callee (f:=88) rfl ?_);refine goesL_ (some 10) rfl rfl Tryz.func88 (by kernel_rfl) rfl #[.int .i64 a1,.int .i64 0,.int .i64 (wrap64 ((l0_0.length : Int) - 1))] rfl (by (try simp only [List.map_toArray,List.map_cons,List.map_nil]);first | done | rfl | (simp only [List.length_drop,List.length_take];rfl)) ?_;(refine (ga_in.calls a1 0 (wrap64 ((l0_0.length : Int) - 1)) t171 _ A3.out).mono ?_);rintro e w' ⟨rfl,⟨nd,rfl⟩⟩;refine ⟨_,rfl,?_⟩))
 go_ret
 exact ⟨by first | rfl | (simp [*]<;>rfl),pw_below_drewN HB.out _⟩
def ga_gates.l0 : Nat→List Int→List (S65)→Int→Int→Option (List Int)
 | 0,_,_,_,_=>none
 | k + 1,x3,x7,x8,x9=>if x9 < x8 then (if 0≤x9 then (if x9 < (x7.length : Int) then (if (rd_T65 x7 x9).f3 = true then (if x3.length < 17592186044416 then (ga_gates.l0 k (x3 ++ [x9]) x7 x8 (wrap64 (x9 + 1))) else (none)) else (ga_gates.l0 k x3 x7 x8 (wrap64 (x9 + 1)))) else (none)) else (none)) else (some x3)
def ga_gates.f (k : Nat) (l0_0 : List (S37)) (l0_1 : List (S65)) : Option (List Int):=ga_gates.l0 k ([] : List Int) l0_1 (l0_1.length : Int) 0
theorem ga_gates.calls (k : Nat) (A0_0 : Option Addr) (c0_0 : Nat) (l0_0 : List (S37)) (A0_1 : Option Addr) (c0_1 : Nat) (l0_1 : List (S65)) (r : List Int) (w : World) (hr0_0 : Kd.C k37 w A0_0 l0_0.length l0_0) (hc0_0 : l0_0.length≤c0_0) (hr0_1 : Kd.C k65 w A0_1 l0_1.length l0_1) (hc0_1 : l0_1.length≤c0_1) (h : ga_gates.f k l0_0 l0_1 = some r) :
 Calls Tryz.prog 76 #[.agg #[.slice A0_0 l0_0.length c0_0,.slice A0_1 l0_1.length c0_1]] w fun e w'=>∃ v0_ : Value,e = .returned (v0_)∧Kd.R (Kd.int .i64) 3 w' w.heap.size (fun _=>True) v0_ r∧Below w.heap.size w w':=by
 have hu25:=Tryz.underlying25
 have hu65:=Tryz.underlying65
 have HR0_0:=am hr0_0
 have HC0_0:=am hc0_0
 clear hr0_0 hc0_0
 have HR0_1:=am hr0_1
 have HC0_1:=am hc0_1
 clear hr0_1 hc0_1
 have HB:=am (Below.refl w.heap.size w)
 have H : (ga_gates.l0 k ([] : List Int) l0_1 (l0_1.length : Int) 0) = some r:=h
 clear h
 replace H':=am H
 go_enter Tryz.func76,Tryz.ntmps76
 go_wp2_with (first | ((refine ga_dst (N:=1) rfl ?_);refine box_event rfl (N:=1) rfl (cs:=#[.slice A0_0 l0_0.length c0_0,.slice A0_1 l0_1.length c0_1]) (t:=25) ?hr ?_;(case hr=>go_simp;try rfl);intro gb102 hg w2 hbox hb;have BK102:=am (hbox);have GW102:=am (ge_new (HB.out) hg);have GE102:=am (ge_new (HB.out) hg);replace HB:=am (below_step (HB.out) hb);clear hb hbox hg;obtain ⟨hcz3_0,hcz3_1⟩:=cO2 BK102.out))
 go_loopg [3,9] k (fun kq v3 v9 w'=>∃ (x3_1 : List Int) (x9_1 : Int),v9 = .int .i64 x9_1∧Aside0 (ga_gates.l0 kq x3_1 l0_1 (l0_1.length : Int) x9_1 = some r)∧Aside0 (kq≤k)∧Aside0 (Kd.R (Kd.int .i64) 3 w' w.heap.size (fun _=>True) v3 x3_1)∧Aside0 (w'.heap[gb102]? = some (.cells #[(.slice A0_0 l0_0.length c0_0),(.slice A0_1 l0_1.length c0_1)] 25 (0,0)))∧Aside0 (Below w.heap.size w w'))
 case atStart=>exact ⟨(([] : List Int)),(0),(by first | rfl | (simp;done) | (simp [*];done)),H',⟨Nat.le_refl _⟩,⟨by first | exact Kd.R_nil _ _ _ _ _ | exact Kd.N_nil _ _ _ _ _ | exact Kd.V_nil _ _ _ _ _ | exact Kd.Q_nil _ _ _ _ _ | exact Kd.S_nil _ _ _ _ _⟩,⟨BK102.out⟩,⟨HB.out⟩⟩
 case round =>
  clear H'
  obtain ⟨x3_1,x9_1,rfl,HA,HK1,HO_3,BK102,HB⟩:=hrel
  cases gk with
  | zero=>exact absurd HA.out (by simp [ga_gates.l0])
  | succ k1 =>
   have H:=HA.out
   clear HA
   simp only [ga_gates.l0] at H
   by_cases c4 : x9_1 < (l0_1.length : Int)
   case neg =>
    rw [if_neg c4] at H
    have c4b0 : decide (x9_1 < (l0_1.length : Int)) = false:=decide_eq_false c4
    clear c4
    obtain rfl:=Option.some.inj H
    go_wp2
    go_ret
    exact ⟨_,by first | rfl | (simp [*]<;>rfl),by (with_reducible repeat (first | apply Kd.R_alloc | apply Kd.R_drewN | apply Kd.R_drew));exact HO_3.out,HB.out⟩
   rw [if_pos c4] at H
   have c4b0 : decide (x9_1 < (l0_1.length : Int)) = true:=decide_eq_true c4
   clear c4
   by_cases c5 : 0≤x9_1
   case neg =>
    rw [if_neg c5] at H
    exact absurd H (by simp)
   rw [if_pos c5] at H
   have c5b0 : decide (0≤x9_1) = true:=decide_eq_true c5
   clear c5
   by_cases c6 : x9_1 < (l0_1.length : Int)
   case neg =>
    rw [if_neg c6] at H
    exact absurd H (by simp)
   rw [if_pos c6] at H
   have c6b0 : decide (x9_1 < (l0_1.length : Int)) = true:=decide_eq_true c6
   clear c6
   obtain ⟨bq7,hbq7⟩ : ∃ b_ : Bool,b_ = ((rd_T65 l0_1 x9_1).f3):=⟨_,rfl⟩
   replace H : (if bq7 = true then (if x3_1.length < 17592186044416 then (ga_gates.l0 k1 (x3_1 ++ [x9_1]) l0_1 (l0_1.length : Int) (wrap64 (x9_1 + 1))) else (none)) else (ga_gates.l0 k1 x3_1 l0_1 (l0_1.length : Int) (wrap64 (x9_1 + 1)))) = some r:=by rw [← hbq7] at H;exact H
   have Nbq7:=am hbq7
   clear hbq7
   by_cases c8 : bq7 = true
   case neg =>
    replace c8:=Bool.eq_false_iff.mpr c8
    subst c8
    replace H : (ga_gates.l0 k1 x3_1 l0_1 (l0_1.length : Int) (wrap64 (x9_1 + 1))) = some r:=by rw [if_neg (show ¬ (false = true) by decide)] at H;exact H
    replace H':=am H
    have p103 : 0≤(x9_1 : Int):=of_decide_eq_true (by assumption)
    have q103 : x9_1 < (l0_1.length : Int):=of_decide_eq_true (by assumption)
    obtain ⟨ad103,e103,hx103_0,hx103_1,hx103_2,hx103_3⟩:=at_T65 HR0_1.out x9_1 p103 q103
    (try rw [← Nbq7.out] at hx103_3)
    cases e103
    replace hx103_0:=(HB.out.cell (wbl hx103_0)).trans hx103_0
    replace hx103_1:=(HB.out.cell (wbl hx103_1)).trans hx103_1
    replace hx103_2:=(HB.out.cell (wbl hx103_2)).trans hx103_2
    replace hx103_3:=(HB.out.cell (wbl hx103_3)).trans hx103_3
    replace p103:=eq_true p103
    replace q103:=eq_true q103
    go_wp2_with (first | ((refine ga_dst (N:=5) rfl ?_);refine box_event rfl (N:=5) rfl (cs:=#[.int .i64 0,.int .i64 0,.int .i64 0,.bool false]) (t:=65) ?hr ?_;(case hr=>go_simp;try rfl);intro gb104 hg w14 hbox hb;have BK104:=am (hbox);have GW104:=am (ge_new (HB.out) hg);have GE104:=am (ge_new (HB.out) hg);have NB102_104:=am (ne_new BK102.out hg);have NB104_102:=am (ne_new2 BK102.out hg);replace HO_3:=am (Kd.R_below HO_3.out hb);replace BK102:=(kmv hb BK102);replace HB:=am (below_step (HB.out) hb);clear hb hbox hg;have hnb15:=NB104_102.out;have hnc15:=NB102_104.out;obtain ⟨hcz16_0,hcz16_1,hcz16_2,hcz16_3⟩:=cO4 BK104.out;have hfz16_0:=blk_frozen BK104.out 0;have hfz16_1:=blk_frozen BK104.out 1;have hfz16_2:=blk_frozen BK104.out 2;have hfz16_3:=blk_frozen BK104.out 3))
    go_roundg k1
    case measure=>have:=HK1.out;omega
    case rel=>exact ⟨(x3_1),(wrap64 (x9_1 + 1)),(by first | rfl | (simp;done) | (simp [*];done)),H',⟨by have:=HK1.out;omega⟩,⟨by (with_reducible repeat (first | apply Kd.R_alloc | apply Kd.R_drewN | apply Kd.R_drew));exact Kd.R_mono (Kd.R_far (p:=⟨gb104,3,none⟩) (Kd.R_far (p:=⟨gb104,2,none⟩) (Kd.R_far (p:=⟨gb104,1,none⟩) (Kd.R_far (p:=⟨gb104,0,none⟩) (Kd.R_types HO_3.out BK104.out (by decide)) (fun _ hk=>hk.2) (.int .i64 ((rd_T65 l0_1 x9_1).f0))) (fun _ hk=>hk.2) (.int .i64 ((rd_T65 l0_1 x9_1).f1))) (fun _ hk=>hk.2) (.int .i64 ((rd_T65 l0_1 x9_1).f2))) (fun _ hk=>hk.2) (.bool false)) (fun _ hk=>trivial)⟩,⟨(blk_far (blk_far (blk_far (blk_far BK102.out NB102_104.out _) NB102_104.out _) NB102_104.out _) NB102_104.out _)⟩,⟨by repeat (first | (with_reducible first | exact HB.out | refine below_set ?_ (Aside0.out (by assumption)) | apply below_alloc | apply pw_below_drewN) | exact HB.out)⟩⟩
   subst c8
   replace H : (if x3_1.length < 17592186044416 then (ga_gates.l0 k1 (x3_1 ++ [x9_1]) l0_1 (l0_1.length : Int) (wrap64 (x9_1 + 1))) else (none)) = some r:=by rw [if_pos rfl] at H;exact H
   by_cases c9 : x3_1.length < 17592186044416
   case neg =>
    rw [if_neg c9] at H
    exact absurd H (by simp)
   rw [if_pos c9] at H
   have LMc9:=am c9
   clear c9
   obtain ⟨y105,hy105⟩ : ∃ y_ : List Int,y_ = (x3_1 ++ [x9_1]):=⟨_,rfl⟩
   replace H : (ga_gates.l0 k1 y105 l0_1 (l0_1.length : Int) (wrap64 (x9_1 + 1))) = some r:=by first | (rw [hy105];with_reducible exact H) | (have H2_:=(Option.bind_some _ _).symm.trans H;rw [hy105];with_reducible exact H2_) | (have H2_:=(Option.bind_some _ _).symm.trans H;with_reducible exact H2_) | with_reducible exact H | (rw [hy105];exact H) | exact H
   have Ny105:=am hy105
   clear hy105
   replace H':=am H
   have p103 : 0≤(x9_1 : Int):=of_decide_eq_true (by assumption)
   have q103 : x9_1 < (l0_1.length : Int):=of_decide_eq_true (by assumption)
   obtain ⟨ad103,e103,hx103_0,hx103_1,hx103_2,hx103_3⟩:=at_T65 HR0_1.out x9_1 p103 q103
   (try rw [← Nbq7.out] at hx103_3)
   cases e103
   replace hx103_0:=(HB.out.cell (wbl hx103_0)).trans hx103_0
   replace hx103_1:=(HB.out.cell (wbl hx103_1)).trans hx103_1
   replace hx103_2:=(HB.out.cell (wbl hx103_2)).trans hx103_2
   replace hx103_3:=(HB.out.cell (wbl hx103_3)).trans hx103_3
   replace p103:=eq_true p103
   replace q103:=eq_true q103
   go_wp2_with (first | ((refine ga_dst (N:=5) rfl ?_);refine box_event rfl (N:=5) rfl (cs:=#[.int .i64 0,.int .i64 0,.int .i64 0,.bool false]) (t:=65) ?hr ?_;(case hr=>go_simp;try rfl);intro gb104 hg w10 hbox hb;have BK104:=am (hbox);have GW104:=am (ge_new (HB.out) hg);have GE104:=am (ge_new (HB.out) hg);have NB102_104:=am (ne_new BK102.out hg);have NB104_102:=am (ne_new2 BK102.out hg);replace HO_3:=am (Kd.R_below HO_3.out hb);replace BK102:=(kmv hb BK102);replace HB:=am (below_step (HB.out) hb);clear hb hbox hg;have hnb11:=NB104_102.out;have hnc11:=NB102_104.out;obtain ⟨hcz12_0,hcz12_1,hcz12_2,hcz12_3⟩:=cO4 BK104.out;have hfz12_0:=blk_frozen BK104.out 0;have hfz12_1:=blk_frozen BK104.out 1;have hfz12_2:=blk_frozen BK104.out 2;have hfz12_3:=blk_frozen BK104.out 3) | ((with_reducible refine ga_builtin (b:=.append) (xs:=#[.tmp 16,.tmp 18]) rfl ?_);at_builtin;refine Kd.R_append (Kd.int .i64) (w0:=w) w.heap.size rfl (.tmp 16) (.tmp 18) 26 3 (.int .i64 0) 8 rfl Tryz.underlying26 info3 rfl (by decide) (by omega) u3 x3_1 x9_1 [.int .i64 x9_1] (fun _=>True) (fun _=>False) rfl (by first | (go_simp;done) | (go_simp;rfl)) ?aP (fun _ hk=>hk.elim) ?aF ?aO ?aB ?aS ?aL ?_;(case aP=>exact rfl);(case aB=>exact (by repeat (first | (with_reducible first | exact HB.out | refine below_set ?_ (Aside0.out (by assumption)) | apply below_alloc | apply pw_below_drewN) | exact HB.out)));(case aF=>exact (fun _ _=>trivial));(case aO=>exact (Kd.R_mono (Kd.R_far (p:=⟨gb104,3,none⟩) (Kd.R_far (p:=⟨gb104,2,none⟩) (Kd.R_far (p:=⟨gb104,1,none⟩) (Kd.R_far (p:=⟨gb104,0,none⟩) (Kd.R_types HO_3.out BK104.out (by decide)) (fun _ hk=>hk.2) (.int .i64 ((rd_T65 l0_1 x9_1).f0))) (fun _ hk=>hk.2) (.int .i64 ((rd_T65 l0_1 x9_1).f1))) (fun _ hk=>hk.2) (.int .i64 ((rd_T65 l0_1 x9_1).f2))) (fun _ hk=>hk.2) (.bool true)) (fun _ hk=>trivial)));(case aS=>exact (below_size (by repeat (first | (with_reducible first | exact HB.out | refine below_set ?_ (Aside0.out (by assumption)) | apply below_alloc | apply pw_below_drewN) | exact HB.out))));(case aL=>have:=LMc9.out;omega);intro v106 w13 ho hb hg hat;rw [← Ny105.out] at ho;have n0_:=am (blk_grown (g:=gb102) (o:=.cells #[.slice A0_0 l0_0.length c0_0,.slice (some ad103) l0_1.length c0_1] 25 (0,0)) (blk_far (blk_far (blk_far (blk_far BK102.out NB102_104.out _) NB102_104.out _) NB102_104.out _) NB102_104.out _) hg (Kd.R_ne HO_3.out BK102.out (by decide)));have n1_:=am (blk_grown (g:=gb104) (o:=.cells #[.int .i64 ((rd_T65 l0_1 x9_1).f0),.int .i64 ((rd_T65 l0_1 x9_1).f1),.int .i64 ((rd_T65 l0_1 x9_1).f2),.bool true] 65 (0,0)) (blk_put (cs:=#[.int .i64 ((rd_T65 l0_1 x9_1).f0),.int .i64 ((rd_T65 l0_1 x9_1).f1),.int .i64 ((rd_T65 l0_1 x9_1).f2),.bool false]) (blk_put (cs:=#[.int .i64 ((rd_T65 l0_1 x9_1).f0),.int .i64 ((rd_T65 l0_1 x9_1).f1),.int .i64 0,.bool false]) (blk_put (cs:=#[.int .i64 ((rd_T65 l0_1 x9_1).f0),.int .i64 0,.int .i64 0,.bool false]) (blk_put (cs:=#[.int .i64 0,.int .i64 0,.int .i64 0,.bool false]) BK104.out 0 _ rfl) 1 _ rfl) 2 _ rfl) 3 _ rfl) hg (Kd.R_ne HO_3.out BK104.out (by decide)));have n2_:=am (hb);have n3_:=am (ho);clear BK102;clear BK104;clear HB;clear HO_3;have BK102:=n0_;have BK104:=n1_;have HB:=n2_;have HO107:=n3_;clear n0_ n1_ n2_ n3_;clear ho hb hg hat))
   go_roundg k1
   case measure=>have:=HK1.out;omega
   case rel=>exact ⟨(y105),(wrap64 (x9_1 + 1)),(by first | rfl | (simp;done) | (simp [*];done)),H',⟨by have:=HK1.out;omega⟩,⟨by (with_reducible repeat (first | apply Kd.R_alloc | apply Kd.R_drewN | apply Kd.R_drew));exact HO107.out⟩,⟨BK102.out⟩,⟨HB.out⟩⟩
end Go.Proofs.YtclkbedbocnpkaaGreatDoor.C

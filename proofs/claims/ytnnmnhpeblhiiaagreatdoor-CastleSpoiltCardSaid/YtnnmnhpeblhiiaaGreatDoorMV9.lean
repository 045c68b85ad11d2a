/- A part of the proof: the walks of the functions that it reaches. TIGHT. -/
import Derived.Test.YtnnmnhpeblhiiaaGreatDoorMV8
import Derived.Test.YtnnmnhpeblhiiaaGreatDoorMV5
set_option linter.unusedVariables false
set_option linter.unusedSimpArgs false
namespace Go.Proofs.YtnnmnhpeblhiiaaGreatDoor.C
open Go.RowKit Go.Proofs.YtnnmnhpeblhiiaaGreatDoorW.PrintWords Go.Proofs.YtnnmnhpeblhiiaaGreatDoorW.PrintLast Go.Proofs.YtnnmnhpeblhiiaaGreatDoorW.PrintMore
set_option linter.unusedVariables false
set_option linter.unusedSimpArgs false
set_option maxHeartbeats 16000000
set_option maxRecDepth 100000
def ca_Read.f (l0 : List S126) (d : Int) (s : ByteArray) : Option (List S126 × Int × List S48 × Int × Int × Int):=
 if 200 < s.size then some ([],0,[],0,0,3) else match parsedF s with | none=>some ([],0,[],0,0,4) | some x=>(ca_isBasin.f l0 d x.2.2 x.1 x.2.1).bind fun t=>if t = true then some (l0,d,x.2.2,x.1,x.2.1,0) else some ([],0,[],0,0,2)
theorem ca_Read.calls (A0 : Option Addr) (c0 : Nat) (l0 : List S126) (d : Int) (s : ByteArray) (r1 : List S126) (r2 : Int) (r3 : List S48) (r4 r5 r6 : Int) (w : World) (hr0 : Kd.C k126 w A0 l0.length l0) (hc0 : l0.length≤c0) (hl0 : l0.length < 5864062014805) (hsm : s.size≤9223372036854775807) (hg : GV w) (h : ca_Read.f l0 d s = some (r1,r2,r3,r4,r5,r6)) :
 Calls Tryz.prog 50 #[.agg #[.slice A0 l0.length c0,.int .i64 d],.string s] w fun e w'=>∃ v0_ v2_ : Value,e = .returned (.tuple #[.agg #[v0_,.int .i64 r2,v2_,.int .i64 r4,.int .i64 r5],.int .i64 r6])∧Kd.R k126 126 w' w.heap.size (fun _=>True) v0_ r1∧Kd.R k48 48 w' w.heap.size (fun _=>True) v2_ r3∧Below w.heap.size w w':=by
 have hu:=Tryz.underlying27
 have hmf : ∀ (fn : Fn) (first cap : Array Value) (w : World),(Instr.makeFunc fn first cap).run Tryz.prog w = .ok (.func fn first cap) w:=fun _ _ _ _=>rfl
 have HR:=am hr0
 have HC:=am hc0
 have HL:=am hl0
 have HG:=am hg
 have HB:=am (Below.refl w.heap.size w)
 clear hr0 hc0 hl0 hg
 unfold ca_Read.f at h
 by_cases hlong : 200 < s.size
 ·rw [if_pos hlong] at h
  simp only [Option.some.injEq,Prod.mk.injEq] at h
  obtain ⟨rfl,rfl,rfl,rfl,rfl,rfl⟩:=h
  have hd : decide ((200 : Int) < (s.size : Int)) = true:=decide_eq_true (by omega)
  go_enter Tryz.func50,Tryz.ntmps50
  go_wp2_with (first | ((refine gate_dst (N:=2) rfl ?_);(try (refine gate_guard (by rfl) ?_;dsimp only));refine box_event rfl (N:=2) rfl (cs:=#[.slice A0 l0.length c0,.int .i64 d]) (t:=24) ?hr ?_;(case hr=>go_simp;try rfl);intro gt hg w1 hbox hb;replace HR:=(cmv HR hb);replace HB:=(bmv HB hb);replace HG:=am (GV.below HG.out hb);clear hg;have BKgt:=am hbox;clear hbox;(try clear hczgt_0 hczgt_1 hfzgt);obtain ⟨hczgt_0,hczgt_1⟩:=cO2 BKgt.out;have hfzgt:=blk_frozen BKgt.out;clear hb) | ((refine gate_dst (N:=3) rfl ?_);(try (refine gate_guard (by rfl) ?_;dsimp only));refine box_event rfl (N:=3) rfl (cs:=#[.string s]) (t:=9) ?hr ?_;(case hr=>go_simp;try rfl);intro gs hg w2 hbox hb;replace HR:=(cmv HR hb);replace HB:=(bmv HB hb);replace HG:=am (GV.below HG.out hb);replace BKgt:=(kmv hb BKgt);clear hg;have BKgs:=am hbox;clear hbox;(try clear hczgt_0 hczgt_1 hfzgt);obtain ⟨hczgt_0,hczgt_1⟩:=cO2 BKgt.out;have hfzgt:=blk_frozen BKgt.out;(try clear hczgs_0 hfzgs_0);have hczgs_0:=cO1 BKgs.out;have hfzgs_0:=blk_frozen BKgs.out 0;clear hb) | ((refine gate_dst (N:=4) rfl ?_);(try (refine gate_guard (by rfl) ?_;dsimp only));refine box_event rfl (N:=4) rfl (cs:=#[.slice none 0 0,.int .i64 0,.slice none 0 0,.int .i64 0,.int .i64 0]) (t:=27) ?hr ?_;(case hr=>go_simp;try rfl);intro gr hg w3 hbox hb;have HNgt_gr:=am (show gt ≠ gr by have:=blk_lt BKgt.out;omega);have HNgs_gr:=am (show gs ≠ gr by have:=blk_lt BKgs.out;omega);have Ggr:=am (show w.heap.size≤gr by have:=HB.out.size;omega);replace HR:=(cmv HR hb);replace HB:=(bmv HB hb);replace HG:=am (GV.below HG.out hb);replace BKgt:=(kmv hb BKgt);replace BKgs:=(kmv hb BKgs);clear hg;have BKgr:=am hbox;clear hbox;(try clear hczgt_0 hczgt_1 hfzgt);obtain ⟨hczgt_0,hczgt_1⟩:=cO2 BKgt.out;have hfzgt:=blk_frozen BKgt.out;(try clear hczgs_0 hfzgs_0);have hczgs_0:=cO1 BKgs.out;have hfzgs_0:=blk_frozen BKgs.out 0;(try clear hczgr_0 hczgr_1 hczgr_2 hczgr_3 hczgr_4 hfzgr);obtain ⟨hczgr_0,hczgr_1,hczgr_2,hczgr_3,hczgr_4⟩:=cO5 BKgr.out;have hfzgr:=blk_frozen BKgr.out;clear hb))
  refine bodyPost_ret (results_ct rfl _ _ gr 27 #[.slice none 0 0,.int .i64 0,.slice none 0 0,.int .i64 0,.int .i64 0] (0,0) _ rfl ((blk_set (blk_set (blk_set (blk_set (blk_set BKgr.out 0 _) 1 _) 2 _) 3 _) 4 _).trans rfl) Tryz.underlying27 rfl (by kernel_rfl)) rfl ?_
  exact ⟨_,_,rfl,Kd.R_nil _ _ _ _ _,Kd.R_nil _ _ _ _ _,(below_set (below_set (below_set (below_set (below_set HB.out Ggr.out) Ggr.out) Ggr.out) Ggr.out) Ggr.out)⟩
 ·rw [if_neg hlong] at h
  have hd : decide ((200 : Int) < (s.size : Int)) = false:=decide_eq_false (by omega)
  have HSS:=am (show s.size≤1000 by omega)
  obtain ⟨x,hx⟩ : ∃ x,parsedF s = x:=⟨_,rfl⟩
  rw [hx] at h
  have HX:=am hx
  clear hx hlong
  cases x with
  | none =>
   simp only [Option.some.injEq,Prod.mk.injEq] at h
   obtain ⟨rfl,rfl,rfl,rfl,rfl,rfl⟩:=h
   go_enter Tryz.func50,Tryz.ntmps50
   go_wp2_with (first | ((refine gate_dst (N:=2) rfl ?_);(try (refine gate_guard (by rfl) ?_;dsimp only));refine box_event rfl (N:=2) rfl (cs:=#[.slice A0 l0.length c0,.int .i64 d]) (t:=24) ?hr ?_;(case hr=>go_simp;try rfl);intro gt hg w1 hbox hb;replace HR:=(cmv HR hb);replace HB:=(bmv HB hb);replace HG:=am (GV.below HG.out hb);clear hg;have BKgt:=am hbox;clear hbox;(try clear hczgt_0 hczgt_1 hfzgt);obtain ⟨hczgt_0,hczgt_1⟩:=cO2 BKgt.out;have hfzgt:=blk_frozen BKgt.out;clear hb) | ((refine gate_dst (N:=3) rfl ?_);(try (refine gate_guard (by rfl) ?_;dsimp only));refine box_event rfl (N:=3) rfl (cs:=#[.string s]) (t:=9) ?hr ?_;(case hr=>go_simp;try rfl);intro gs hg w2 hbox hb;replace HR:=(cmv HR hb);replace HB:=(bmv HB hb);replace HG:=am (GV.below HG.out hb);replace BKgt:=(kmv hb BKgt);clear hg;have BKgs:=am hbox;clear hbox;(try clear hczgt_0 hczgt_1 hfzgt);obtain ⟨hczgt_0,hczgt_1⟩:=cO2 BKgt.out;have hfzgt:=blk_frozen BKgt.out;(try clear hczgs_0 hfzgs_0);have hczgs_0:=cO1 BKgs.out;have hfzgs_0:=blk_frozen BKgs.out 0;clear hb) | ((refine gate_dst (N:=4) rfl ?_);(try (refine gate_guard (by rfl) ?_;dsimp only));refine box_event rfl (N:=4) rfl (cs:=#[.slice none 0 0,.int .i64 0,.slice none 0 0,.int .i64 0,.int .i64 0]) (t:=27) ?hr ?_;(case hr=>go_simp;try rfl);intro gr hg w3 hbox hb;have HNgt_gr:=am (show gt ≠ gr by have:=blk_lt BKgt.out;omega);have HNgs_gr:=am (show gs ≠ gr by have:=blk_lt BKgs.out;omega);have Ggr:=am (show w.heap.size≤gr by have:=HB.out.size;omega);replace HR:=(cmv HR hb);replace HB:=(bmv HB hb);replace HG:=am (GV.below HG.out hb);replace BKgt:=(kmv hb BKgt);replace BKgs:=(kmv hb BKgs);clear hg;have BKgr:=am hbox;clear hbox;(try clear hczgt_0 hczgt_1 hfzgt);obtain ⟨hczgt_0,hczgt_1⟩:=cO2 BKgt.out;have hfzgt:=blk_frozen BKgt.out;(try clear hczgs_0 hfzgs_0);have hczgs_0:=cO1 BKgs.out;have hfzgs_0:=blk_frozen BKgs.out 0;(try clear hczgr_0 hczgr_1 hczgr_2 hczgr_3 hczgr_4 hfzgr);obtain ⟨hczgr_0,hczgr_1,hczgr_2,hczgr_3,hczgr_4⟩:=cO5 BKgr.out;have hfzgr:=blk_frozen BKgr.out;clear hb) | ((refine gate_dst (N:=6) rfl ?_);(try (refine gate_guard (by rfl) ?_;dsimp only));refine box_event rfl (N:=6) rfl (cs:=#[.slice none 0 0,.int .i64 0,.slice none 0 0,.int .i64 0,.int .i64 0]) (t:=27) ?hr ?_;(case hr=>go_simp;try rfl);intro gx hg w4 hbox hb;have HNgt_gx:=am (show gt ≠ gx by have:=blk_lt BKgt.out;omega);have HNgs_gx:=am (show gs ≠ gx by have:=blk_lt BKgs.out;omega);have HNgr_gx:=am (show gr ≠ gx by have:=blk_lt BKgr.out;omega);have Ggx:=am (show w.heap.size≤gx by have:=HB.out.size;omega);replace HR:=(cmv HR hb);replace HB:=(bmv HB hb);replace HG:=am (GV.below HG.out hb);replace BKgt:=(kmv hb BKgt);replace BKgs:=(kmv hb BKgs);replace BKgr:=(kmv hb BKgr);clear hg;have BKgx:=am hbox;clear hbox;(try clear hczgt_0 hczgt_1 hfzgt);obtain ⟨hczgt_0,hczgt_1⟩:=cO2 BKgt.out;have hfzgt:=blk_frozen BKgt.out;(try clear hczgs_0 hfzgs_0);have hczgs_0:=cO1 BKgs.out;have hfzgs_0:=blk_frozen BKgs.out 0;(try clear hczgr_0 hczgr_1 hczgr_2 hczgr_3 hczgr_4 hfzgr);obtain ⟨hczgr_0,hczgr_1,hczgr_2,hczgr_3,hczgr_4⟩:=cO5 BKgr.out;have hfzgr:=blk_frozen BKgr.out;(try clear hczgx_0 hczgx_1 hczgx_2 hczgx_3 hczgx_4 hfzgx);obtain ⟨hczgx_0,hczgx_1,hczgx_2,hczgx_3,hczgx_4⟩:=cO5 BKgx.out;have hfzgx:=blk_frozen BKgx.out;clear hb;have HNrx:=am (show gr ≠ gx by have h1:=HNgr_gx.out;exact h1)) | (go_at_call 90;refine (attempt_Read_text gt gs gx (ReadN w gr w4.heap.size) w4 (Read1_no w _ gt gs gx gr w4.heap.size A0 c0 l0 d s (below_alloc HB.out _) Ggx.out HNrx.out (blk_alloc BKgt.out _) (blk_alloc BKgs.out _) (blk_alloc BKgx.out _) (blk_alloc BKgr.out _) (blk_new w4 _) (Kd.C_alloc HR.out _) HC.out HL.out HSS.out (GV.below HG.out (below_alloc (Below.refl _ _) _)) HX.out) (fun W' hi=>⟨(blk_cell hi.2.1 0).trans rfl,blk_frozen hi.2.1 0⟩)).mono ?_;rintro e w5 ⟨rfl,s',W',hI,rfl⟩;obtain ⟨b1,b2,hb⟩:=hI;have Ge:=am (show w.heap.size≤w4.heap.size from HB.out.size);have m1:=am (blk_far (p:=⟨w4.heap.size,0,none⟩) (blk_alloc b1 (.cells #[.string s'] 167)) (blk_ne b1 b2 (by decide)) (.int .i64 4));have m2:=am (below_set (j:=0) (v:=.int .i64 4) (below_alloc hb (.cells #[.string s'] 167)) Ge.out);clear b1 b2 hb;generalize (W'.alloc (.cells #[.string s'] 167)).setCell ⟨w4.heap.size,0,none⟩ (.int .i64 4) = w6 at m1 m2 ⊢;(try clear hczgr_0 hfzgr_0 hczgr_1 hfzgr_1 hczgr_2 hfzgr_2 hczgr_3 hfzgr_3 hczgr_4 hfzgr_4);have hczgr_0:=cO1 m1.out;have hfzgr_0:=blk_frozen m1.out 0;have hczgr_1 : w6.cell? ⟨gr,1,none⟩ = some (.int .i64 0):=(blk_cell m1.out 1).trans rfl;have hfzgr_1:=blk_frozen m1.out 1;have hczgr_2 : w6.cell? ⟨gr,2,none⟩ = some (.slice none 0 0):=(blk_cell m1.out 2).trans rfl;have hfzgr_2:=blk_frozen m1.out 2;have hczgr_3 : w6.cell? ⟨gr,3,none⟩ = some (.int .i64 0):=(blk_cell m1.out 3).trans rfl;have hfzgr_3:=blk_frozen m1.out 3;have hczgr_4 : w6.cell? ⟨gr,4,none⟩ = some (.int .i64 0):=(blk_cell m1.out 4).trans rfl;have hfzgr_4:=blk_frozen m1.out 4))
   refine bodyPost_ret (results_ct rfl _ _ gr 27 #[.slice none 0 0,.int .i64 0,.slice none 0 0,.int .i64 0,.int .i64 0] (0,0) _ rfl ((blk_set (blk_set (blk_set (blk_set (blk_set m1.out 0 _) 1 _) 2 _) 3 _) 4 _).trans rfl) Tryz.underlying27 rfl (by kernel_rfl)) rfl ?_
   exact ⟨_,_,rfl,Kd.R_nil _ _ _ _ _,Kd.R_nil _ _ _ _ _,(below_set (below_set (below_set (below_set (below_set m2.out Ggr.out) Ggr.out) Ggr.out) Ggr.out) Ggr.out)⟩
  | some x =>
   dsimp only at h
   obtain ⟨t,ht,h2⟩:=obm h
   clear h
   have HT:=am ht
   clear ht
   cases t with
   | false =>
    rw [if_neg (by decide)] at h2
    simp only [Option.some.injEq,Prod.mk.injEq] at h2
    obtain ⟨rfl,rfl,rfl,rfl,rfl,rfl⟩:=h2
    go_enter Tryz.func50,Tryz.ntmps50
    go_wp2_with (first | ((refine gate_dst (N:=2) rfl ?_);(try (refine gate_guard (by rfl) ?_;dsimp only));refine box_event rfl (N:=2) rfl (cs:=#[.slice A0 l0.length c0,.int .i64 d]) (t:=24) ?hr ?_;(case hr=>go_simp;try rfl);intro gt hg w1 hbox hb;replace HR:=(cmv HR hb);replace HB:=(bmv HB hb);replace HG:=am (GV.below HG.out hb);clear hg;have BKgt:=am hbox;clear hbox;(try clear hczgt_0 hczgt_1 hfzgt);obtain ⟨hczgt_0,hczgt_1⟩:=cO2 BKgt.out;have hfzgt:=blk_frozen BKgt.out;clear hb) | ((refine gate_dst (N:=3) rfl ?_);(try (refine gate_guard (by rfl) ?_;dsimp only));refine box_event rfl (N:=3) rfl (cs:=#[.string s]) (t:=9) ?hr ?_;(case hr=>go_simp;try rfl);intro gs hg w2 hbox hb;replace HR:=(cmv HR hb);replace HB:=(bmv HB hb);replace HG:=am (GV.below HG.out hb);replace BKgt:=(kmv hb BKgt);clear hg;have BKgs:=am hbox;clear hbox;(try clear hczgt_0 hczgt_1 hfzgt);obtain ⟨hczgt_0,hczgt_1⟩:=cO2 BKgt.out;have hfzgt:=blk_frozen BKgt.out;(try clear hczgs_0 hfzgs_0);have hczgs_0:=cO1 BKgs.out;have hfzgs_0:=blk_frozen BKgs.out 0;clear hb) | ((refine gate_dst (N:=4) rfl ?_);(try (refine gate_guard (by rfl) ?_;dsimp only));refine box_event rfl (N:=4) rfl (cs:=#[.slice none 0 0,.int .i64 0,.slice none 0 0,.int .i64 0,.int .i64 0]) (t:=27) ?hr ?_;(case hr=>go_simp;try rfl);intro gr hg w3 hbox hb;have HNgt_gr:=am (show gt ≠ gr by have:=blk_lt BKgt.out;omega);have HNgs_gr:=am (show gs ≠ gr by have:=blk_lt BKgs.out;omega);have Ggr:=am (show w.heap.size≤gr by have:=HB.out.size;omega);replace HR:=(cmv HR hb);replace HB:=(bmv HB hb);replace HG:=am (GV.below HG.out hb);replace BKgt:=(kmv hb BKgt);replace BKgs:=(kmv hb BKgs);clear hg;have BKgr:=am hbox;clear hbox;(try clear hczgt_0 hczgt_1 hfzgt);obtain ⟨hczgt_0,hczgt_1⟩:=cO2 BKgt.out;have hfzgt:=blk_frozen BKgt.out;(try clear hczgs_0 hfzgs_0);have hczgs_0:=cO1 BKgs.out;have hfzgs_0:=blk_frozen BKgs.out 0;(try clear hczgr_0 hczgr_1 hczgr_2 hczgr_3 hczgr_4 hfzgr);obtain ⟨hczgr_0,hczgr_1,hczgr_2,hczgr_3,hczgr_4⟩:=cO5 BKgr.out;have hfzgr:=blk_frozen BKgr.out;clear hb) | ((refine gate_dst (N:=6) rfl ?_);(try (refine gate_guard (by rfl) ?_;dsimp only));refine box_event rfl (N:=6) rfl (cs:=#[.slice none 0 0,.int .i64 0,.slice none 0 0,.int .i64 0,.int .i64 0]) (t:=27) ?hr ?_;(case hr=>go_simp;try rfl);intro gx hg w4 hbox hb;have HNgt_gx:=am (show gt ≠ gx by have:=blk_lt BKgt.out;omega);have HNgs_gx:=am (show gs ≠ gx by have:=blk_lt BKgs.out;omega);have HNgr_gx:=am (show gr ≠ gx by have:=blk_lt BKgr.out;omega);have Ggx:=am (show w.heap.size≤gx by have:=HB.out.size;omega);replace HR:=(cmv HR hb);replace HB:=(bmv HB hb);replace HG:=am (GV.below HG.out hb);replace BKgt:=(kmv hb BKgt);replace BKgs:=(kmv hb BKgs);replace BKgr:=(kmv hb BKgr);clear hg;have BKgx:=am hbox;clear hbox;(try clear hczgt_0 hczgt_1 hfzgt);obtain ⟨hczgt_0,hczgt_1⟩:=cO2 BKgt.out;have hfzgt:=blk_frozen BKgt.out;(try clear hczgs_0 hfzgs_0);have hczgs_0:=cO1 BKgs.out;have hfzgs_0:=blk_frozen BKgs.out 0;(try clear hczgr_0 hczgr_1 hczgr_2 hczgr_3 hczgr_4 hfzgr);obtain ⟨hczgr_0,hczgr_1,hczgr_2,hczgr_3,hczgr_4⟩:=cO5 BKgr.out;have hfzgr:=blk_frozen BKgr.out;(try clear hczgx_0 hczgx_1 hczgx_2 hczgx_3 hczgx_4 hfzgx);obtain ⟨hczgx_0,hczgx_1,hczgx_2,hczgx_3,hczgx_4⟩:=cO5 BKgx.out;have hfzgx:=blk_frozen BKgx.out;clear hb;have HNrx:=am (show gr ≠ gx by have h1:=HNgr_gx.out;exact h1)) | (go_at_call 90;refine (attempt_Read_ok gt gs gx (ReadI w gx gr w4.heap.size l0 d x.2.2 x.1 x.2.1) w4 (Read1_ok w _ gt gs gx gr w4.heap.size A0 c0 l0 d s (below_alloc HB.out _) Ggx.out HNrx.out (blk_alloc BKgt.out _) (blk_alloc BKgs.out _) (blk_alloc BKgx.out _) (blk_alloc BKgr.out _) (blk_new w4 _) (Kd.C_alloc HR.out _) HC.out HL.out HSS.out (GV.below HG.out (below_alloc (Below.refl _ _) _)) x.1 x.2.1 x.2.2 HX.out) (fun W' hi=>by obtain ⟨_,_,_,_,_,_,h3,_⟩:=hi;exact ⟨(blk_cell h3 0).trans rfl,blk_frozen h3 0⟩)).mono ?_;rintro e w5 ⟨rfl,W',hI,rfl⟩;obtain ⟨A1,c1,A2,c2,b1,b2,b3,R1_,R2_,hb⟩:=hI;have Ge:=am (show w.heap.size≤w4.heap.size from HB.out.size);have m1:=am (blk_far (p:=⟨w4.heap.size,0,none⟩) b1 (blk_ne b1 b3 (by decide)) (.int .i64 0));have m2:=am (blk_far (p:=⟨w4.heap.size,0,none⟩) b2 (blk_ne b2 b3 (by decide)) (.int .i64 0));have m3:=am (Kd.R_set R1_ b3 (by decide) 0 (.int .i64 0));have m4:=am (Kd.R_set R2_ b3 (by decide) 0 (.int .i64 0));have m5:=am (below_set (j:=0) (v:=.int .i64 0) hb Ge.out);clear b1 b2 b3 R1_ R2_ hb;generalize W'.setCell ⟨w4.heap.size,0,none⟩ (.int .i64 0) = w6 at m1 m2 m3 m4 m5 ⊢;(try clear hczgx_0 hfzgx_0 hczgx_1 hfzgx_1 hczgx_2 hfzgx_2 hczgx_3 hfzgx_3 hczgx_4 hfzgx_4);have hczgx_0:=cO1 m1.out;have hfzgx_0:=blk_frozen m1.out 0;have hczgx_1 : w6.cell? ⟨gx,1,none⟩ = some (.int .i64 d):=(blk_cell m1.out 1).trans rfl;have hfzgx_1:=blk_frozen m1.out 1;have hczgx_2 : w6.cell? ⟨gx,2,none⟩ = some (.slice A2 x.2.2.length c2):=(blk_cell m1.out 2).trans rfl;have hfzgx_2:=blk_frozen m1.out 2;have hczgx_3 : w6.cell? ⟨gx,3,none⟩ = some (.int .i64 x.1):=(blk_cell m1.out 3).trans rfl;have hfzgx_3:=blk_frozen m1.out 3;have hczgx_4 : w6.cell? ⟨gx,4,none⟩ = some (.int .i64 x.2.1):=(blk_cell m1.out 4).trans rfl;have hfzgx_4:=blk_frozen m1.out 4;(try clear hczgr_0 hfzgr_0 hczgr_1 hfzgr_1 hczgr_2 hfzgr_2 hczgr_3 hfzgr_3 hczgr_4 hfzgr_4);have hczgr_0:=cO1 m2.out;have hfzgr_0:=blk_frozen m2.out 0;have hczgr_1 : w6.cell? ⟨gr,1,none⟩ = some (.int .i64 0):=(blk_cell m2.out 1).trans rfl;have hfzgr_1:=blk_frozen m2.out 1;have hczgr_2 : w6.cell? ⟨gr,2,none⟩ = some (.slice none 0 0):=(blk_cell m2.out 2).trans rfl;have hfzgr_2:=blk_frozen m2.out 2;have hczgr_3 : w6.cell? ⟨gr,3,none⟩ = some (.int .i64 0):=(blk_cell m2.out 3).trans rfl;have hfzgr_3:=blk_frozen m2.out 3;have hczgr_4 : w6.cell? ⟨gr,4,none⟩ = some (.int .i64 0):=(blk_cell m2.out 4).trans rfl;have hfzgr_4:=blk_frozen m2.out 4) | (go_at_call 64;(with_reducible refine (ca_isBasin.calls A1 c1 l0 d A2 c2 x.2.2 x.1 x.2.1 false _ (Kd.R_reads' m3.out).2.2 (Kd.R_reads' m3.out).2.1 (Kd.R_reads' m4.out).2.2 (Kd.R_reads' m4.out).2.1 HT.out).mono ?_);rintro e w7 ⟨rfl,hb⟩;have n1:=(kmv hb m1);have n2:=(kmv hb m2);have n3:=am (Kd.R_below m3.out hb);have n4:=am (Kd.R_below m4.out hb);have n5:=am (below_then m5.out m5.out.size hb);clear hb m1 m2 m3 m4 m5;(try clear hczgx_0 hfzgx_0 hczgx_1 hfzgx_1 hczgx_2 hfzgx_2 hczgx_3 hfzgx_3 hczgx_4 hfzgx_4);have hczgx_0:=cO1 n1.out;have hfzgx_0:=blk_frozen n1.out 0;have hczgx_1 : w7.cell? ⟨gx,1,none⟩ = some (.int .i64 d):=(blk_cell n1.out 1).trans rfl;have hfzgx_1:=blk_frozen n1.out 1;have hczgx_2 : w7.cell? ⟨gx,2,none⟩ = some (.slice A2 x.2.2.length c2):=(blk_cell n1.out 2).trans rfl;have hfzgx_2:=blk_frozen n1.out 2;have hczgx_3 : w7.cell? ⟨gx,3,none⟩ = some (.int .i64 x.1):=(blk_cell n1.out 3).trans rfl;have hfzgx_3:=blk_frozen n1.out 3;have hczgx_4 : w7.cell? ⟨gx,4,none⟩ = some (.int .i64 x.2.1):=(blk_cell n1.out 4).trans rfl;have hfzgx_4:=blk_frozen n1.out 4;(try clear hczgr_0 hfzgr_0 hczgr_1 hfzgr_1 hczgr_2 hfzgr_2 hczgr_3 hfzgr_3 hczgr_4 hfzgr_4);have hczgr_0:=cO1 n2.out;have hfzgr_0:=blk_frozen n2.out 0;have hczgr_1 : w7.cell? ⟨gr,1,none⟩ = some (.int .i64 0):=(blk_cell n2.out 1).trans rfl;have hfzgr_1:=blk_frozen n2.out 1;have hczgr_2 : w7.cell? ⟨gr,2,none⟩ = some (.slice none 0 0):=(blk_cell n2.out 2).trans rfl;have hfzgr_2:=blk_frozen n2.out 2;have hczgr_3 : w7.cell? ⟨gr,3,none⟩ = some (.int .i64 0):=(blk_cell n2.out 3).trans rfl;have hfzgr_3:=blk_frozen n2.out 3;have hczgr_4 : w7.cell? ⟨gr,4,none⟩ = some (.int .i64 0):=(blk_cell n2.out 4).trans rfl;have hfzgr_4:=blk_frozen n2.out 4))
    refine bodyPost_ret (results_ct rfl _ _ gr 27 #[.slice none 0 0,.int .i64 0,.slice none 0 0,.int .i64 0,.int .i64 0] (0,0) _ rfl ((blk_set (blk_set (blk_set (blk_set (blk_set n2.out 0 _) 1 _) 2 _) 3 _) 4 _).trans rfl) Tryz.underlying27 rfl (by kernel_rfl)) rfl ?_
    exact ⟨_,_,rfl,Kd.R_nil _ _ _ _ _,Kd.R_nil _ _ _ _ _,(below_set (below_set (below_set (below_set (below_set n5.out Ggr.out) Ggr.out) Ggr.out) Ggr.out) Ggr.out)⟩
   | true =>
    rw [if_pos rfl] at h2
    simp only [Option.some.injEq,Prod.mk.injEq] at h2
    obtain ⟨rfl,rfl,rfl,rfl,rfl,rfl⟩:=h2
    go_enter Tryz.func50,Tryz.ntmps50
    go_wp2_with (first | ((refine gate_dst (N:=2) rfl ?_);(try (refine gate_guard (by rfl) ?_;dsimp only));refine box_event rfl (N:=2) rfl (cs:=#[.slice A0 l0.length c0,.int .i64 d]) (t:=24) ?hr ?_;(case hr=>go_simp;try rfl);intro gt hg w1 hbox hb;replace HR:=(cmv HR hb);replace HB:=(bmv HB hb);replace HG:=am (GV.below HG.out hb);clear hg;have BKgt:=am hbox;clear hbox;(try clear hczgt_0 hczgt_1 hfzgt);obtain ⟨hczgt_0,hczgt_1⟩:=cO2 BKgt.out;have hfzgt:=blk_frozen BKgt.out;clear hb) | ((refine gate_dst (N:=3) rfl ?_);(try (refine gate_guard (by rfl) ?_;dsimp only));refine box_event rfl (N:=3) rfl (cs:=#[.string s]) (t:=9) ?hr ?_;(case hr=>go_simp;try rfl);intro gs hg w2 hbox hb;replace HR:=(cmv HR hb);replace HB:=(bmv HB hb);replace HG:=am (GV.below HG.out hb);replace BKgt:=(kmv hb BKgt);clear hg;have BKgs:=am hbox;clear hbox;(try clear hczgt_0 hczgt_1 hfzgt);obtain ⟨hczgt_0,hczgt_1⟩:=cO2 BKgt.out;have hfzgt:=blk_frozen BKgt.out;(try clear hczgs_0 hfzgs_0);have hczgs_0:=cO1 BKgs.out;have hfzgs_0:=blk_frozen BKgs.out 0;clear hb) | ((refine gate_dst (N:=4) rfl ?_);(try (refine gate_guard (by rfl) ?_;dsimp only));refine box_event rfl (N:=4) rfl (cs:=#[.slice none 0 0,.int .i64 0,.slice none 0 0,.int .i64 0,.int .i64 0]) (t:=27) ?hr ?_;(case hr=>go_simp;try rfl);intro gr hg w3 hbox hb;have HNgt_gr:=am (show gt ≠ gr by have:=blk_lt BKgt.out;omega);have HNgs_gr:=am (show gs ≠ gr by have:=blk_lt BKgs.out;omega);have Ggr:=am (show w.heap.size≤gr by have:=HB.out.size;omega);replace HR:=(cmv HR hb);replace HB:=(bmv HB hb);replace HG:=am (GV.below HG.out hb);replace BKgt:=(kmv hb BKgt);replace BKgs:=(kmv hb BKgs);clear hg;have BKgr:=am hbox;clear hbox;(try clear hczgt_0 hczgt_1 hfzgt);obtain ⟨hczgt_0,hczgt_1⟩:=cO2 BKgt.out;have hfzgt:=blk_frozen BKgt.out;(try clear hczgs_0 hfzgs_0);have hczgs_0:=cO1 BKgs.out;have hfzgs_0:=blk_frozen BKgs.out 0;(try clear hczgr_0 hczgr_1 hczgr_2 hczgr_3 hczgr_4 hfzgr);obtain ⟨hczgr_0,hczgr_1,hczgr_2,hczgr_3,hczgr_4⟩:=cO5 BKgr.out;have hfzgr:=blk_frozen BKgr.out;clear hb) | ((refine gate_dst (N:=6) rfl ?_);(try (refine gate_guard (by rfl) ?_;dsimp only));refine box_event rfl (N:=6) rfl (cs:=#[.slice none 0 0,.int .i64 0,.slice none 0 0,.int .i64 0,.int .i64 0]) (t:=27) ?hr ?_;(case hr=>go_simp;try rfl);intro gx hg w4 hbox hb;have HNgt_gx:=am (show gt ≠ gx by have:=blk_lt BKgt.out;omega);have HNgs_gx:=am (show gs ≠ gx by have:=blk_lt BKgs.out;omega);have HNgr_gx:=am (show gr ≠ gx by have:=blk_lt BKgr.out;omega);have Ggx:=am (show w.heap.size≤gx by have:=HB.out.size;omega);replace HR:=(cmv HR hb);replace HB:=(bmv HB hb);replace HG:=am (GV.below HG.out hb);replace BKgt:=(kmv hb BKgt);replace BKgs:=(kmv hb BKgs);replace BKgr:=(kmv hb BKgr);clear hg;have BKgx:=am hbox;clear hbox;(try clear hczgt_0 hczgt_1 hfzgt);obtain ⟨hczgt_0,hczgt_1⟩:=cO2 BKgt.out;have hfzgt:=blk_frozen BKgt.out;(try clear hczgs_0 hfzgs_0);have hczgs_0:=cO1 BKgs.out;have hfzgs_0:=blk_frozen BKgs.out 0;(try clear hczgr_0 hczgr_1 hczgr_2 hczgr_3 hczgr_4 hfzgr);obtain ⟨hczgr_0,hczgr_1,hczgr_2,hczgr_3,hczgr_4⟩:=cO5 BKgr.out;have hfzgr:=blk_frozen BKgr.out;(try clear hczgx_0 hczgx_1 hczgx_2 hczgx_3 hczgx_4 hfzgx);obtain ⟨hczgx_0,hczgx_1,hczgx_2,hczgx_3,hczgx_4⟩:=cO5 BKgx.out;have hfzgx:=blk_frozen BKgx.out;clear hb;have HNrx:=am (show gr ≠ gx by have h1:=HNgr_gx.out;exact h1)) | (go_at_call 90;refine (attempt_Read_ok gt gs gx (ReadI w gx gr w4.heap.size l0 d x.2.2 x.1 x.2.1) w4 (Read1_ok w _ gt gs gx gr w4.heap.size A0 c0 l0 d s (below_alloc HB.out _) Ggx.out HNrx.out (blk_alloc BKgt.out _) (blk_alloc BKgs.out _) (blk_alloc BKgx.out _) (blk_alloc BKgr.out _) (blk_new w4 _) (Kd.C_alloc HR.out _) HC.out HL.out HSS.out (GV.below HG.out (below_alloc (Below.refl _ _) _)) x.1 x.2.1 x.2.2 HX.out) (fun W' hi=>by obtain ⟨_,_,_,_,_,_,h3,_⟩:=hi;exact ⟨(blk_cell h3 0).trans rfl,blk_frozen h3 0⟩)).mono ?_;rintro e w5 ⟨rfl,W',hI,rfl⟩;obtain ⟨A1,c1,A2,c2,b1,b2,b3,R1_,R2_,hb⟩:=hI;have Ge:=am (show w.heap.size≤w4.heap.size from HB.out.size);have m1:=am (blk_far (p:=⟨w4.heap.size,0,none⟩) b1 (blk_ne b1 b3 (by decide)) (.int .i64 0));have m2:=am (blk_far (p:=⟨w4.heap.size,0,none⟩) b2 (blk_ne b2 b3 (by decide)) (.int .i64 0));have m3:=am (Kd.R_set R1_ b3 (by decide) 0 (.int .i64 0));have m4:=am (Kd.R_set R2_ b3 (by decide) 0 (.int .i64 0));have m5:=am (below_set (j:=0) (v:=.int .i64 0) hb Ge.out);clear b1 b2 b3 R1_ R2_ hb;generalize W'.setCell ⟨w4.heap.size,0,none⟩ (.int .i64 0) = w6 at m1 m2 m3 m4 m5 ⊢;(try clear hczgx_0 hfzgx_0 hczgx_1 hfzgx_1 hczgx_2 hfzgx_2 hczgx_3 hfzgx_3 hczgx_4 hfzgx_4);have hczgx_0:=cO1 m1.out;have hfzgx_0:=blk_frozen m1.out 0;have hczgx_1 : w6.cell? ⟨gx,1,none⟩ = some (.int .i64 d):=(blk_cell m1.out 1).trans rfl;have hfzgx_1:=blk_frozen m1.out 1;have hczgx_2 : w6.cell? ⟨gx,2,none⟩ = some (.slice A2 x.2.2.length c2):=(blk_cell m1.out 2).trans rfl;have hfzgx_2:=blk_frozen m1.out 2;have hczgx_3 : w6.cell? ⟨gx,3,none⟩ = some (.int .i64 x.1):=(blk_cell m1.out 3).trans rfl;have hfzgx_3:=blk_frozen m1.out 3;have hczgx_4 : w6.cell? ⟨gx,4,none⟩ = some (.int .i64 x.2.1):=(blk_cell m1.out 4).trans rfl;have hfzgx_4:=blk_frozen m1.out 4;(try clear hczgr_0 hfzgr_0 hczgr_1 hfzgr_1 hczgr_2 hfzgr_2 hczgr_3 hfzgr_3 hczgr_4 hfzgr_4);have hczgr_0:=cO1 m2.out;have hfzgr_0:=blk_frozen m2.out 0;have hczgr_1 : w6.cell? ⟨gr,1,none⟩ = some (.int .i64 0):=(blk_cell m2.out 1).trans rfl;have hfzgr_1:=blk_frozen m2.out 1;have hczgr_2 : w6.cell? ⟨gr,2,none⟩ = some (.slice none 0 0):=(blk_cell m2.out 2).trans rfl;have hfzgr_2:=blk_frozen m2.out 2;have hczgr_3 : w6.cell? ⟨gr,3,none⟩ = some (.int .i64 0):=(blk_cell m2.out 3).trans rfl;have hfzgr_3:=blk_frozen m2.out 3;have hczgr_4 : w6.cell? ⟨gr,4,none⟩ = some (.int .i64 0):=(blk_cell m2.out 4).trans rfl;have hfzgr_4:=blk_frozen m2.out 4) | (go_at_call 64;(with_reducible refine (ca_isBasin.calls A1 c1 l0 d A2 c2 x.2.2 x.1 x.2.1 true _ (Kd.R_reads' m3.out).2.2 (Kd.R_reads' m3.out).2.1 (Kd.R_reads' m4.out).2.2 (Kd.R_reads' m4.out).2.1 HT.out).mono ?_);rintro e w7 ⟨rfl,hb⟩;have n1:=(kmv hb m1);have n2:=(kmv hb m2);have n3:=am (Kd.R_below m3.out hb);have n4:=am (Kd.R_below m4.out hb);have n5:=am (below_then m5.out m5.out.size hb);clear hb m1 m2 m3 m4 m5;(try clear hczgx_0 hfzgx_0 hczgx_1 hfzgx_1 hczgx_2 hfzgx_2 hczgx_3 hfzgx_3 hczgx_4 hfzgx_4);have hczgx_0:=cO1 n1.out;have hfzgx_0:=blk_frozen n1.out 0;have hczgx_1 : w7.cell? ⟨gx,1,none⟩ = some (.int .i64 d):=(blk_cell n1.out 1).trans rfl;have hfzgx_1:=blk_frozen n1.out 1;have hczgx_2 : w7.cell? ⟨gx,2,none⟩ = some (.slice A2 x.2.2.length c2):=(blk_cell n1.out 2).trans rfl;have hfzgx_2:=blk_frozen n1.out 2;have hczgx_3 : w7.cell? ⟨gx,3,none⟩ = some (.int .i64 x.1):=(blk_cell n1.out 3).trans rfl;have hfzgx_3:=blk_frozen n1.out 3;have hczgx_4 : w7.cell? ⟨gx,4,none⟩ = some (.int .i64 x.2.1):=(blk_cell n1.out 4).trans rfl;have hfzgx_4:=blk_frozen n1.out 4;(try clear hczgr_0 hfzgr_0 hczgr_1 hfzgr_1 hczgr_2 hfzgr_2 hczgr_3 hfzgr_3 hczgr_4 hfzgr_4);have hczgr_0:=cO1 n2.out;have hfzgr_0:=blk_frozen n2.out 0;have hczgr_1 : w7.cell? ⟨gr,1,none⟩ = some (.int .i64 0):=(blk_cell n2.out 1).trans rfl;have hfzgr_1:=blk_frozen n2.out 1;have hczgr_2 : w7.cell? ⟨gr,2,none⟩ = some (.slice none 0 0):=(blk_cell n2.out 2).trans rfl;have hfzgr_2:=blk_frozen n2.out 2;have hczgr_3 : w7.cell? ⟨gr,3,none⟩ = some (.int .i64 0):=(blk_cell n2.out 3).trans rfl;have hfzgr_3:=blk_frozen n2.out 3;have hczgr_4 : w7.cell? ⟨gr,4,none⟩ = some (.int .i64 0):=(blk_cell n2.out 4).trans rfl;have hfzgr_4:=blk_frozen n2.out 4))
    refine bodyPost_ret (results_ct rfl _ _ gr 27 #[.slice A1 l0.length c1,.int .i64 d,.slice A2 x.2.2.length c2,.int .i64 x.1,.int .i64 x.2.1] (0,0) _ rfl ((blk_set (blk_set (blk_set (blk_set (blk_set n2.out 0 _) 1 _) 2 _) 3 _) 4 _).trans rfl) Tryz.underlying27 rfl (by kernel_rfl)) rfl ?_
    exact ⟨_,_,rfl,(Kd.R_set (Kd.R_set (Kd.R_set (Kd.R_set (Kd.R_set n3.out n2.out (by decide) 0 (.slice A1 l0.length c1)) (blk_set n2.out 0 (.slice A1 l0.length c1)) (by decide) 1 (.int .i64 d)) (blk_set (blk_set n2.out 0 (.slice A1 l0.length c1)) 1 (.int .i64 d)) (by decide) 2 (.slice A2 x.2.2.length c2)) (blk_set (blk_set (blk_set n2.out 0 (.slice A1 l0.length c1)) 1 (.int .i64 d)) 2 (.slice A2 x.2.2.length c2)) (by decide) 3 (.int .i64 x.1)) (blk_set (blk_set (blk_set (blk_set n2.out 0 (.slice A1 l0.length c1)) 1 (.int .i64 d)) 2 (.slice A2 x.2.2.length c2)) 3 (.int .i64 x.1)) (by decide) 4 (.int .i64 x.2.1)),(Kd.R_set (Kd.R_set (Kd.R_set (Kd.R_set (Kd.R_set n4.out n2.out (by decide) 0 (.slice A1 l0.length c1)) (blk_set n2.out 0 (.slice A1 l0.length c1)) (by decide) 1 (.int .i64 d)) (blk_set (blk_set n2.out 0 (.slice A1 l0.length c1)) 1 (.int .i64 d)) (by decide) 2 (.slice A2 x.2.2.length c2)) (blk_set (blk_set (blk_set n2.out 0 (.slice A1 l0.length c1)) 1 (.int .i64 d)) 2 (.slice A2 x.2.2.length c2)) (by decide) 3 (.int .i64 x.1)) (blk_set (blk_set (blk_set (blk_set n2.out 0 (.slice A1 l0.length c1)) 1 (.int .i64 d)) 2 (.slice A2 x.2.2.length c2)) 3 (.int .i64 x.1)) (by decide) 4 (.int .i64 x.2.1)),(below_set (below_set (below_set (below_set (below_set n5.out Ggr.out) Ggr.out) Ggr.out) Ggr.out) Ggr.out)⟩
def smallN (z : S48) : Bool:=decide (0≤z.f0∧z.f0≤1000∧0≤z.f1∧z.f1≤1000)
def ca_textP.f (rows : List S126) (draw : Int) (noz : List S48) (weir spill : Int) : Option ByteArray:=
 if noz.length≤1000∧(0≤weir∧weir≤1000∧0≤spill∧spill≤1000)∧noz.all smallN = true then some (ca_text.f weir spill noz) else none
theorem ca_textP.calls (A0_0 : Option Addr) (c0_0 : Nat) (l0_0 : List S126) (a0_1 : Int) (A0_2 : Option Addr) (c0_2 : Nat) (l0_2 : List S48) (a0_3 a0_4 : Int) (r : ByteArray) (w : World) (hr0_0 : Kd.C k126 w A0_0 l0_0.length l0_0) (hc0_0 : l0_0.length≤c0_0) (hr0_2 : Kd.C k48 w A0_2 l0_2.length l0_2) (hc0_2 : l0_2.length≤c0_2) (hg : GV w) (h : ca_textP.f l0_0 a0_1 l0_2 a0_3 a0_4 = some r) :
 Calls Tryz.prog 89 #[.agg #[.slice A0_0 l0_0.length c0_0,.int .i64 a0_1,.slice A0_2 l0_2.length c0_2,.int .i64 a0_3,.int .i64 a0_4]] w fun e w'=>e = .returned (.string r)∧Below w.heap.size w w':=by
 unfold ca_textP.f at h
 split at h
 ·rename_i c
  obtain rfl:=Option.some.inj h
  exact ca_text.calls A0_0 l0_0.length c0_0 a0_1 A0_2 c0_2 l0_2 a0_3 a0_4 w hr0_2 hg c.1 c.2.1 (fun z hz=>by have:=List.all_eq_true.1 c.2.2 z hz;simpa [smallN] using this)
 ·cases h
def ca_ReadP.f (l0 : List S126) (d : Int) (s : ByteArray) : Option (List S126 × Int × List S48 × Int × Int × Int):=
 if l0.length < 5864062014805∧s.size≤9223372036854775807 then ca_Read.f l0 d s else none
theorem ca_ReadP.calls (A0 : Option Addr) (c0 : Nat) (l0 : List S126) (d : Int) (s : ByteArray) (r1 : List S126) (r2 : Int) (r3 : List S48) (r4 r5 r6 : Int) (w : World) (hr0 : Kd.C k126 w A0 l0.length l0) (hc0 : l0.length≤c0) (hg : GV w) (h : ca_ReadP.f l0 d s = some (r1,r2,r3,r4,r5,r6)) :
 Calls Tryz.prog 50 #[.agg #[.slice A0 l0.length c0,.int .i64 d],.string s] w fun e w'=>∃ v0_ v2_ : Value,e = .returned (.tuple #[.agg #[v0_,.int .i64 r2,v2_,.int .i64 r4,.int .i64 r5],.int .i64 r6])∧Kd.R k126 126 w' w.heap.size (fun _=>True) v0_ r1∧Kd.R k48 48 w' w.heap.size (fun _=>True) v2_ r3∧Below w.heap.size w w':=by
 unfold ca_ReadP.f at h
 split at h
 ·rename_i c
  exact ca_Read.calls A0 c0 l0 d s r1 r2 r3 r4 r5 r6 w hr0 hc0 c.1 c.2 hg h
 ·cases h
section
attribute [local go_sem] max2_int min2_int max_two min_two
def ca_Print.f (l0_0 : List (S126)) (a0_1 : Int) (l0_2 : List (S48)) (a0_3 : Int) (a0_4 : Int) : Option (ByteArray × Int):=(ca_isBasin.f l0_0 a0_1 l0_2 a0_3 a0_4).bind fun t928=>(if t928 = true then ((ca_textP.f l0_0 a0_1 l0_2 a0_3 a0_4).bind fun t929=>(some (t929,0))) else (some ((⟨#[]⟩ : ByteArray),2)))
theorem ca_Print.calls (A0_0 : Option Addr) (c0_0 : Nat) (l0_0 : List (S126)) (a0_1 : Int) (A0_2 : Option Addr) (c0_2 : Nat) (l0_2 : List (S48)) (a0_3 : Int) (a0_4 : Int) (r1 : ByteArray) (r2 : Int) (w : World) (hr0_0 : Kd.C k126 w A0_0 l0_0.length l0_0) (hc0_0 : l0_0.length≤c0_0) (hr0_2 : Kd.C k48 w A0_2 l0_2.length l0_2) (hc0_2 : l0_2.length≤c0_2) (hg : GV w) (h : ca_Print.f l0_0 a0_1 l0_2 a0_3 a0_4 = some (r1,r2)) :
 Calls Tryz.prog 49 #[.agg #[.slice A0_0 l0_0.length c0_0,.int .i64 a0_1,.slice A0_2 l0_2.length c0_2,.int .i64 a0_3,.int .i64 a0_4]] w fun e w'=>e = .returned (.tuple #[.string r1,.int .i64 r2])∧Below w.heap.size w w':=by
 have HG:=am hg
 clear hg
 have hu27:=Tryz.underlying27
 have HR0_0:=am hr0_0
 have HC0_0:=am hc0_0
 clear hr0_0 hc0_0
 have HR0_2:=am hr0_2
 have HC0_2:=am hc0_2
 clear hr0_2 hc0_2
 have HB:=am (Below.refl w.heap.size w)
 have H : ((ca_isBasin.f l0_0 a0_1 l0_2 a0_3 a0_4).bind fun t928=>(if t928 = true then ((ca_textP.f l0_0 a0_1 l0_2 a0_3 a0_4).bind fun t929=>(some (t929,0))) else (some ((⟨#[]⟩ : ByteArray),2)))) = some (r1,r2):=h
 clear h
 replace H:=obm H
 obtain ⟨t928,A20,H⟩:=H
 replace H : (if t928 = true then ((ca_textP.f l0_0 a0_1 l0_2 a0_3 a0_4).bind fun t929=>(some (t929,0))) else (some ((⟨#[]⟩ : ByteArray),2))) = some (r1,r2):=H
 have A2:=am A20
 clear A20
 by_cases c3 : t928 = true
 case neg =>
  replace c3:=Bool.eq_false_iff.mpr c3
  subst c3
  replace H : (some ((⟨#[]⟩ : ByteArray),2)) = some (r1,r2):=by rw [if_neg (show ¬ (false = true) by decide)] at H;exact H
  simp only [Option.some.injEq,Prod.mk.injEq] at H
  obtain ⟨rfl,rfl⟩:=H
  go_enter Tryz.func49,Tryz.ntmps49
  go_wp2_with (first | ((refine gate_dst (N:=1) rfl ?_);refine box_event rfl (N:=1) rfl (cs:=#[.slice A0_0 l0_0.length c0_0,.int .i64 a0_1,.slice A0_2 l0_2.length c0_2,.int .i64 a0_3,.int .i64 a0_4]) (t:=27) ?hr ?_;(case hr=>go_simp;try rfl);intro gb927 hg w10 hbox hb;have BK927:=am (hbox);have GW927:=am (ge_new (HB.out) hg);have GE927:=am (ge_new (HB.out) hg);replace HB:=am (below_step (HB.out) hb);clear hb hbox hg;obtain ⟨hcz11_0,hcz11_1,hcz11_2,hcz11_3,hcz11_4⟩:=cO5 BK927.out) | ((with_reducible refine gate_callee (f:=64) rfl ?_);refine goesL_ (some 5) rfl rfl Tryz.func64 (by kernel_rfl) rfl #[.agg #[.slice A0_0 l0_0.length c0_0,.int .i64 a0_1,.slice A0_2 l0_2.length c0_2,.int .i64 a0_3,.int .i64 a0_4]] rfl (by (try simp only [List.map_toArray,List.map_cons,List.map_nil]);first | done | rfl | (simp only [List.length_drop,List.length_take];rfl)) ?_;(with_reducible refine (ca_isBasin.calls _ _ l0_0 a0_1 _ _ l0_2 a0_3 a0_4 false _ ?side1 ?side2 ?side3 ?side4 A2.out).mono ?_);(case side1=>exact kC HR0_0.out HB.out);(case side2=>exact HC0_0.out);(case side3=>exact kC HR0_2.out HB.out);(case side4=>exact HC0_2.out);rintro e w12 ⟨rfl,hb⟩;refine ⟨_,rfl,?_⟩;replace BK927:=(kmv hb BK927);replace HB:=am (below_step (HB.out) hb);(try clear hb);(try clear hb2);(try clear hk);(try clear hi)))
  go_ret2
  exact ⟨by first | rfl | (simp [*]<;>rfl),HB.out⟩
 subst c3
 replace H : ((ca_textP.f l0_0 a0_1 l0_2 a0_3 a0_4).bind fun t929=>(some (t929,0))) = some (r1,r2):=by rw [if_pos rfl] at H;exact H
 replace H:=obm H
 obtain ⟨t929,A40,H⟩:=H
 replace H : (some (t929,0)) = some (r1,r2):=H
 have A4:=am A40
 clear A40
 simp only [Option.some.injEq,Prod.mk.injEq] at H
 obtain ⟨rfl,rfl⟩:=H
 go_enter Tryz.func49,Tryz.ntmps49
 go_wp2_with (first | ((refine gate_dst (N:=1) rfl ?_);refine box_event rfl (N:=1) rfl (cs:=#[.slice A0_0 l0_0.length c0_0,.int .i64 a0_1,.slice A0_2 l0_2.length c0_2,.int .i64 a0_3,.int .i64 a0_4]) (t:=27) ?hr ?_;(case hr=>go_simp;try rfl);intro gb927 hg w5 hbox hb;have BK927:=am (hbox);have GW927:=am (ge_new (HB.out) hg);have GE927:=am (ge_new (HB.out) hg);replace HB:=am (below_step (HB.out) hb);clear hb hbox hg;obtain ⟨hcz6_0,hcz6_1,hcz6_2,hcz6_3,hcz6_4⟩:=cO5 BK927.out) | ((with_reducible refine gate_callee (f:=64) rfl ?_);refine goesL_ (some 5) rfl rfl Tryz.func64 (by kernel_rfl) rfl #[.agg #[.slice A0_0 l0_0.length c0_0,.int .i64 a0_1,.slice A0_2 l0_2.length c0_2,.int .i64 a0_3,.int .i64 a0_4]] rfl (by (try simp only [List.map_toArray,List.map_cons,List.map_nil]);first | done | rfl | (simp only [List.length_drop,List.length_take];rfl)) ?_;(with_reducible refine (ca_isBasin.calls _ _ l0_0 a0_1 _ _ l0_2 a0_3 a0_4 true _ ?side1 ?side2 ?side3 ?side4 A2.out).mono ?_);(case side1=>exact kC HR0_0.out HB.out);(case side2=>exact HC0_0.out);(case side3=>exact kC HR0_2.out HB.out);(case side4=>exact HC0_2.out);rintro e w7 ⟨rfl,hb⟩;refine ⟨_,rfl,?_⟩;replace BK927:=(kmv hb BK927);replace HB:=am (below_step (HB.out) hb);(try clear hb);(try clear hb2);(try clear hk);(try clear hi);obtain ⟨hcz8_0,hcz8_1,hcz8_2,hcz8_3,hcz8_4⟩:=cO5 BK927.out) | ((with_reducible refine gate_callee (f:=89) rfl ?_);refine goesL_ (some 8) rfl rfl Tryz.func89 (by kernel_rfl) rfl #[.agg #[.slice A0_0 l0_0.length c0_0,.int .i64 a0_1,.slice A0_2 l0_2.length c0_2,.int .i64 a0_3,.int .i64 a0_4]] rfl (by (try simp only [List.map_toArray,List.map_cons,List.map_nil]);first | done | rfl | (simp only [List.length_drop,List.length_take];rfl)) ?_;(with_reducible refine (ca_textP.calls _ _ l0_0 a0_1 _ _ l0_2 a0_3 a0_4 t929 _ ?side1 ?side2 ?side3 ?side4 (HG.out.below (by repeat (first | (with_reducible exact HB.out) | (with_reducible apply below_alloc) | (with_reducible apply pw_below_drewN) | (with_reducible apply below_drew1) | (with_reducible refine below_set ?_ (Aside0.out (by assumption))) | exact HB.out))) A4.out).mono ?_);(case side1=>exact kC HR0_0.out HB.out);(case side2=>exact HC0_0.out);(case side3=>exact kC HR0_2.out HB.out);(case side4=>exact HC0_2.out);rintro e w9 ⟨rfl,hb⟩;refine ⟨_,rfl,?_⟩;replace BK927:=(kmv hb BK927);replace HB:=am (below_step (HB.out) hb);(try clear hb);(try clear hb2);(try clear hk);(try clear hi)))
 go_ret2
 exact ⟨by first | rfl | (simp [*]<;>rfl),HB.out⟩
theorem eqA48 (d : Nat) (w : World) (x0 y0 : Int) (x1 y1 : Int) :
 (Op.equalIn (d + 2) 48 (.agg #[.int .i64 x0,.int .i64 x1]) (.agg #[.int .i64 y0,.int .i64 y1])).run Tryz.prog w = .ok (x0 == y0 && (x1 == y1)) w:=by
 refine eqA_of Tryz.underlying48 (by kernel_rfl) ?_
 refine eqf_cons (by rfl) (by go_simp;rfl) (by go_simp;rfl) (by go_simp) ?_
 exact eqf_last (by rfl) (by go_simp;rfl) (by go_simp;rfl) (by go_simp)
theorem eqA126 (d : Nat) (w : World) (x0 y0 : Int) (x1 y1 : Int) (x2 y2 : Int) :
 (Op.equalIn (d + 2) 126 (.agg #[.int .i64 x0,.int .i64 x1,.int .i64 x2]) (.agg #[.int .i64 y0,.int .i64 y1,.int .i64 y2])).run Tryz.prog w = .ok (x0 == y0 && (x1 == y1 && (x2 == y2))) w:=by
 refine eqA_of Tryz.underlying126 (by kernel_rfl) ?_
 refine eqf_cons (by rfl) (by go_simp;rfl) (by go_simp;rfl) (by go_simp) ?_
 refine eqf_cons (by rfl) (by go_simp;rfl) (by go_simp;rfl) (by go_simp) ?_
 exact eqf_last (by rfl) (by go_simp;rfl) (by go_simp;rfl) (by go_simp)
end
section
attribute [local go_sem] max2_int min2_int max_two min_two
attribute [local go_sem high] eqA126
mutual
def q3_SameTables.j0 : Nat→Bool→List (S126)→Int→List (S126)→Int→Option (Bool)
 | 0,_,_,_,_,_=>none
 | k + 1,x19,x367000,x367001,x368000,x368001=>if x19 = true then (some false) else (q3_SameTables.l0 k 0 x367000 x367001 x368000 x368001)
def q3_SameTables.l0 : Nat→Int→List (S126)→Int→List (S126)→Int→Option (Bool)
 | 0,_,_,_,_,_=>none
 | k + 1,x5,x367000,x367001,x368000,x368001=>if x5 < (x367000.length : Int) then (if 0≤x5 then (if x5 < (x368000.length : Int) then (if (!(((rd_T126 x367000 x5).f0) == ((rd_T126 x368000 x5).f0)) || (!(((rd_T126 x367000 x5).f1) == ((rd_T126 x368000 x5).f1)) || (!(((rd_T126 x367000 x5).f2) == ((rd_T126 x368000 x5).f2))))) = true then (some false) else (q3_SameTables.l0 k (wrap64 (x5 + 1)) x367000 x367001 x368000 x368001)) else (none)) else (none)) else (some true)
end
def q3_SameTables.f (k : Nat) (l0_0 : List (S126)) (a0_1 : Int) (l1_0 : List (S126)) (a1_1 : Int) : Option (Bool):=if a0_1 = a1_1 then (q3_SameTables.j0 k ((l0_0.length : Int) != (l1_0.length : Int)) l0_0 a0_1 l1_0 a1_1) else (q3_SameTables.j0 k true l0_0 a0_1 l1_0 a1_1)
theorem q3_SameTables.calls (k : Nat) (A0_0 : Option Addr) (c0_0 : Nat) (l0_0 : List (S126)) (a0_1 : Int) (A1_0 : Option Addr) (c1_0 : Nat) (l1_0 : List (S126)) (a1_1 : Int) (r : Bool) (w : World) (hr0_0 : Kd.C k126 w A0_0 l0_0.length l0_0) (hc0_0 : l0_0.length≤c0_0) (hr1_0 : Kd.C k126 w A1_0 l1_0.length l1_0) (hc1_0 : l1_0.length≤c1_0) (h : q3_SameTables.f k l0_0 a0_1 l1_0 a1_1 = some r) :
 Calls Tryz.prog 95 #[.agg #[.slice A0_0 l0_0.length c0_0,.int .i64 a0_1],.agg #[.slice A1_0 l1_0.length c1_0,.int .i64 a1_1]] w fun e w'=>e = .returned (.bool r)∧Below w.heap.size w w':=by
 have hu24:=Tryz.underlying24
 have hu126:=Tryz.underlying126
 have HR0_0:=am hr0_0
 have HC0_0:=am hc0_0
 clear hr0_0 hc0_0
 have HR1_0:=am hr1_0
 have HC1_0:=am hc1_0
 clear hr1_0 hc1_0
 have HB:=am (Below.refl w.heap.size w)
 have H : (if a0_1 = a1_1 then (q3_SameTables.j0 k ((l0_0.length : Int) != (l1_0.length : Int)) l0_0 a0_1 l1_0 a1_1) else (q3_SameTables.j0 k true l0_0 a0_1 l1_0 a1_1)) = some r:=h
 clear h
 have HC3:=am H
 clear H
 go_enter Tryz.func95,Tryz.ntmps95
 go_upto_region 1 with (first | ((refine gate_dst (N:=2) rfl ?_);(try (refine gate_guard (by rfl) ?_;dsimp only));refine box_event rfl (N:=2) rfl (cs:=#[.slice A0_0 l0_0.length c0_0,.int .i64 a0_1]) (t:=24) ?hr ?_;(case hr=>go_simp;try rfl);intro gb366 hg w4 hbox hb;have BK366:=am (hbox);have GW366:=am (ge_new (HB.out) hg);have GE366:=am (ge_new (HB.out) hg);replace HB:=am (below_step (HB.out) hb);clear hb hbox hg) | ((refine gate_dst (N:=3) rfl ?_);(try (refine gate_guard (by rfl) ?_;dsimp only));refine box_event rfl (N:=3) rfl (cs:=#[.slice A1_0 l1_0.length c1_0,.int .i64 a1_1]) (t:=24) ?hr ?_;(case hr=>go_simp;try rfl);intro gb367 hg w5 hbox hb;have BK367:=am (hbox);have GW367:=am (ge_new (HB.out) hg);have GE367:=am (ge_new (HB.out) hg);have NB366_367:=am (ne_new BK366.out hg);have NB367_366:=am (ne_new2 BK366.out hg);replace BK366:=(kmv hb BK366);replace HB:=am (below_step (HB.out) hb);clear hb hbox hg))
 repeat (go_quiet (first | ((refine gate_dst (N:=2) rfl ?_);(try (refine gate_guard (by rfl) ?_;dsimp only));refine box_event rfl (N:=2) rfl (cs:=#[.slice A0_0 l0_0.length c0_0,.int .i64 a0_1]) (t:=24) ?hr ?_;(case hr=>go_simp;try rfl);intro gb366 hg w4 hbox hb;have BK366:=am (hbox);have GW366:=am (ge_new (by repeat (first | (with_reducible first | exact HB.out | apply below_alloc | apply pw_below_drewN) | exact HB.out)) hg);have GE366:=am (ge_new (by repeat (first | (with_reducible first | exact HB.out | apply below_alloc | apply pw_below_drewN) | exact HB.out)) hg);replace HB:=am (below_step (by repeat (first | (with_reducible first | exact HB.out | apply below_alloc | apply pw_below_drewN) | exact HB.out)) hb);clear hb hbox hg) | ((refine gate_dst (N:=3) rfl ?_);(try (refine gate_guard (by rfl) ?_;dsimp only));refine box_event rfl (N:=3) rfl (cs:=#[.slice A1_0 l1_0.length c1_0,.int .i64 a1_1]) (t:=24) ?hr ?_;(case hr=>go_simp;try rfl);intro gb367 hg w5 hbox hb;have BK367:=am (hbox);have GW367:=am (ge_new (by repeat (first | (with_reducible first | exact HB.out | refine below_set ?_ GE366.out | apply below_alloc | apply pw_below_drewN) | exact HB.out)) hg);have GE367:=am (ge_new (by repeat (first | (with_reducible first | exact HB.out | refine below_set ?_ GE366.out | apply below_alloc | apply pw_below_drewN) | exact HB.out)) hg);have NB366_367:=am (ne_new BK366.out hg);have NB367_366:=am (ne_new2 BK366.out hg);replace BK366:=(kmv hb BK366);replace HB:=am (below_step (by repeat (first | (with_reducible first | exact HB.out | refine below_set ?_ GE366.out | apply below_alloc | apply pw_below_drewN) | exact HB.out)) hb);clear hb hbox hg));go_upto_region 1 with (first | ((refine gate_dst (N:=2) rfl ?_);(try (refine gate_guard (by rfl) ?_;dsimp only));refine box_event rfl (N:=2) rfl (cs:=#[.slice A0_0 l0_0.length c0_0,.int .i64 a0_1]) (t:=24) ?hr ?_;(case hr=>go_simp;try rfl);intro gb366 hg w4 hbox hb;have BK366:=am (hbox);have GW366:=am (ge_new (by repeat (first | (with_reducible first | exact HB.out | apply below_alloc | apply pw_below_drewN) | exact HB.out)) hg);have GE366:=am (ge_new (by repeat (first | (with_reducible first | exact HB.out | apply below_alloc | apply pw_below_drewN) | exact HB.out)) hg);replace HB:=am (below_step (by repeat (first | (with_reducible first | exact HB.out | apply below_alloc | apply pw_below_drewN) | exact HB.out)) hb);clear hb hbox hg) | ((refine gate_dst (N:=3) rfl ?_);(try (refine gate_guard (by rfl) ?_;dsimp only));refine box_event rfl (N:=3) rfl (cs:=#[.slice A1_0 l1_0.length c1_0,.int .i64 a1_1]) (t:=24) ?hr ?_;(case hr=>go_simp;try rfl);intro gb367 hg w5 hbox hb;have BK367:=am (hbox);have GW367:=am (ge_new (by repeat (first | (with_reducible first | exact HB.out | refine below_set ?_ GE366.out | apply below_alloc | apply pw_below_drewN) | exact HB.out)) hg);have GE367:=am (ge_new (by repeat (first | (with_reducible first | exact HB.out | refine below_set ?_ GE366.out | apply below_alloc | apply pw_below_drewN) | exact HB.out)) hg);have NB366_367:=am (ne_new BK366.out hg);have NB367_366:=am (ne_new2 BK366.out hg);replace BK366:=(kmv hb BK366);replace HB:=am (below_step (by repeat (first | (with_reducible first | exact HB.out | refine below_set ?_ GE366.out | apply below_alloc | apply pw_below_drewN) | exact HB.out)) hb);clear hb hbox hg)))
 (try simp only [Act.put,List.setIfInBounds_toArray,List.set_cons_zero,List.set_cons_succ])
 go_cut [19] (fun v19 wc=>∃ (kq : Nat) (x19_2 : Bool),v19 = .bool x19_2∧Aside0 (q3_SameTables.j0 kq x19_2 l0_0 a0_1 l1_0 a1_1 = some r)∧Aside0 (kq≤k)∧Aside0 (wc.heap[gb366]? = some (.cells #[(.slice A0_0 l0_0.length c0_0),.int .i64 a0_1] 24 (0,0)))∧Aside0 (wc.heap[gb367]? = some (.cells #[(.slice A1_0 l1_0.length c1_0),.int .i64 a1_1] 24 (0,0)))∧Aside0 (Below w.heap.size w wc))
 case first =>
  have H:=HC3.out
  clear HC3
  by_cases c6 : a0_1 = a1_1
  case neg =>
   rw [if_neg c6] at H
   have c6b0 : (a0_1 == a1_1) = false:=beq_eq_false_iff_ne.mpr c6
   have c6b1 : (a0_1 != a1_1) = true:=bne_iff_ne.mpr c6
   (first | rw [c6b0] | (simp only [i64_w,i32_w];rw [c6b0]) | skip)
   replace H':=am H
   have hnb10:=NB366_367.out
   have hnc10:=NB367_366.out
   obtain ⟨hcz11_0,hcz11_1⟩:=cO2 BK366.out
   obtain ⟨hcz12_0,hcz12_1⟩:=cO2 BK367.out
   go_wp2
   repeat (go_quiet (fail);try go_wp2)
   go_meet
   case rel=>exact ⟨_,(true),(by first | rfl | (simp;done) | (simp [*];done)),H',⟨by first | omega | exact Nat.le_refl _⟩,⟨BK366.out⟩,⟨BK367.out⟩,⟨HB.out⟩⟩
  rw [if_pos c6] at H
  have c6b0 : (a0_1 == a1_1) = true:=beq_iff_eq.mpr c6
  have c6b1 : (a0_1 != a1_1) = false:=bne_eq_false_iff_eq.mpr c6
  clear c6
  (first | rw [c6b0] | (simp only [i64_w,i32_w];rw [c6b0]) | skip)
  replace H':=am H
  have hnb7:=NB366_367.out
  have hnc7:=NB367_366.out
  obtain ⟨hcz8_0,hcz8_1⟩:=cO2 BK366.out
  obtain ⟨hcz9_0,hcz9_1⟩:=cO2 BK367.out
  go_wp2
  repeat (go_quiet (fail);try go_wp2)
  go_meet
  case rel=>exact ⟨_,(((l0_0.length : Int) != (l1_0.length : Int))),(by first | rfl | (simp;done) | (simp [*];done)),H',⟨by first | omega | exact Nat.le_refl _⟩,⟨BK366.out⟩,⟨BK367.out⟩,⟨HB.out⟩⟩
 case rest =>
  clear HC3
  obtain ⟨kq,x19_2,rfl,HA,HJ2,BK366,BK367,HB⟩:=hcut
  cases kq with
  | zero=>exact absurd HA.out (by simp [q3_SameTables.j0])
  | succ kj2 =>
   have H:=HA.out
   clear HA
   simp only [q3_SameTables.j0] at H
   by_cases c13 : x19_2 = true
   ·subst c13
    replace H : (some false) = some r:=by rw [if_pos rfl] at H;exact H
    obtain rfl:=Option.some.inj H
    go_wp2
    repeat (go_quiet (fail);try go_wp2)
    go_ret
    exact ⟨by first | rfl | (simp [*]<;>rfl),HB.out⟩
   ·replace c13:=Bool.eq_false_iff.mpr c13
    subst c13
    replace H : (q3_SameTables.l0 kj2 0 l0_0 a0_1 l1_0 a1_1) = some r:=by rw [if_neg (show ¬ (false = true) by decide)] at H;exact H
    replace H':=am H
    go_wp2
    repeat (go_quiet (fail);try go_wp2)
    go_loopg [5] kj2 (fun kq v5 w'=>∃ (x5_2 : Int),v5 = .int .i64 x5_2∧Aside0 (q3_SameTables.l0 kq x5_2 l0_0 a0_1 l1_0 a1_1 = some r)∧Aside0 (kq≤kj2)∧Aside0 (w'.heap[gb366]? = some (.cells #[(.slice A0_0 l0_0.length c0_0),.int .i64 a0_1] 24 (0,0)))∧Aside0 (w'.heap[gb367]? = some (.cells #[(.slice A1_0 l1_0.length c1_0),.int .i64 a1_1] 24 (0,0)))∧Aside0 (Below w.heap.size w w'))
    case atStart=>exact ⟨(0),(by first | rfl | (simp;done) | (simp [*];done)),H',⟨Nat.le_refl _⟩,⟨BK366.out⟩,⟨BK367.out⟩,⟨HB.out⟩⟩
    case round =>
     clear H'
     obtain ⟨x5_2,rfl,HA,HK2,BK366,BK367,HB⟩:=hrel
     cases gk with
     | zero=>exact absurd HA.out (by simp [q3_SameTables.l0])
     | succ k2 =>
      have H:=HA.out
      clear HA
      simp only [q3_SameTables.l0] at H
      by_cases c14 : x5_2 < (l0_0.length : Int)
      case neg =>
       rw [if_neg c14] at H
       have c14b0 : decide (x5_2 < (l0_0.length : Int)) = false:=decide_eq_false c14
       clear c14
       obtain rfl:=Option.some.inj H
       have hnb24:=NB366_367.out
       have hnc24:=NB367_366.out
       obtain ⟨hcz25_0,hcz25_1⟩:=cO2 BK366.out
       go_wp2
       repeat (go_quiet (fail);try go_wp2)
       go_ret
       exact ⟨by first | rfl | (simp [*]<;>rfl),HB.out⟩
      rw [if_pos c14] at H
      have c14b0 : decide (x5_2 < (l0_0.length : Int)) = true:=decide_eq_true c14
      clear c14
      by_cases c15 : 0≤x5_2
      case neg =>
       rw [if_neg c15] at H
       exact absurd H (by simp)
      rw [if_pos c15] at H
      have c15b0 : decide (0≤x5_2) = true:=decide_eq_true c15
      clear c15
      by_cases c16 : x5_2 < (l1_0.length : Int)
      case neg =>
       rw [if_neg c16] at H
       exact absurd H (by simp)
      rw [if_pos c16] at H
      have c16b0 : decide (x5_2 < (l1_0.length : Int)) = true:=decide_eq_true c16
      clear c16
      by_cases c17 : (!(((rd_T126 l0_0 x5_2).f0) == ((rd_T126 l1_0 x5_2).f0)) || (!(((rd_T126 l0_0 x5_2).f1) == ((rd_T126 l1_0 x5_2).f1)) || (!(((rd_T126 l0_0 x5_2).f2) == ((rd_T126 l1_0 x5_2).f2))))) = true
      ·rw [if_pos c17] at H
       have c17b0 : (!(((rd_T126 l0_0 x5_2).f0) == ((rd_T126 l1_0 x5_2).f0)) || (!(((rd_T126 l0_0 x5_2).f1) == ((rd_T126 l1_0 x5_2).f1)) || (!(((rd_T126 l0_0 x5_2).f2) == ((rd_T126 l1_0 x5_2).f2))))) = true:=c17
       clear c17
       obtain rfl:=Option.some.inj H
       have hnb18:=NB366_367.out
       have hnc18:=NB367_366.out
       obtain ⟨hcz19_0,hcz19_1⟩:=cO2 BK366.out
       have p368 : 0≤(x5_2 : Int):=of_decide_eq_true (by assumption)
       have q368 : x5_2 < (l0_0.length : Int):=of_decide_eq_true (by assumption)
       obtain ⟨ad368,e368,hx368_0,hx368_1,hx368_2⟩:=at_T126 HR0_0.out x5_2 p368 q368
       cases e368
       replace hx368_0:=(HB.out.cell (wbl hx368_0)).trans hx368_0
       replace hx368_1:=(HB.out.cell (wbl hx368_1)).trans hx368_1
       replace hx368_2:=(HB.out.cell (wbl hx368_2)).trans hx368_2
       replace p368:=eq_true p368
       replace q368:=eq_true q368
       obtain ⟨hcz20_0,hcz20_1⟩:=cO2 BK367.out
       have p369 : 0≤(x5_2 : Int):=of_decide_eq_true (by assumption)
       have q369 : x5_2 < (l1_0.length : Int):=of_decide_eq_true (by assumption)
       obtain ⟨ad369,e369,hx369_0,hx369_1,hx369_2⟩:=at_T126 HR1_0.out x5_2 p369 q369
       cases e369
       replace hx369_0:=(HB.out.cell (wbl hx369_0)).trans hx369_0
       replace hx369_1:=(HB.out.cell (wbl hx369_1)).trans hx369_1
       replace hx369_2:=(HB.out.cell (wbl hx369_2)).trans hx369_2
       replace p369:=eq_true p369
       replace q369:=eq_true q369
       go_wp2
       repeat (go_quiet (fail);try go_wp2)
       go_ret
       exact ⟨by first | rfl | (simp [*]<;>rfl),pw_below_drewN HB.out _⟩
      ·rw [if_neg c17] at H
       have c17b0 : (!(((rd_T126 l0_0 x5_2).f0) == ((rd_T126 l1_0 x5_2).f0)) || (!(((rd_T126 l0_0 x5_2).f1) == ((rd_T126 l1_0 x5_2).f1)) || (!(((rd_T126 l0_0 x5_2).f2) == ((rd_T126 l1_0 x5_2).f2))))) = false:=by simpa using c17
       clear c17
       replace H':=am H
       have hnb21:=NB366_367.out
       have hnc21:=NB367_366.out
       obtain ⟨hcz22_0,hcz22_1⟩:=cO2 BK366.out
       have p368 : 0≤(x5_2 : Int):=of_decide_eq_true (by assumption)
       have q368 : x5_2 < (l0_0.length : Int):=of_decide_eq_true (by assumption)
       obtain ⟨ad368,e368,hx368_0,hx368_1,hx368_2⟩:=at_T126 HR0_0.out x5_2 p368 q368
       cases e368
       replace hx368_0:=(HB.out.cell (wbl hx368_0)).trans hx368_0
       replace hx368_1:=(HB.out.cell (wbl hx368_1)).trans hx368_1
       replace hx368_2:=(HB.out.cell (wbl hx368_2)).trans hx368_2
       replace p368:=eq_true p368
       replace q368:=eq_true q368
       obtain ⟨hcz23_0,hcz23_1⟩:=cO2 BK367.out
       have p369 : 0≤(x5_2 : Int):=of_decide_eq_true (by assumption)
       have q369 : x5_2 < (l1_0.length : Int):=of_decide_eq_true (by assumption)
       obtain ⟨ad369,e369,hx369_0,hx369_1,hx369_2⟩:=at_T126 HR1_0.out x5_2 p369 q369
       cases e369
       replace hx369_0:=(HB.out.cell (wbl hx369_0)).trans hx369_0
       replace hx369_1:=(HB.out.cell (wbl hx369_1)).trans hx369_1
       replace hx369_2:=(HB.out.cell (wbl hx369_2)).trans hx369_2
       replace p369:=eq_true p369
       replace q369:=eq_true q369
       go_wp2
       repeat (go_quiet (fail);try go_wp2)
       go_roundg k2
       case measure=>have:=HJ2.out;have:=HK2.out;omega
       case rel=>exact ⟨(wrap64 (x5_2 + 1)),(by first | rfl | (simp;done) | (simp [*];done)),H',⟨by have:=HJ2.out;have:=HK2.out;omega⟩,⟨BK366.out⟩,⟨BK367.out⟩,⟨pw_below_drewN HB.out _⟩⟩
end
section
attribute [local go_sem] max2_int min2_int max_two min_two
attribute [local go_sem high] eqA48
mutual
def q4_SameBasins.j0 : Nat→Bool→List (S126)→Int→List (S48)→Int→Int→List (S126)→Int→List (S48)→Int→Int→Option (Bool)
 | 0,_,_,_,_,_,_,_,_,_,_,_=>none
 | k + 1,x34,x371000,x371001,x371002,x371003,x371004,x372000,x372001,x372002,x372003,x372004=>if x34 = true then (some false) else (q4_SameBasins.l0 k 0 x371000 x371001 x371002 x371003 x371004 x372000 x372001 x372002 x372003 x372004)
def q4_SameBasins.l0 : Nat→Int→List (S126)→Int→List (S48)→Int→Int→List (S126)→Int→List (S48)→Int→Int→Option (Bool)
 | 0,_,_,_,_,_,_,_,_,_,_,_=>none
 | k + 1,x5,x371000,x371001,x371002,x371003,x371004,x372000,x372001,x372002,x372003,x372004=>if x5 < (x371002.length : Int) then (if 0≤x5 then (if x5 < (x372002.length : Int) then (if (!(((rd_T48 x371002 x5).f0) == ((rd_T48 x372002 x5).f0)) || (!(((rd_T48 x371002 x5).f1) == ((rd_T48 x372002 x5).f1)))) = true then (some false) else (q4_SameBasins.l0 k (wrap64 (x5 + 1)) x371000 x371001 x371002 x371003 x371004 x372000 x372001 x372002 x372003 x372004)) else (none)) else (none)) else (some true)
end
def q4_SameBasins.f (k : Nat) (l0_0 : List (S126)) (a0_1 : Int) (l0_2 : List (S48)) (a0_3 : Int) (a0_4 : Int) (l1_0 : List (S126)) (a1_1 : Int) (l1_2 : List (S48)) (a1_3 : Int) (a1_4 : Int) : Option (Bool):=(q3_SameTables.f k l0_0 a0_1 l1_0 a1_1).bind fun t372=>(if t372 = true then (if (l0_2.length : Int) = (l1_2.length : Int) then (if a0_3 = a1_3 then (q4_SameBasins.j0 k (a0_4 != a1_4) l0_0 a0_1 l0_2 a0_3 a0_4 l1_0 a1_1 l1_2 a1_3 a1_4) else (q4_SameBasins.j0 k true l0_0 a0_1 l0_2 a0_3 a0_4 l1_0 a1_1 l1_2 a1_3 a1_4)) else (q4_SameBasins.j0 k true l0_0 a0_1 l0_2 a0_3 a0_4 l1_0 a1_1 l1_2 a1_3 a1_4)) else (q4_SameBasins.j0 k true l0_0 a0_1 l0_2 a0_3 a0_4 l1_0 a1_1 l1_2 a1_3 a1_4))
theorem q4_SameBasins.calls (k : Nat) (A0_0 : Option Addr) (c0_0 : Nat) (l0_0 : List (S126)) (a0_1 : Int) (A0_2 : Option Addr) (c0_2 : Nat) (l0_2 : List (S48)) (a0_3 : Int) (a0_4 : Int) (A1_0 : Option Addr) (c1_0 : Nat) (l1_0 : List (S126)) (a1_1 : Int) (A1_2 : Option Addr) (c1_2 : Nat) (l1_2 : List (S48)) (a1_3 : Int) (a1_4 : Int) (r : Bool) (w : World) (hr0_0 : Kd.C k126 w A0_0 l0_0.length l0_0) (hc0_0 : l0_0.length≤c0_0) (hr0_2 : Kd.C k48 w A0_2 l0_2.length l0_2) (hc0_2 : l0_2.length≤c0_2) (hr1_0 : Kd.C k126 w A1_0 l1_0.length l1_0) (hc1_0 : l1_0.length≤c1_0) (hr1_2 : Kd.C k48 w A1_2 l1_2.length l1_2) (hc1_2 : l1_2.length≤c1_2) (h : q4_SameBasins.f k l0_0 a0_1 l0_2 a0_3 a0_4 l1_0 a1_1 l1_2 a1_3 a1_4 = some r) :
 Calls Tryz.prog 52 #[.agg #[.slice A0_0 l0_0.length c0_0,.int .i64 a0_1,.slice A0_2 l0_2.length c0_2,.int .i64 a0_3,.int .i64 a0_4],.agg #[.slice A1_0 l1_0.length c1_0,.int .i64 a1_1,.slice A1_2 l1_2.length c1_2,.int .i64 a1_3,.int .i64 a1_4]] w fun e w'=>e = .returned (.bool r)∧Below w.heap.size w w':=by
 have hu27:=Tryz.underlying27
 have hu24:=Tryz.underlying24
 have hu48:=Tryz.underlying48
 have HR0_0:=am hr0_0
 have HC0_0:=am hc0_0
 clear hr0_0 hc0_0
 have HR0_2:=am hr0_2
 have HC0_2:=am hc0_2
 clear hr0_2 hc0_2
 have HR1_0:=am hr1_0
 have HC1_0:=am hc1_0
 clear hr1_0 hc1_0
 have HR1_2:=am hr1_2
 have HC1_2:=am hc1_2
 clear hr1_2 hc1_2
 have HB:=am (Below.refl w.heap.size w)
 have H : ((q3_SameTables.f k l0_0 a0_1 l1_0 a1_1).bind fun t372=>(if t372 = true then (if (l0_2.length : Int) = (l1_2.length : Int) then (if a0_3 = a1_3 then (q4_SameBasins.j0 k (a0_4 != a1_4) l0_0 a0_1 l0_2 a0_3 a0_4 l1_0 a1_1 l1_2 a1_3 a1_4) else (q4_SameBasins.j0 k true l0_0 a0_1 l0_2 a0_3 a0_4 l1_0 a1_1 l1_2 a1_3 a1_4)) else (q4_SameBasins.j0 k true l0_0 a0_1 l0_2 a0_3 a0_4 l1_0 a1_1 l1_2 a1_3 a1_4)) else (q4_SameBasins.j0 k true l0_0 a0_1 l0_2 a0_3 a0_4 l1_0 a1_1 l1_2 a1_3 a1_4))) = some r:=h
 clear h
 have HC3:=am H
 clear H
 go_enter Tryz.func52,Tryz.ntmps52
 go_upto_region 1 with (first | ((refine gate_dst (N:=2) rfl ?_);(try (refine gate_guard (by rfl) ?_;dsimp only));refine box_event rfl (N:=2) rfl (cs:=#[.slice A0_0 l0_0.length c0_0,.int .i64 a0_1,.slice A0_2 l0_2.length c0_2,.int .i64 a0_3,.int .i64 a0_4]) (t:=27) ?hr ?_;(case hr=>go_simp;try rfl);intro gb370 hg w4 hbox hb;have BK370:=am (hbox);have GW370:=am (ge_new (HB.out) hg);have GE370:=am (ge_new (HB.out) hg);replace HB:=am (below_step (HB.out) hb);clear hb hbox hg) | ((refine gate_dst (N:=3) rfl ?_);(try (refine gate_guard (by rfl) ?_;dsimp only));refine box_event rfl (N:=3) rfl (cs:=#[.slice A1_0 l1_0.length c1_0,.int .i64 a1_1,.slice A1_2 l1_2.length c1_2,.int .i64 a1_3,.int .i64 a1_4]) (t:=27) ?hr ?_;(case hr=>go_simp;try rfl);intro gb371 hg w5 hbox hb;have BK371:=am (hbox);have GW371:=am (ge_new (HB.out) hg);have GE371:=am (ge_new (HB.out) hg);have NB370_371:=am (ne_new BK370.out hg);have NB371_370:=am (ne_new2 BK370.out hg);replace BK370:=(kmv hb BK370);replace HB:=am (below_step (HB.out) hb);clear hb hbox hg))
 repeat (go_quiet (first | ((refine gate_dst (N:=2) rfl ?_);(try (refine gate_guard (by rfl) ?_;dsimp only));refine box_event rfl (N:=2) rfl (cs:=#[.slice A0_0 l0_0.length c0_0,.int .i64 a0_1,.slice A0_2 l0_2.length c0_2,.int .i64 a0_3,.int .i64 a0_4]) (t:=27) ?hr ?_;(case hr=>go_simp;try rfl);intro gb370 hg w4 hbox hb;have BK370:=am (hbox);have GW370:=am (ge_new (by repeat (first | (with_reducible first | exact HB.out | apply below_alloc | apply pw_below_drewN) | exact HB.out)) hg);have GE370:=am (ge_new (by repeat (first | (with_reducible first | exact HB.out | apply below_alloc | apply pw_below_drewN) | exact HB.out)) hg);replace HB:=am (below_step (by repeat (first | (with_reducible first | exact HB.out | apply below_alloc | apply pw_below_drewN) | exact HB.out)) hb);clear hb hbox hg) | ((refine gate_dst (N:=3) rfl ?_);(try (refine gate_guard (by rfl) ?_;dsimp only));refine box_event rfl (N:=3) rfl (cs:=#[.slice A1_0 l1_0.length c1_0,.int .i64 a1_1,.slice A1_2 l1_2.length c1_2,.int .i64 a1_3,.int .i64 a1_4]) (t:=27) ?hr ?_;(case hr=>go_simp;try rfl);intro gb371 hg w5 hbox hb;have BK371:=am (hbox);have GW371:=am (ge_new (by repeat (first | (with_reducible first | exact HB.out | refine below_set ?_ GE370.out | apply below_alloc | apply pw_below_drewN) | exact HB.out)) hg);have GE371:=am (ge_new (by repeat (first | (with_reducible first | exact HB.out | refine below_set ?_ GE370.out | apply below_alloc | apply pw_below_drewN) | exact HB.out)) hg);have NB370_371:=am (ne_new BK370.out hg);have NB371_370:=am (ne_new2 BK370.out hg);replace BK370:=(kmv hb BK370);replace HB:=am (below_step (by repeat (first | (with_reducible first | exact HB.out | refine below_set ?_ GE370.out | apply below_alloc | apply pw_below_drewN) | exact HB.out)) hb);clear hb hbox hg));go_upto_region 1 with (first | ((refine gate_dst (N:=2) rfl ?_);(try (refine gate_guard (by rfl) ?_;dsimp only));refine box_event rfl (N:=2) rfl (cs:=#[.slice A0_0 l0_0.length c0_0,.int .i64 a0_1,.slice A0_2 l0_2.length c0_2,.int .i64 a0_3,.int .i64 a0_4]) (t:=27) ?hr ?_;(case hr=>go_simp;try rfl);intro gb370 hg w4 hbox hb;have BK370:=am (hbox);have GW370:=am (ge_new (by repeat (first | (with_reducible first | exact HB.out | apply below_alloc | apply pw_below_drewN) | exact HB.out)) hg);have GE370:=am (ge_new (by repeat (first | (with_reducible first | exact HB.out | apply below_alloc | apply pw_below_drewN) | exact HB.out)) hg);replace HB:=am (below_step (by repeat (first | (with_reducible first | exact HB.out | apply below_alloc | apply pw_below_drewN) | exact HB.out)) hb);clear hb hbox hg) | ((refine gate_dst (N:=3) rfl ?_);(try (refine gate_guard (by rfl) ?_;dsimp only));refine box_event rfl (N:=3) rfl (cs:=#[.slice A1_0 l1_0.length c1_0,.int .i64 a1_1,.slice A1_2 l1_2.length c1_2,.int .i64 a1_3,.int .i64 a1_4]) (t:=27) ?hr ?_;(case hr=>go_simp;try rfl);intro gb371 hg w5 hbox hb;have BK371:=am (hbox);have GW371:=am (ge_new (by repeat (first | (with_reducible first | exact HB.out | refine below_set ?_ GE370.out | apply below_alloc | apply pw_below_drewN) | exact HB.out)) hg);have GE371:=am (ge_new (by repeat (first | (with_reducible first | exact HB.out | refine below_set ?_ GE370.out | apply below_alloc | apply pw_below_drewN) | exact HB.out)) hg);have NB370_371:=am (ne_new BK370.out hg);have NB371_370:=am (ne_new2 BK370.out hg);replace BK370:=(kmv hb BK370);replace HB:=am (below_step (by repeat (first | (with_reducible first | exact HB.out | refine below_set ?_ GE370.out | apply below_alloc | apply pw_below_drewN) | exact HB.out)) hb);clear hb hbox hg)))
 (try simp only [Act.put,List.setIfInBounds_toArray,List.set_cons_zero,List.set_cons_succ])
 go_cut [34] (fun v34 wc=>∃ (kq : Nat) (x34_2 : Bool),v34 = .bool x34_2∧Aside0 (q4_SameBasins.j0 kq x34_2 l0_0 a0_1 l0_2 a0_3 a0_4 l1_0 a1_1 l1_2 a1_3 a1_4 = some r)∧Aside0 (kq≤k)∧Aside0 (wc.heap[gb370]? = some (.cells #[(.slice A0_0 l0_0.length c0_0),.int .i64 a0_1,(.slice A0_2 l0_2.length c0_2),.int .i64 a0_3,.int .i64 a0_4] 27 (0,0)))∧Aside0 (wc.heap[gb371]? = some (.cells #[(.slice A1_0 l1_0.length c1_0),.int .i64 a1_1,(.slice A1_2 l1_2.length c1_2),.int .i64 a1_3,.int .i64 a1_4] 27 (0,0)))∧Aside0 (Below w.heap.size w wc))
 case first =>
  have H:=HC3.out
  clear HC3
  replace H:=obm H
  obtain ⟨t372,A60,H⟩:=H
  replace H : (if t372 = true then (if (l0_2.length : Int) = (l1_2.length : Int) then (if a0_3 = a1_3 then (q4_SameBasins.j0 k (a0_4 != a1_4) l0_0 a0_1 l0_2 a0_3 a0_4 l1_0 a1_1 l1_2 a1_3 a1_4) else (q4_SameBasins.j0 k true l0_0 a0_1 l0_2 a0_3 a0_4 l1_0 a1_1 l1_2 a1_3 a1_4)) else (q4_SameBasins.j0 k true l0_0 a0_1 l0_2 a0_3 a0_4 l1_0 a1_1 l1_2 a1_3 a1_4)) else (q4_SameBasins.j0 k true l0_0 a0_1 l0_2 a0_3 a0_4 l1_0 a1_1 l1_2 a1_3 a1_4)) = some r:=H
  have A6:=am A60
  clear A60
  by_cases c7 : t372 = true
  case neg =>
   replace c7:=Bool.eq_false_iff.mpr c7
   subst c7
   replace H : (q4_SameBasins.j0 k true l0_0 a0_1 l0_2 a0_3 a0_4 l1_0 a1_1 l1_2 a1_3 a1_4) = some r:=by rw [if_neg (show ¬ (false = true) by decide)] at H;exact H
   replace H':=am H
   have hnb28:=NB370_371.out
   have hnc28:=NB371_370.out
   obtain ⟨hcz29_0,hcz29_1,hcz29_2,hcz29_3,hcz29_4⟩:=cO5 BK370.out
   obtain ⟨hcz30_0,hcz30_1,hcz30_2,hcz30_3,hcz30_4⟩:=cO5 BK371.out
   go_wp2_with (first | (go_at_call 95;(with_reducible refine (q3_SameTables.calls k _ _ l0_0 a0_1 _ _ l1_0 a1_1 false _ ?side1 ?side2 ?side3 ?side4 A6.out).mono ?_);(case side1=>exact kC HR0_0.out HB.out);(case side2=>exact HC0_0.out);(case side3=>exact kC HR1_0.out HB.out);(case side4=>exact HC1_0.out);rintro e w31 ⟨rfl,hb⟩;replace BK370:=(kmv hb BK370);replace BK371:=(kmv hb BK371);replace HB:=am (below_step (HB.out) hb);(try clear hb);(try clear hb2);(try clear hk);(try clear hi)))
   repeat (go_quiet (first | (go_at_call 95;(with_reducible refine (q3_SameTables.calls k _ _ l0_0 a0_1 _ _ l1_0 a1_1 false _ ?side1 ?side2 ?side3 ?side4 A6.out).mono ?_);(case side1=>repeat (first | exact (kC HR0_0.out HB.out) | (with_reducible refine Kd.C_alloc ?_ _) | (with_reducible refine Kd.C_drewN ?_ _) | (with_reducible refine Kd.C_drew ?_)));(case side2=>exact HC0_0.out);(case side3=>repeat (first | exact (kC HR1_0.out HB.out) | (with_reducible refine Kd.C_alloc ?_ _) | (with_reducible refine Kd.C_drewN ?_ _) | (with_reducible refine Kd.C_drew ?_)));(case side4=>exact HC1_0.out);rintro e w31 ⟨rfl,hb⟩;replace BK370:=(kmv hb BK370);replace BK371:=(kmv hb BK371);replace HB:=am (below_step (by repeat (first | (with_reducible first | exact HB.out | refine below_set ?_ (Aside0.out (by assumption)) | apply below_alloc | apply pw_below_drewN) | exact HB.out)) hb);(try clear hb);(try clear hb2);(try clear hk);(try clear hi)));try go_wp2_with (first | (go_at_call 95;(with_reducible refine (q3_SameTables.calls k _ _ l0_0 a0_1 _ _ l1_0 a1_1 false _ ?side1 ?side2 ?side3 ?side4 A6.out).mono ?_);(case side1=>repeat (first | exact (kC HR0_0.out HB.out) | (with_reducible refine Kd.C_alloc ?_ _) | (with_reducible refine Kd.C_drewN ?_ _) | (with_reducible refine Kd.C_drew ?_)));(case side2=>exact HC0_0.out);(case side3=>repeat (first | exact (kC HR1_0.out HB.out) | (with_reducible refine Kd.C_alloc ?_ _) | (with_reducible refine Kd.C_drewN ?_ _) | (with_reducible refine Kd.C_drew ?_)));(case side4=>exact HC1_0.out);rintro e w31 ⟨rfl,hb⟩;replace BK370:=(kmv hb BK370);replace BK371:=(kmv hb BK371);replace HB:=am (below_step (by repeat (first | (with_reducible first | exact HB.out | refine below_set ?_ (Aside0.out (by assumption)) | apply below_alloc | apply pw_below_drewN) | exact HB.out)) hb);(try clear hb);(try clear hb2);(try clear hk);(try clear hi))))
   go_meet
   case rel=>exact ⟨_,(true),(by first | rfl | (simp;done) | (simp [*];done)),H',⟨by first | omega | exact Nat.le_refl _⟩,⟨BK370.out⟩,⟨BK371.out⟩,⟨HB.out⟩⟩
  subst c7
  replace H : (if (l0_2.length : Int) = (l1_2.length : Int) then (if a0_3 = a1_3 then (q4_SameBasins.j0 k (a0_4 != a1_4) l0_0 a0_1 l0_2 a0_3 a0_4 l1_0 a1_1 l1_2 a1_3 a1_4) else (q4_SameBasins.j0 k true l0_0 a0_1 l0_2 a0_3 a0_4 l1_0 a1_1 l1_2 a1_3 a1_4)) else (q4_SameBasins.j0 k true l0_0 a0_1 l0_2 a0_3 a0_4 l1_0 a1_1 l1_2 a1_3 a1_4)) = some r:=by rw [if_pos rfl] at H;exact H
  by_cases c8 : (l0_2.length : Int) = (l1_2.length : Int)
  case neg =>
   rw [if_neg c8] at H
   have c8b0 : ((l0_2.length : Int) == (l1_2.length : Int)) = false:=beq_eq_false_iff_ne.mpr c8
   have c8b1 : ((l0_2.length : Int) != (l1_2.length : Int)) = true:=bne_iff_ne.mpr c8
   have c8b2 : (l0_2.length == l1_2.length) = false:=by first | simpa using c8 | (simp at c8 ⊢;omega)
   (first | rw [c8b0] | (simp only [i64_w,i32_w];rw [c8b0]) | skip)
   replace H':=am H
   have hnb22:=NB370_371.out
   have hnc22:=NB371_370.out
   obtain ⟨hcz23_0,hcz23_1,hcz23_2,hcz23_3,hcz23_4⟩:=cO5 BK370.out
   obtain ⟨hcz24_0,hcz24_1,hcz24_2,hcz24_3,hcz24_4⟩:=cO5 BK371.out
   go_wp2_with (first | (go_at_call 95;(with_reducible refine (q3_SameTables.calls k _ _ l0_0 a0_1 _ _ l1_0 a1_1 true _ ?side1 ?side2 ?side3 ?side4 A6.out).mono ?_);(case side1=>exact kC HR0_0.out HB.out);(case side2=>exact HC0_0.out);(case side3=>exact kC HR1_0.out HB.out);(case side4=>exact HC1_0.out);rintro e w25 ⟨rfl,hb⟩;replace BK370:=(kmv hb BK370);replace BK371:=(kmv hb BK371);replace HB:=am (below_step (HB.out) hb);(try clear hb);(try clear hb2);(try clear hk);(try clear hi);obtain ⟨hcz26_0,hcz26_1,hcz26_2,hcz26_3,hcz26_4⟩:=cO5 BK370.out;obtain ⟨hcz27_0,hcz27_1,hcz27_2,hcz27_3,hcz27_4⟩:=cO5 BK371.out))
   repeat (go_quiet (first | (go_at_call 95;(with_reducible refine (q3_SameTables.calls k _ _ l0_0 a0_1 _ _ l1_0 a1_1 true _ ?side1 ?side2 ?side3 ?side4 A6.out).mono ?_);(case side1=>repeat (first | exact (kC HR0_0.out HB.out) | (with_reducible refine Kd.C_alloc ?_ _) | (with_reducible refine Kd.C_drewN ?_ _) | (with_reducible refine Kd.C_drew ?_)));(case side2=>exact HC0_0.out);(case side3=>repeat (first | exact (kC HR1_0.out HB.out) | (with_reducible refine Kd.C_alloc ?_ _) | (with_reducible refine Kd.C_drewN ?_ _) | (with_reducible refine Kd.C_drew ?_)));(case side4=>exact HC1_0.out);rintro e w25 ⟨rfl,hb⟩;replace BK370:=(kmv hb BK370);replace BK371:=(kmv hb BK371);replace HB:=am (below_step (by repeat (first | (with_reducible first | exact HB.out | refine below_set ?_ (Aside0.out (by assumption)) | apply below_alloc | apply pw_below_drewN) | exact HB.out)) hb);(try clear hb);(try clear hb2);(try clear hk);(try clear hi);obtain ⟨hcz26_0,hcz26_1,hcz26_2,hcz26_3,hcz26_4⟩:=cO5 BK370.out;obtain ⟨hcz27_0,hcz27_1,hcz27_2,hcz27_3,hcz27_4⟩:=cO5 BK371.out));try go_wp2_with (first | (go_at_call 95;(with_reducible refine (q3_SameTables.calls k _ _ l0_0 a0_1 _ _ l1_0 a1_1 true _ ?side1 ?side2 ?side3 ?side4 A6.out).mono ?_);(case side1=>repeat (first | exact (kC HR0_0.out HB.out) | (with_reducible refine Kd.C_alloc ?_ _) | (with_reducible refine Kd.C_drewN ?_ _) | (with_reducible refine Kd.C_drew ?_)));(case side2=>exact HC0_0.out);(case side3=>repeat (first | exact (kC HR1_0.out HB.out) | (with_reducible refine Kd.C_alloc ?_ _) | (with_reducible refine Kd.C_drewN ?_ _) | (with_reducible refine Kd.C_drew ?_)));(case side4=>exact HC1_0.out);rintro e w25 ⟨rfl,hb⟩;replace BK370:=(kmv hb BK370);replace BK371:=(kmv hb BK371);replace HB:=am (below_step (by repeat (first | (with_reducible first | exact HB.out | refine below_set ?_ (Aside0.out (by assumption)) | apply below_alloc | apply pw_below_drewN) | exact HB.out)) hb);(try clear hb);(try clear hb2);(try clear hk);(try clear hi);obtain ⟨hcz26_0,hcz26_1,hcz26_2,hcz26_3,hcz26_4⟩:=cO5 BK370.out;obtain ⟨hcz27_0,hcz27_1,hcz27_2,hcz27_3,hcz27_4⟩:=cO5 BK371.out)))
   go_meet
   case rel=>exact ⟨_,(true),(by first | rfl | (simp;done) | (simp [*];done)),H',⟨by first | omega | exact Nat.le_refl _⟩,⟨BK370.out⟩,⟨BK371.out⟩,⟨HB.out⟩⟩
  rw [if_pos c8] at H
  have c8b0 : ((l0_2.length : Int) == (l1_2.length : Int)) = true:=beq_iff_eq.mpr c8
  have c8b1 : ((l0_2.length : Int) != (l1_2.length : Int)) = false:=bne_eq_false_iff_eq.mpr c8
  have c8b2 : (l0_2.length == l1_2.length) = true:=by first | simpa using c8 | (simp at c8 ⊢;omega)
  clear c8
  (first | rw [c8b0] | (simp only [i64_w,i32_w];rw [c8b0]) | skip)
  by_cases c9 : a0_3 = a1_3
  case neg =>
   rw [if_neg c9] at H
   have c9b0 : (a0_3 == a1_3) = false:=beq_eq_false_iff_ne.mpr c9
   have c9b1 : (a0_3 != a1_3) = true:=bne_iff_ne.mpr c9
   replace H':=am H
   have hnb16:=NB370_371.out
   have hnc16:=NB371_370.out
   obtain ⟨hcz17_0,hcz17_1,hcz17_2,hcz17_3,hcz17_4⟩:=cO5 BK370.out
   obtain ⟨hcz18_0,hcz18_1,hcz18_2,hcz18_3,hcz18_4⟩:=cO5 BK371.out
   go_wp2_with (first | (go_at_call 95;(with_reducible refine (q3_SameTables.calls k _ _ l0_0 a0_1 _ _ l1_0 a1_1 true _ ?side1 ?side2 ?side3 ?side4 A6.out).mono ?_);(case side1=>exact kC HR0_0.out HB.out);(case side2=>exact HC0_0.out);(case side3=>exact kC HR1_0.out HB.out);(case side4=>exact HC1_0.out);rintro e w19 ⟨rfl,hb⟩;replace BK370:=(kmv hb BK370);replace BK371:=(kmv hb BK371);replace HB:=am (below_step (HB.out) hb);(try clear hb);(try clear hb2);(try clear hk);(try clear hi);obtain ⟨hcz20_0,hcz20_1,hcz20_2,hcz20_3,hcz20_4⟩:=cO5 BK370.out;obtain ⟨hcz21_0,hcz21_1,hcz21_2,hcz21_3,hcz21_4⟩:=cO5 BK371.out))
   repeat (go_quiet (first | (go_at_call 95;(with_reducible refine (q3_SameTables.calls k _ _ l0_0 a0_1 _ _ l1_0 a1_1 true _ ?side1 ?side2 ?side3 ?side4 A6.out).mono ?_);(case side1=>repeat (first | exact (kC HR0_0.out HB.out) | (with_reducible refine Kd.C_alloc ?_ _) | (with_reducible refine Kd.C_drewN ?_ _) | (with_reducible refine Kd.C_drew ?_)));(case side2=>exact HC0_0.out);(case side3=>repeat (first | exact (kC HR1_0.out HB.out) | (with_reducible refine Kd.C_alloc ?_ _) | (with_reducible refine Kd.C_drewN ?_ _) | (with_reducible refine Kd.C_drew ?_)));(case side4=>exact HC1_0.out);rintro e w19 ⟨rfl,hb⟩;replace BK370:=(kmv hb BK370);replace BK371:=(kmv hb BK371);replace HB:=am (below_step (by repeat (first | (with_reducible first | exact HB.out | refine below_set ?_ (Aside0.out (by assumption)) | apply below_alloc | apply pw_below_drewN) | exact HB.out)) hb);(try clear hb);(try clear hb2);(try clear hk);(try clear hi);obtain ⟨hcz20_0,hcz20_1,hcz20_2,hcz20_3,hcz20_4⟩:=cO5 BK370.out;obtain ⟨hcz21_0,hcz21_1,hcz21_2,hcz21_3,hcz21_4⟩:=cO5 BK371.out));try go_wp2_with (first | (go_at_call 95;(with_reducible refine (q3_SameTables.calls k _ _ l0_0 a0_1 _ _ l1_0 a1_1 true _ ?side1 ?side2 ?side3 ?side4 A6.out).mono ?_);(case side1=>repeat (first | exact (kC HR0_0.out HB.out) | (with_reducible refine Kd.C_alloc ?_ _) | (with_reducible refine Kd.C_drewN ?_ _) | (with_reducible refine Kd.C_drew ?_)));(case side2=>exact HC0_0.out);(case side3=>repeat (first | exact (kC HR1_0.out HB.out) | (with_reducible refine Kd.C_alloc ?_ _) | (with_reducible refine Kd.C_drewN ?_ _) | (with_reducible refine Kd.C_drew ?_)));(case side4=>exact HC1_0.out);rintro e w19 ⟨rfl,hb⟩;replace BK370:=(kmv hb BK370);replace BK371:=(kmv hb BK371);replace HB:=am (below_step (by repeat (first | (with_reducible first | exact HB.out | refine below_set ?_ (Aside0.out (by assumption)) | apply below_alloc | apply pw_below_drewN) | exact HB.out)) hb);(try clear hb);(try clear hb2);(try clear hk);(try clear hi);obtain ⟨hcz20_0,hcz20_1,hcz20_2,hcz20_3,hcz20_4⟩:=cO5 BK370.out;obtain ⟨hcz21_0,hcz21_1,hcz21_2,hcz21_3,hcz21_4⟩:=cO5 BK371.out)))
   go_meet
   case rel=>exact ⟨_,(true),(by first | rfl | (simp;done) | (simp [*];done)),H',⟨by first | omega | exact Nat.le_refl _⟩,⟨BK370.out⟩,⟨BK371.out⟩,⟨HB.out⟩⟩
  rw [if_pos c9] at H
  have c9b0 : (a0_3 == a1_3) = true:=beq_iff_eq.mpr c9
  have c9b1 : (a0_3 != a1_3) = false:=bne_eq_false_iff_eq.mpr c9
  clear c9
  replace H':=am H
  have hnb10:=NB370_371.out
  have hnc10:=NB371_370.out
  obtain ⟨hcz11_0,hcz11_1,hcz11_2,hcz11_3,hcz11_4⟩:=cO5 BK370.out
  obtain ⟨hcz12_0,hcz12_1,hcz12_2,hcz12_3,hcz12_4⟩:=cO5 BK371.out
  go_wp2_with (first | (go_at_call 95;(with_reducible refine (q3_SameTables.calls k _ _ l0_0 a0_1 _ _ l1_0 a1_1 true _ ?side1 ?side2 ?side3 ?side4 A6.out).mono ?_);(case side1=>exact kC HR0_0.out HB.out);(case side2=>exact HC0_0.out);(case side3=>exact kC HR1_0.out HB.out);(case side4=>exact HC1_0.out);rintro e w13 ⟨rfl,hb⟩;replace BK370:=(kmv hb BK370);replace BK371:=(kmv hb BK371);replace HB:=am (below_step (HB.out) hb);(try clear hb);(try clear hb2);(try clear hk);(try clear hi);obtain ⟨hcz14_0,hcz14_1,hcz14_2,hcz14_3,hcz14_4⟩:=cO5 BK370.out;obtain ⟨hcz15_0,hcz15_1,hcz15_2,hcz15_3,hcz15_4⟩:=cO5 BK371.out))
  repeat (go_quiet (first | (go_at_call 95;(with_reducible refine (q3_SameTables.calls k _ _ l0_0 a0_1 _ _ l1_0 a1_1 true _ ?side1 ?side2 ?side3 ?side4 A6.out).mono ?_);(case side1=>repeat (first | exact (kC HR0_0.out HB.out) | (with_reducible refine Kd.C_alloc ?_ _) | (with_reducible refine Kd.C_drewN ?_ _) | (with_reducible refine Kd.C_drew ?_)));(case side2=>exact HC0_0.out);(case side3=>repeat (first | exact (kC HR1_0.out HB.out) | (with_reducible refine Kd.C_alloc ?_ _) | (with_reducible refine Kd.C_drewN ?_ _) | (with_reducible refine Kd.C_drew ?_)));(case side4=>exact HC1_0.out);rintro e w13 ⟨rfl,hb⟩;replace BK370:=(kmv hb BK370);replace BK371:=(kmv hb BK371);replace HB:=am (below_step (by repeat (first | (with_reducible first | exact HB.out | refine below_set ?_ (Aside0.out (by assumption)) | apply below_alloc | apply pw_below_drewN) | exact HB.out)) hb);(try clear hb);(try clear hb2);(try clear hk);(try clear hi);obtain ⟨hcz14_0,hcz14_1,hcz14_2,hcz14_3,hcz14_4⟩:=cO5 BK370.out;obtain ⟨hcz15_0,hcz15_1,hcz15_2,hcz15_3,hcz15_4⟩:=cO5 BK371.out));try go_wp2_with (first | (go_at_call 95;(with_reducible refine (q3_SameTables.calls k _ _ l0_0 a0_1 _ _ l1_0 a1_1 true _ ?side1 ?side2 ?side3 ?side4 A6.out).mono ?_);(case side1=>repeat (first | exact (kC HR0_0.out HB.out) | (with_reducible refine Kd.C_alloc ?_ _) | (with_reducible refine Kd.C_drewN ?_ _) | (with_reducible refine Kd.C_drew ?_)));(case side2=>exact HC0_0.out);(case side3=>repeat (first | exact (kC HR1_0.out HB.out) | (with_reducible refine Kd.C_alloc ?_ _) | (with_reducible refine Kd.C_drewN ?_ _) | (with_reducible refine Kd.C_drew ?_)));(case side4=>exact HC1_0.out);rintro e w13 ⟨rfl,hb⟩;replace BK370:=(kmv hb BK370);replace BK371:=(kmv hb BK371);replace HB:=am (below_step (by repeat (first | (with_reducible first | exact HB.out | refine below_set ?_ (Aside0.out (by assumption)) | apply below_alloc | apply pw_below_drewN) | exact HB.out)) hb);(try clear hb);(try clear hb2);(try clear hk);(try clear hi);obtain ⟨hcz14_0,hcz14_1,hcz14_2,hcz14_3,hcz14_4⟩:=cO5 BK370.out;obtain ⟨hcz15_0,hcz15_1,hcz15_2,hcz15_3,hcz15_4⟩:=cO5 BK371.out)))
  go_meet
  case rel=>exact ⟨_,((a0_4 != a1_4)),(by first | rfl | (simp;done) | (simp [*];done)),H',⟨by first | omega | exact Nat.le_refl _⟩,⟨BK370.out⟩,⟨BK371.out⟩,⟨HB.out⟩⟩
 case rest =>
  clear HC3
  obtain ⟨kq,x34_2,rfl,HA,HJ2,BK370,BK371,HB⟩:=hcut
  cases kq with
  | zero=>exact absurd HA.out (by simp [q4_SameBasins.j0])
  | succ kj2 =>
   have H:=HA.out
   clear HA
   simp only [q4_SameBasins.j0] at H
   by_cases c32 : x34_2 = true
   ·subst c32
    replace H : (some false) = some r:=by rw [if_pos rfl] at H;exact H
    obtain rfl:=Option.some.inj H
    go_wp2
    repeat (go_quiet (fail);try go_wp2)
    go_ret
    exact ⟨by first | rfl | (simp [*]<;>rfl),HB.out⟩
   ·replace c32:=Bool.eq_false_iff.mpr c32
    subst c32
    replace H : (q4_SameBasins.l0 kj2 0 l0_0 a0_1 l0_2 a0_3 a0_4 l1_0 a1_1 l1_2 a1_3 a1_4) = some r:=by rw [if_neg (show ¬ (false = true) by decide)] at H;exact H
    replace H':=am H
    go_wp2
    repeat (go_quiet (fail);try go_wp2)
    go_loopg [5] kj2 (fun kq v5 w'=>∃ (x5_2 : Int),v5 = .int .i64 x5_2∧Aside0 (q4_SameBasins.l0 kq x5_2 l0_0 a0_1 l0_2 a0_3 a0_4 l1_0 a1_1 l1_2 a1_3 a1_4 = some r)∧Aside0 (kq≤kj2)∧Aside0 (w'.heap[gb370]? = some (.cells #[(.slice A0_0 l0_0.length c0_0),.int .i64 a0_1,(.slice A0_2 l0_2.length c0_2),.int .i64 a0_3,.int .i64 a0_4] 27 (0,0)))∧Aside0 (w'.heap[gb371]? = some (.cells #[(.slice A1_0 l1_0.length c1_0),.int .i64 a1_1,(.slice A1_2 l1_2.length c1_2),.int .i64 a1_3,.int .i64 a1_4] 27 (0,0)))∧Aside0 (Below w.heap.size w w'))
    case atStart=>exact ⟨(0),(by first | rfl | (simp;done) | (simp [*];done)),H',⟨Nat.le_refl _⟩,⟨BK370.out⟩,⟨BK371.out⟩,⟨HB.out⟩⟩
    case round =>
     clear H'
     obtain ⟨x5_2,rfl,HA,HK2,BK370,BK371,HB⟩:=hrel
     cases gk with
     | zero=>exact absurd HA.out (by simp [q4_SameBasins.l0])
     | succ k2 =>
      have H:=HA.out
      clear HA
      simp only [q4_SameBasins.l0] at H
      by_cases c33 : x5_2 < (l0_2.length : Int)
      case neg =>
       rw [if_neg c33] at H
       have c33b0 : decide (x5_2 < (l0_2.length : Int)) = false:=decide_eq_false c33
       clear c33
       obtain rfl:=Option.some.inj H
       have hnb43:=NB370_371.out
       have hnc43:=NB371_370.out
       obtain ⟨hcz44_0,hcz44_1,hcz44_2,hcz44_3,hcz44_4⟩:=cO5 BK370.out
       go_wp2
       repeat (go_quiet (fail);try go_wp2)
       go_ret
       exact ⟨by first | rfl | (simp [*]<;>rfl),HB.out⟩
      rw [if_pos c33] at H
      have c33b0 : decide (x5_2 < (l0_2.length : Int)) = true:=decide_eq_true c33
      clear c33
      by_cases c34 : 0≤x5_2
      case neg =>
       rw [if_neg c34] at H
       exact absurd H (by simp)
      rw [if_pos c34] at H
      have c34b0 : decide (0≤x5_2) = true:=decide_eq_true c34
      clear c34
      by_cases c35 : x5_2 < (l1_2.length : Int)
      case neg =>
       rw [if_neg c35] at H
       exact absurd H (by simp)
      rw [if_pos c35] at H
      have c35b0 : decide (x5_2 < (l1_2.length : Int)) = true:=decide_eq_true c35
      clear c35
      by_cases c36 : (!(((rd_T48 l0_2 x5_2).f0) == ((rd_T48 l1_2 x5_2).f0)) || (!(((rd_T48 l0_2 x5_2).f1) == ((rd_T48 l1_2 x5_2).f1)))) = true
      ·rw [if_pos c36] at H
       have c36b0 : (!(((rd_T48 l0_2 x5_2).f0) == ((rd_T48 l1_2 x5_2).f0)) || (!(((rd_T48 l0_2 x5_2).f1) == ((rd_T48 l1_2 x5_2).f1)))) = true:=c36
       clear c36
       obtain rfl:=Option.some.inj H
       have hnb37:=NB370_371.out
       have hnc37:=NB371_370.out
       obtain ⟨hcz38_0,hcz38_1,hcz38_2,hcz38_3,hcz38_4⟩:=cO5 BK370.out
       have p373 : 0≤(x5_2 : Int):=of_decide_eq_true (by assumption)
       have q373 : x5_2 < (l0_2.length : Int):=of_decide_eq_true (by assumption)
       obtain ⟨ad373,e373,hx373_0,hx373_1⟩:=at_T48 HR0_2.out x5_2 p373 q373
       cases e373
       replace hx373_0:=(HB.out.cell (wbl hx373_0)).trans hx373_0
       replace hx373_1:=(HB.out.cell (wbl hx373_1)).trans hx373_1
       replace p373:=eq_true p373
       replace q373:=eq_true q373
       obtain ⟨hcz39_0,hcz39_1,hcz39_2,hcz39_3,hcz39_4⟩:=cO5 BK371.out
       have p374 : 0≤(x5_2 : Int):=of_decide_eq_true (by assumption)
       have q374 : x5_2 < (l1_2.length : Int):=of_decide_eq_true (by assumption)
       obtain ⟨ad374,e374,hx374_0,hx374_1⟩:=at_T48 HR1_2.out x5_2 p374 q374
       cases e374
       replace hx374_0:=(HB.out.cell (wbl hx374_0)).trans hx374_0
       replace hx374_1:=(HB.out.cell (wbl hx374_1)).trans hx374_1
       replace p374:=eq_true p374
       replace q374:=eq_true q374
       go_wp2
       repeat (go_quiet (fail);try go_wp2)
       go_ret
       exact ⟨by first | rfl | (simp [*]<;>rfl),pw_below_drewN HB.out _⟩
      ·rw [if_neg c36] at H
       have c36b0 : (!(((rd_T48 l0_2 x5_2).f0) == ((rd_T48 l1_2 x5_2).f0)) || (!(((rd_T48 l0_2 x5_2).f1) == ((rd_T48 l1_2 x5_2).f1)))) = false:=by simpa using c36
       clear c36
       replace H':=am H
       have hnb40:=NB370_371.out
       have hnc40:=NB371_370.out
       obtain ⟨hcz41_0,hcz41_1,hcz41_2,hcz41_3,hcz41_4⟩:=cO5 BK370.out
       have p373 : 0≤(x5_2 : Int):=of_decide_eq_true (by assumption)
       have q373 : x5_2 < (l0_2.length : Int):=of_decide_eq_true (by assumption)
       obtain ⟨ad373,e373,hx373_0,hx373_1⟩:=at_T48 HR0_2.out x5_2 p373 q373
       cases e373
       replace hx373_0:=(HB.out.cell (wbl hx373_0)).trans hx373_0
       replace hx373_1:=(HB.out.cell (wbl hx373_1)).trans hx373_1
       replace p373:=eq_true p373
       replace q373:=eq_true q373
       obtain ⟨hcz42_0,hcz42_1,hcz42_2,hcz42_3,hcz42_4⟩:=cO5 BK371.out
       have p374 : 0≤(x5_2 : Int):=of_decide_eq_true (by assumption)
       have q374 : x5_2 < (l1_2.length : Int):=of_decide_eq_true (by assumption)
       obtain ⟨ad374,e374,hx374_0,hx374_1⟩:=at_T48 HR1_2.out x5_2 p374 q374
       cases e374
       replace hx374_0:=(HB.out.cell (wbl hx374_0)).trans hx374_0
       replace hx374_1:=(HB.out.cell (wbl hx374_1)).trans hx374_1
       replace p374:=eq_true p374
       replace q374:=eq_true q374
       go_wp2
       repeat (go_quiet (fail);try go_wp2)
       go_roundg k2
       case measure=>have:=HJ2.out;have:=HK2.out;omega
       case rel=>exact ⟨(wrap64 (x5_2 + 1)),(by first | rfl | (simp;done) | (simp [*];done)),H',⟨by have:=HJ2.out;have:=HK2.out;omega⟩,⟨BK370.out⟩,⟨BK371.out⟩,⟨pw_below_drewN HB.out _⟩⟩
end
end Go.Proofs.YtnnmnhpeblhiiaaGreatDoor.C
namespace Go.Abs
open Go.RowKit Go.Proofs.YtnnmnhpeblhiiaaGreatDoorW.PrintWords Go.Proofs.YtnnmnhpeblhiiaaGreatDoorW.PrintMore
set_option linter.unusedVariables false
set_option linter.unusedSimpArgs false
set_option maxHeartbeats 16000000
set_option maxRecDepth 100000
noncomputable def capOk (k : Nat) (s : St) (v : AV) : Bool:=
 match v with
 | .nilSlice=>true
 | .slice _ _ n c=>Nat.ble n c
 | .opn b n=>match s.heap.get b with
  | some (.cells _ (some k') cs)=>Nat.beq k' k && Nat.ble 1 k && Nat.ble (n * k) cs.length
  | some (.ro _ (some k') cs)=>Nat.beq k' k && Nat.ble 1 k && Nat.ble (n * k) cs.length
  | _=>false
 | _=>false
theorem capOk_le {e : Env} {s : St} {w : World} (hs : Sim e s w) {k n m c : Nat} {v : AV} {A : Option Addr} (h : capOk k s v = true) (hx : conc e v = some (.slice A m c)) : m≤c:=by
 unfold capOk at h
 split at h
 ·simp only [conc,Option.some.injEq,Value.slice.injEq] at hx;omega
 ·simp only [conc,Option.map_eq_some_iff,Value.slice.injEq] at hx
  obtain ⟨p,_,_,rfl,rfl⟩:=hx
  exact Nat.le_of_ble_eq_true h
 ·simp only [conc,Option.map_eq_some_iff,Value.slice.injEq] at hx
  obtain ⟨p,hp,_,rfl,rfl⟩:=hx
  have key : ∀ {n' k' : Nat} {cs : List AV} {vs rest : List Value},(Nat.beq k' k && Nat.ble 1 k && Nat.ble (n' * k) cs.length) = true→concL e cs = some vs→(vs ++ rest).length = p.2 * k'→n'≤p.2:=by
   intro n' k' cs vs rest h h1 h2
   simp only [Bool.and_eq_true,Nat.beq_eq,Nat.ble_eq] at h
   obtain ⟨⟨rfl,h3⟩,h4⟩:=h
   rw [List.length_append,concL_length h1] at h2
   exact Nat.le_of_mul_le_mul_right (by omega : n' * k'≤p.2 * k') (by omega)
  split at h
  ·rename_i hb
   obtain ⟨b,q,ob,he,_,vs,rest,h1,rfl,h2⟩:=hs.at_ _ _ hb
   rw [hp] at he;cases he
   exact key h h1 h2
  ·rename_i hb
   obtain ⟨b,q,ob,he,_,vs,rest,h1,rfl,h2⟩:=hs.at_ _ _ hb
   rw [hp] at he;cases he
   exact key h h1 (h2 _ rfl)
  ·cases h
 ·cases h
theorem first_cells {e : Env} {s : St} {w : World} (hs : Sim e s w) {m n c : Nat} {v : AV} {cs : List AV} {A : Option Addr} (h : firstA m v s = some cs) (hx : conc e v = some (.slice A n c)) (hm : 0 < m) :
 ∃ ad vs,A = some ad∧concL e cs = some vs∧∀ i u,vs[i]? = some u→w.cell? (ad.add i) = some u:=by
 have cell : ∀ {g o : Nat} {t : TypeId} {vs rest us : List Value},w.heap[g]? = some (.cells (vs ++ rest).toArray t (0,0))→(∀ i u,us[i]? = some u→vs[o + i]? = some u)→∀ i u,us[i]? = some u→w.cell? ((⟨g,o,none⟩ : Addr).add i) = some u:=by
  intro g o t vs rest us hg hus i u hu
  have h1:=hus i u hu
  have h2 : o + i < vs.length:=(List.getElem?_eq_some_iff.1 h1).1
  rw [addr_add]
  simp only [World.cell?,hg]
  simp only [Option.isSome_none,Bool.false_eq_true,if_false,List.getElem?_toArray]
  rw [List.getElem?_append_left h2];exact h1
 unfold firstA at h
 split at h
 ·split at h
  ·omega
  ·cases h
 ·simp only [Option.bind_eq_some_iff] at h
  obtain ⟨ds,hg,h⟩:=h
  split at h
  ·simp only [Option.some.injEq] at h;subst h
   obtain ⟨g,q,t,vs,rest,he,hb,hvs⟩:=rd_at hs hg
   simp only [conc,he,Option.map_some,Option.some.injEq,Value.slice.injEq] at hx
   obtain ⟨rfl,_,_⟩:=hx
   refine ⟨_,_,rfl,concL_take (concL_drop hvs _) _,cell hb fun i u hu=>?_⟩
   rw [List.getElem?_take] at hu
   split at hu
   ·rw [List.getElem?_drop] at hu;exact hu
   ·cases hu
  ·cases h
 ·simp only [Option.bind_eq_some_iff] at h
  obtain ⟨ds,hg,h⟩:=h
  split at h
  ·simp only [Option.some.injEq] at h;subst h
   obtain ⟨g,q,t,vs,rest,he,hb,hvs⟩:=rd_at hs hg
   simp only [conc,he,Option.map_some,Option.some.injEq,Value.slice.injEq] at hx
   obtain ⟨rfl,_,_⟩:=hx
   refine ⟨_,_,rfl,concL_take hvs _,cell hb fun i u hu=>?_⟩
   rw [List.getElem?_take] at hu
   split at hu
   ·rw [Nat.zero_add];exact hu
   ·cases hu
  ·cases h
 ·cases h
noncomputable def rdG {α : Type} (sz : Nat) (dec : List AV→Option (List α)) (s : St) (v : AV) : Option (List α):=
 if capOk sz s v then (lenSl v).bind fun n=>if Nat.ble n 1000000 then (firstA (n * sz) v s).bind fun cs=>(dec cs).bind fun xs=>if Nat.beq xs.length n then some xs else none else none else none
theorem rdG_ok {α : Type} {d : Kd α} {e : Env} {s : St} {w : World} (hs : Sim e s w) {dec : List AV→Option (List α)} (hsz : 0 < d.sz)
 (hdec : ∀ cs xs vs,dec cs = some xs→concL e cs = some vs→∀ j p,xs[j]? = some p→d.K w p ((vs.drop (j * d.sz)).take d.sz))
 {v : AV} {xs : List α} {x : Value} (h : rdG d.sz dec s v = some xs) (hx : conc e v = some x) : ∃ A c,x = .slice A xs.length c∧xs.length≤c∧d.C w A xs.length xs:=by
 unfold rdG at h
 split at h
 case isFalse=>cases h
 rename_i hcap
 simp only [Option.bind_eq_some_iff] at h
 obtain ⟨n,hn,h⟩:=h
 split at h
 case isFalse=>cases h
 rename_i hle
 simp only [Option.bind_eq_some_iff] at h
 obtain ⟨cs,hcs,xs',hxs,h⟩:=h
 split at h
 case isFalse=>cases h
 rename_i hlen
 cases h
 have hlen : xs.length = n:=Nat.eq_of_beq_eq_true hlen
 subst hlen
 obtain ⟨_,A,c,rfl⟩:=lenSl_run hn hx
 refine ⟨A,c,rfl,capOk_le hs (n:=0) hcap hx,rfl,by have:=Nat.le_of_ble_eq_true hle;omega,fun h0=>?_⟩
 obtain ⟨ad,vs,rfl,hvs,hcell⟩:=first_cells hs hcs hx (Nat.mul_pos h0 hsz)
 refine ⟨ad,rfl,fun j p hj=>⟨_,d.K_len (hdec cs xs vs hxs hvs j p hj),hdec cs xs vs hxs hvs j p hj,fun i u hu=>?_⟩⟩
 rw [List.getElem?_take] at hu
 split at hu
 ·rw [List.getElem?_drop] at hu
  exact hcell _ u hu
 ·cases hu
def intsA : List AV→Option (List Int)
 | []=>some []
 | .int .i64 a :: l=>(intsA l).map (a :: ·)
 | _=>none
theorem intsA_eq : ∀ {cs : List AV} {xs : List Int},intsA cs = some xs→cs = xs.map (.int .i64)
 | [],_,h=>by cases h;rfl
 | a :: l,xs,h=>by
  unfold intsA at h
  split at h
  ·cases ‹_ :: _ = []›
  ·rename_i heq;cases heq
   simp only [Option.map_eq_some_iff] at h
   obtain ⟨ys,h1,rfl⟩:=h
   rw [intsA_eq h1];rfl
  ·cases h
theorem concL_ints (e : Env) : ∀ xs : List Int,concL e (xs.map (.int .i64)) = some (xs.map (Value.int .i64))
 | []=>rfl
 | x :: xs=>by simp [concL,conc,concL_ints e xs]
noncomputable def rdInts : St→AV→Option (List Int):=rdG 1 intsA
theorem rdInts_ok {e : Env} {s : St} {w : World} (hs : Sim e s w) {v : AV} {xs : List Int} {x : Value} (h : rdInts s v = some xs) (hx : conc e v = some x) : ∃ A c,x = .slice A xs.length c∧xs.length≤c∧(Kd.int .i64).C w A xs.length xs:=by
 refine rdG_ok (d:=Kd.int .i64) hs (by show 0 < 1;omega) (fun cs xs vs h1 h2 j p hj=>?_) h hx
 rw [intsA_eq h1,concL_ints] at h2;cases h2
 show ((xs.map (Value.int .i64)).drop (j * 1)).take 1 = [.int .i64 p]
 have : (xs.map (Value.int .i64))[j * 1]? = some (.int .i64 p):=by simp [hj]
 rw [List.drop_eq_getElem?_toList_append]
 rw [this];rfl
noncomputable def eachA {α : Type} (f : AV→Option α) : List AV→Option (List α)
 | []=>some []
 | v :: l=>(f v).bind fun x=>(eachA f l).map (x :: ·)
theorem eachA_at {α : Type} {f : AV→Option α} : ∀ {cs : List AV} {xs : List α},eachA f cs = some xs→∀ {e : Env} {vs : List Value},concL e cs = some vs→∀ j p,xs[j]? = some p→∃ v y,f v = some p∧conc e v = some y∧(vs.drop (j * 1)).take 1 = [y]
 | [],_,h,e,vs,hv,j,p,hj=>by cases h;simp at hj
 | c :: cs,xs,h,e,vs,hv,j,p,hj=>by
  simp only [eachA,Option.bind_eq_some_iff,Option.map_eq_some_iff] at h
  obtain ⟨x,hx,ys,hys,rfl⟩:=h
  obtain ⟨y,zs,hy,hzs,rfl⟩:=concL_cons hv
  cases j with
  | zero=>cases hj;exact ⟨c,y,hx,hy,by simp⟩
  | succ j =>
   obtain ⟨v,y',h1,h2,h3⟩:=eachA_at hys hzs j p (by simpa using hj)
   exact ⟨v,y',h1,h2,by rw [show (j + 1) * 1 = j * 1 + 1 by omega];exact h3⟩
noncomputable def rdLists (s : St) : AV→Option (List (List Int)):=rdG 1 (eachA (rdInts s)) s
theorem rdLists_ok {e : Env} {s : St} {w : World} (hs : Sim e s w) {v : AV} {xs : List (List Int)} {x : Value} (h : rdLists s v = some xs) (hx : conc e v = some x) : ∃ A c,x = .slice A xs.length c∧xs.length≤c∧(Kd.slice 3 (Kd.int .i64)).C w A xs.length xs:=by
 refine rdG_ok (d:=Kd.slice 3 (Kd.int .i64)) hs (by show 0 < 1;omega) (fun cs xs vs h1 h2 j p hj=>?_) h hx
 obtain ⟨v,y,h3,h4,h5⟩:=eachA_at h1 h2 j p hj
 obtain ⟨A,c,rfl,h6,h7⟩:=rdInts_ok hs h3 h4
 exact ⟨A,c,h5,h6,h7⟩
theorem grow {e : Env} {s : St} {w w' : World} (h : Sim e s w) (hb : Below w.heap.size w w') : Sim e s w'∧Goes e s w e s w':=by
 refine ⟨⟨fun n x hx=>?_,h.inj,fun n b q hn=>Nat.lt_of_lt_of_le (h.bound n b q hn) hb.size⟩,⟨Env.le.refl e,fun _ h=>.inl h,fun _ _ h=>h,fun _ _ h=>h,fun b hb' _=>hb.block b hb',hb.size,hb.os,hb.tape,hb.output,fun _ _=>rfl,fun _ h=>h,Nat.le_refl _⟩⟩
 obtain ⟨b,q,ob,he,hw,hr⟩:=h.at_ n x hx
 exact ⟨b,q,ob,he,(hb.block b (h.bound n b q he)).trans hw,hr⟩
def RwBelow (e : Env) (s : St) (B : Nat) : Prop:=∀ n x b q,s.heap.get n = some x→x.rw→e n = some (b,q)→b < B
theorem addAt {e0 e : Env} {s0 s : St} {w0 w : World} (hg : Goes e0 s0 w0 e s w) (h : Sim e s w) (hr : RwBelow e s w0.heap.size) {g q : Nat} {blk : Blk} {ob : Obj} (hfree : e s.next = none) (h0 : w0.heap.size≤g) (hlt : g < w.heap.size)
 (hro : ¬ blk.rw∨∀ n x q,s.heap.get n = some x→e n ≠ some (g,q)) (hob : w.heap[g]? = some ob) (hb : BlkRel (e.upd s.next (g,q)) q blk ob) :
 Sim (e.upd s.next (g,q)) (s.add blk) w∧Goes e0 s0 w0 (e.upd s.next (g,q)) (s.add blk) w∧(¬ blk.rw→RwBelow (e.upd s.next (g,q)) (s.add blk) w0.heap.size):=by
 have hle:=Env.le_upd (g,q) hfree
 refine ⟨⟨?_,?_,?_⟩,⟨hg.le.trans hle,?_,?_,?_,hg.frame,hg.size,hg.os,hg.tape,hg.output,?_,?_,Nat.le_trans hg.next (Nat.le_succ _)⟩,?_⟩
 ·intro m x hx
  simp only [St.add,Tr.get_set] at hx
  split at hx
  ·subst m;cases hx;exact ⟨g,q,ob,Env.upd_self ..,hob,hb⟩
  ·obtain ⟨b',q',ob',he',hb',hr'⟩:=h.at_ m x hx
   exact ⟨b',q',ob',hle _ _ he',hb',hr'.le hle⟩
 ·intro m k b' q1 q2 x y hm hmr hk em ek
  simp only [St.add,Tr.get_set] at hm hk
  by_cases e1 : m = s.next<;>by_cases e2 : k = s.next
  ·rw [e1,e2]
  ·subst e1;rw [Env.upd_self] at em;cases em;rw [Env.upd_ne _ _ e2] at ek;rw [if_neg e2] at hk;rw [if_pos rfl] at hm;cases hm
   rcases hro with hro | hro
   ·exact absurd hmr hro
   ·exact absurd ek (hro _ _ _ hk)
  ·subst e2;rw [Env.upd_self] at ek;cases ek;rw [Env.upd_ne _ _ e1] at em;rw [if_neg e1] at hm
   exact absurd (hr m _ _ _ hm hmr em) (by omega)
  ·rw [if_neg e1] at hm;rw [if_neg e2] at hk;rw [Env.upd_ne _ _ e1] at em;rw [Env.upd_ne _ _ e2] at ek
   exact h.inj m k b' q1 q2 _ _ hm hmr hk em ek
 ·intro m b' q' hm
  by_cases e1 : m = s.next
  ·subst e1;rw [Env.upd_self] at hm;cases hm;exact hlt
  ·rw [Env.upd_ne _ _ e1] at hm;exact h.bound m b' q' hm
 ·intro m hm
  by_cases e1 : m = s.next
  ·exact .inr ⟨by rw [e1];exact hg.next,by simp only [St.add];omega⟩
  ·rw [Env.upd_ne _ _ e1] at hm
   rcases hg.rng m hm with h1 | ⟨h1,h2⟩
   ·exact .inl h1
   ·exact .inr ⟨h1,Nat.lt_succ_of_lt h2⟩
 ·rintro b' hb' ⟨m,x,q',hx,hxr,hm⟩
  simp only [St.add,Tr.get_set] at hx
  by_cases e1 : m = s.next
  ·subst e1;rw [Env.upd_self] at hm;cases hm;omega
  ·rw [if_neg e1] at hx;rw [Env.upd_ne _ _ e1] at hm;exact hg.own b' hb' ⟨m,x,q',hx,hxr,hm⟩
 ·rintro b' hb' ⟨m,x,q',hx,hm⟩
  simp only [St.add,Tr.get_set] at hx
  by_cases e1 : m = s.next
  ·subst e1;rw [Env.upd_self] at hm;cases hm;omega
  ·rw [if_neg e1] at hx;rw [Env.upd_ne _ _ e1] at hm;exact hg.met b' hb' ⟨m,x,q',hx,hm⟩
 ·intro m hm
  simp only [St.add,List.mem_cons,not_or] at hm ⊢
  rw [Tr.get_set,if_neg hm.1];exact hg.log m hm.2
 ·intro m hm;exact List.mem_cons_of_mem _ (hg.logs m hm)
 ·intro hro m x b' q' hx hxr hm
  simp only [St.add,Tr.get_set] at hx
  by_cases e1 : m = s.next
  ·subst e1;rw [if_pos rfl] at hx;cases hx;exact absurd hxr hro
  ·rw [if_neg e1] at hx;rw [Env.upd_ne _ _ e1] at hm;exact hr m x b' q' hx hxr hm
theorem rwBelow {e : Env} {s : St} {w : World} (h : Sim e s w) : RwBelow e s w.heap.size:=fun n x b q _ _ he=>h.bound n b q he
theorem endsC {P : Program} {f : FuncId} {xs : Array Value} {w : World} {R : Ending→World→Prop} (h : Calls P f xs w R) (c : Frame) (cs : List Frame) :
 ∃ e w',R e w'∧∀ v,e = .returned v→Steps P (lone (Frame.enter P f xs .normal) (c :: cs) w) (lone (c.finish v) cs w'):=by
 obtain ⟨e,w',fr,hR,hc,_,hl⟩:=h (c :: cs)
 refine ⟨e,w',hR,fun v hv=>?_⟩
 subst hv
 exact Steps.trans hc (.one (step_leave_returned hl))
theorem row_of {d : Kd Int} {e base n : Nat} {w : World} {ok : Nat→Prop} {v : Value} {xs : List Int} (h : (Kd.int .i64).R e w base ok v xs) (hx : xs ≠ []) :
 ∃ g cap rest,v = .slice (some ⟨g,0,none⟩) xs.length cap∧base≤g∧g < w.heap.size∧w.heap[g]? = some (.cells (xs.map (Value.int .i64) ++ rest).toArray e (0,0))∧(xs.map (Value.int .i64) ++ rest).length = cap * 1:=by
 obtain ⟨_,inner,ho,hr⟩:=h
 obtain ⟨h1,h2⟩:=ho
 rcases h2 with ⟨_,h2⟩ | ⟨g,cap,cur,rfl,h3,h4,h5,h6,h7,h8⟩
 ·exact absurd (List.length_eq_zero_iff.1 h2) hx
 have hin : inner = xs.map (Value.int .i64):=by
  apply List.ext_getElem?
  intro j
  have hl : inner.length = xs.length * 1:=h1
  cases hj : xs[j]? with
  | none =>
   rw [List.getElem?_map,hj,List.getElem?_eq_none];· rfl
   have:=List.getElem?_eq_none_iff.1 hj;omega
  | some p =>
   have h9 : (inner.drop (j * 1)).take 1 = [.int .i64 p]:=hr.2 j p hj
   rw [List.getElem?_map,hj]
   have : ((inner.drop (j * 1)).take 1)[0]? = some (Value.int .i64 p):=by rw [h9];rfl
   rw [List.getElem?_take,if_pos (by omega),List.getElem?_drop] at this
   simpa using this
 have hsz : (Kd.int .i64).sz = 1:=rfl
 rw [hsz] at h7 h8
 refine ⟨g,cap,cur.toList.drop (xs.length * 1),rfl,h3,(Array.getElem?_eq_some_iff.1 h4).1,?_,?_⟩
 ·rw [h4,← hin,← h8,List.take_append_drop]
 ·rw [← hin,← h8,List.take_append_drop,Array.length_toList];exact h7
noncomputable def addInts (t : TypeId) : List (List Int)→St→List AV × St
 | [],s=>([],s)
 | l :: r,s=>let q:=addInts t r (s.add (.ro t (some 1) (l.map (.int .i64))));(.opn s.next l.length :: q.1,q.2)
theorem addInts_next (t : TypeId) : ∀ (l : List (List Int)) (s : St),(addInts t l s).2.next = s.next + l.length
 | [],s=>rfl
 | x :: r,s=>by
  show (addInts t r _).2.next = _
  rw [addInts_next t r];simp only [St.add,List.length_cons];omega
theorem addInts_ok {e0 : Env} {s0 : St} {w0 w : World} {t : TypeId} {ok : Nat→Prop} : ∀ {l : List (List Int)} {vs : List Value} {e : Env} {s : St},Goes e0 s0 w0 e s w→Sim e s w→RwBelow e s w0.heap.size→Free e s.next (s.next + l.length)→
 vs.length = l.length→(∀ (j : Nat) (xs : List Int),l[j]? = some xs→xs ≠ []∧∃ v,vs[j]? = some v∧(Kd.int .i64).R t w w0.heap.size ok v xs)→
 ∃ e',Goes e0 s0 w0 e' (addInts t l s).2 w∧Sim e' (addInts t l s).2 w∧RwBelow e' (addInts t l s).2 w0.heap.size∧e.le e'∧concL e' (addInts t l s).1 = some vs∧∀ n,s.next + l.length≤n→e n = none→e' n = none
 | [],vs,e,s,hg,hs,hr,hf,hl,h=>by
  obtain rfl : vs = []:=List.length_eq_zero_iff.1 hl
  exact ⟨e,hg,hs,hr,Env.le.refl e,rfl,fun _ _ h=>h⟩
 | x :: r,vs,e,s,hg,hs,hr,hf,hl,h=>by
  obtain ⟨v,vs,rfl⟩ : ∃ v vs',vs = v :: vs':=by cases vs with | nil=>simp at hl | cons a b=>exact ⟨a,b,rfl⟩
  obtain ⟨hx,v',hv',hR⟩:=h 0 x rfl
  cases hv'
  obtain ⟨g,cap,rest,rfl,h1,h2,h3,h4⟩:=row_of (d:=Kd.int .i64) (n:=0) hR hx
  have hfree : e s.next = none:=hf _ (Nat.le_refl _) (by simp only [List.length_cons];omega)
  have hle:=Env.le_upd (g,cap) hfree
  obtain ⟨q1,q2,q3⟩:=addAt (q:=cap) (blk:=.ro t (some 1) (x.map (.int .i64))) hg hs hr hfree h1 h2 (.inl fun z=>z) h3 ⟨_,rest,concL_ints _ x,rfl,fun m hm=>by cases hm;exact h4⟩
  obtain ⟨e',p1,p2,p3,p4,p5,p6⟩:=addInts_ok (l:=r) (vs:=vs) (s:=s.add (.ro t (some 1) (x.map (.int .i64)))) q2 q1 (q3 fun z=>z) (fun n a b=>by
   rw [Env.upd_ne _ _ (by simp only [St.add] at a;omega)]
   exact hf n (by simp only [St.add] at a;omega) (by simp only [St.add] at b;simp only [List.length_cons];omega)) (by simpa using hl) (fun j xs hj=>h (j + 1) xs (by simpa using hj))
  refine ⟨e',p1,p2,p3,hle.trans p4,?_,fun n a b=>p6 n (by simp only [St.add,List.length_cons] at a ⊢;omega) ?_⟩
  ·simp only [addInts,concL,conc,p4 _ _ (Env.upd_self e s.next (g,cap)),Option.map_some,Option.bind_some,p5]
  ·rw [Env.upd_ne _ _ (by simp only [List.length_cons] at a;omega)];exact b
end Go.Abs
namespace Go.Proofs.YtnnmnhpeblhiiaaGreatDoor.C
open Go.RowKit Go.Proofs.YtnnmnhpeblhiiaaGreatDoorW.PrintWords Go.Proofs.YtnnmnhpeblhiiaaGreatDoorW.PrintLast Go.Proofs.YtnnmnhpeblhiiaaGreatDoorW.PrintMore
set_option linter.unusedVariables false
set_option linter.unusedSimpArgs false
set_option maxHeartbeats 16000000
set_option maxRecDepth 100000
section
attribute [local go_sem] max2_int min2_int max_two min_two
def nz_sum.l0 : Nat→Int→List Int→Int→Int→Option (Int)
 | 0,_,_,_,_=>none
 | k + 1,x3,x6,x7,x8=>if x8 < x7 then (if 0≤x8 then (if x8 < (x6.length : Int) then (nz_sum.l0 k (wrap64 (x3 + (rd x6 x8))) x6 x7 (wrap64 (x8 + 1))) else (none)) else (none)) else (some x3)
def nz_sum.f (k : Nat) (l0 : List Int) : Option (Int):=nz_sum.l0 k 0 l0 (l0.length : Int) 0
theorem nz_sum.calls (k : Nat) (A0 : Option Addr) (c0 : Nat) (l0 : List Int) (r : Int) (w : World) (hr0 : Kd.C (Kd.int .i64) w A0 l0.length l0) (hc0 : l0.length≤c0) (h : nz_sum.f k l0 = some r) :
 Calls Tryz.prog 141 #[.slice A0 l0.length c0] w fun e w'=>e = .returned (.int .i64 r)∧Drawn0 w w':=by
 have HR0:=am hr0
 have HC0:=am hc0
 clear hr0 hc0
 have H : (nz_sum.l0 k 0 l0 (l0.length : Int) 0) = some r:=h
 clear h
 replace H':=am H
 go_enter Tryz.func141,Tryz.ntmps141
 go_wp2
 go_loopg [3,8] k (fun kq v3 v8 w'=>∃ (x3_1 : Int) (x8_1 : Int),v3 = .int .i64 x3_1∧v8 = .int .i64 x8_1∧Aside0 (nz_sum.l0 kq x3_1 l0 (l0.length : Int) x8_1 = some r)∧Aside0 (kq≤k)∧Drawn0 w w')
 case atStart=>exact ⟨(0),(0),(by first | rfl | (simp;done) | (simp [*];done)),(by first | rfl | (simp;done) | (simp [*];done)),H',⟨Nat.le_refl _⟩,by repeat (first | exact Drawn0.refl _ | apply Drawn0.step)⟩
 case round =>
  clear H'
  obtain ⟨x3_1,x8_1,rfl,rfl,HA,HK1,⟨m1,rfl⟩⟩:=hrel
  cases gk with
  | zero=>exact absurd HA.out (by simp [nz_sum.l0])
  | succ k1 =>
   have H:=HA.out
   clear HA
   simp only [nz_sum.l0] at H
   by_cases c2 : x8_1 < (l0.length : Int)
   case neg =>
    rw [if_neg c2] at H
    have c2b0 : decide (x8_1 < (l0.length : Int)) = false:=decide_eq_false c2
    clear c2
    obtain rfl:=Option.some.inj H
    go_wp2
    go_ret
    exact ⟨by first | rfl | (simp;done) | (simp [*];done),by repeat (first | exact Drawn0.refl _ | apply Drawn0.step)⟩
   rw [if_pos c2] at H
   have c2b0 : decide (x8_1 < (l0.length : Int)) = true:=decide_eq_true c2
   clear c2
   by_cases c3 : 0≤x8_1
   case neg =>
    rw [if_neg c3] at H
    exact absurd H (by simp)
   rw [if_pos c3] at H
   have c3b0 : decide (0≤x8_1) = true:=decide_eq_true c3
   clear c3
   by_cases c4 : x8_1 < (l0.length : Int)
   case neg =>
    rw [if_neg c4] at H
    exact absurd H (by simp)
   rw [if_pos c4] at H
   have c4b0 : decide (x8_1 < (l0.length : Int)) = true:=decide_eq_true c4
   clear c4
   replace H':=am H
   have p143 : 0≤(x8_1 : Int):=of_decide_eq_true (by assumption)
   have q143 : x8_1 < (l0.length : Int):=of_decide_eq_true (by assumption)
   obtain ⟨ad143,e143,hx143_0⟩:=Kd.at_int HR0.out x8_1 p143 q143
   cases e143
   replace p143:=eq_true p143
   replace q143:=eq_true q143
   go_wp2
   go_roundg k1
   case measure=>have:=HK1.out;omega
   case rel=>exact ⟨(wrap64 (x3_1 + (rd l0 x8_1))),(wrap64 (x8_1 + 1)),(by first | rfl | (simp;done) | (simp [*];done)),(by first | rfl | (simp;done) | (simp [*];done)),H',⟨by have:=HK1.out;omega⟩,by repeat (first | exact Drawn0.refl _ | apply Drawn0.step)⟩
def nz_gives.l0 : Nat→List Int→List Int→Int→Int→List (S126)→Int→Option (Int)
 | 0,_,_,_,_,_,_=>none
 | k + 1,x5,x8,x9,x10,x145000,x145001=>if x10 < x9 then (if 0≤x10 then (if x10 < (x8.length : Int) then (if 0≤(rd x8 x10) then (if (rd x8 x10) < (x145000.length : Int) then (if x5.length < 17592186044416 then (nz_gives.l0 k (x5 ++ [(rd_T126 x145000 (rd x8 x10)).f2]) x8 x9 (wrap64 (x10 + 1)) x145000 x145001) else (none)) else (none)) else (none)) else (none)) else (none)) else ((nz_sum.f k x5).bind fun t150=>(some t150))
def nz_gives.f (k : Nat) (l0_0 : List (S126)) (a0_1 : Int) (l1 : List Int) : Option (Int):=nz_gives.l0 k ([] : List Int) l1 (l1.length : Int) 0 l0_0 a0_1
theorem nz_gives.calls (k : Nat) (A0_0 : Option Addr) (c0_0 : Nat) (l0_0 : List (S126)) (a0_1 : Int) (A1 : Option Addr) (c1 : Nat) (l1 : List Int) (r : Int) (w : World) (hr0_0 : Kd.C k126 w A0_0 l0_0.length l0_0) (hc0_0 : l0_0.length≤c0_0) (hr1 : Kd.C (Kd.int .i64) w A1 l1.length l1) (hc1 : l1.length≤c1) (h : nz_gives.f k l0_0 a0_1 l1 = some r) :
 Calls Tryz.prog 130 #[.agg #[.slice A0_0 l0_0.length c0_0,.int .i64 a0_1],.slice A1 l1.length c1] w fun e w'=>e = .returned (.int .i64 r)∧Below w.heap.size w w':=by
 have hu24:=Tryz.underlying24
 have HR0_0:=am hr0_0
 have HC0_0:=am hc0_0
 clear hr0_0 hc0_0
 have HR1:=am hr1
 have HC1:=am hc1
 clear hr1 hc1
 have HB:=am (Below.refl w.heap.size w)
 have H : (nz_gives.l0 k ([] : List Int) l1 (l1.length : Int) 0 l0_0 a0_1) = some r:=h
 clear h
 replace H':=am H
 go_enter Tryz.func130,Tryz.ntmps130
 go_wp2_with (first | ((refine gate_dst (N:=2) rfl ?_);refine box_event rfl (N:=2) rfl (cs:=#[.slice A0_0 l0_0.length c0_0,.int .i64 a0_1]) (t:=24) ?hr ?_;(case hr=>go_simp;try rfl);intro gb144 hg w3 hbox hb;have BK144:=am (hbox);have GW144:=am (ge_new (HB.out) hg);have GE144:=am (ge_new (HB.out) hg);replace HB:=am (below_step (HB.out) hb);clear hb hbox hg))
 go_loopg [5,10] k (fun kq v5 v10 w'=>∃ (x5_1 : List Int) (x10_1 : Int),v10 = .int .i64 x10_1∧Aside0 (nz_gives.l0 kq x5_1 l1 (l1.length : Int) x10_1 l0_0 a0_1 = some r)∧Aside0 (kq≤k)∧Aside0 (Kd.R (Kd.int .i64) 3 w' w.heap.size (fun _=>True) v5 x5_1)∧Aside0 (w'.heap[gb144]? = some (.cells #[(.slice A0_0 l0_0.length c0_0),.int .i64 a0_1] 24 (0,0)))∧Aside0 (Below w.heap.size w w'))
 case atStart=>exact ⟨(([] : List Int)),(0),(by first | rfl | (simp;done) | (simp [*];done)),H',⟨Nat.le_refl _⟩,⟨by first | exact Kd.R_nil _ _ _ _ _ | exact Kd.N_nil _ _ _ _ _ | exact Kd.V_nil _ _ _ _ _ | exact Kd.Q_nil _ _ _ _ _ | exact Kd.S_nil _ _ _ _ _⟩,⟨BK144.out⟩,⟨HB.out⟩⟩
 case round =>
  clear H'
  obtain ⟨x5_1,x10_1,rfl,HA,HK1,HO_5,BK144,HB⟩:=hrel
  cases gk with
  | zero=>exact absurd HA.out (by simp [nz_gives.l0])
  | succ k1 =>
   have H:=HA.out
   clear HA
   simp only [nz_gives.l0] at H
   by_cases c4 : x10_1 < (l1.length : Int)
   case neg =>
    rw [if_neg c4] at H
    have c4b0 : decide (x10_1 < (l1.length : Int)) = false:=decide_eq_false c4
    clear c4
    replace H:=obm H
    obtain ⟨t150,A120,H⟩:=H
    replace H : (some t150) = some r:=H
    have A12:=am A120
    clear A120
    obtain rfl:=Option.some.inj H
    obtain ⟨Ao13,co13,eo13⟩:=Kd.R_slice HO_5.out
    subst eo13
    go_wp2_with (first | ((with_reducible refine gate_callee (f:=141) rfl ?_);refine goesL_ (some 25) rfl rfl Tryz.func141 (by kernel_rfl) rfl #[.slice Ao13 x5_1.length co13] rfl (by (try simp only [List.map_toArray,List.map_cons,List.map_nil]);first | done | rfl | (simp only [List.length_drop,List.length_take];rfl)) ?_;(refine (nz_sum.calls k1 _ _ x5_1 t150 _ ?side1 ?side2 A12.out).mono ?_);(case side1=>repeat (first | exact (Kd.R_reads' HO_5.out).2.2 | (with_reducible refine Kd.C_alloc ?_ _) | (with_reducible refine Kd.C_drewN ?_ _) | (with_reducible refine Kd.C_drew ?_)));(case side2=>exact (Kd.R_reads' HO_5.out).2.1);rintro e w' ⟨rfl,⟨nd,rfl⟩⟩;refine ⟨_,rfl,?_⟩))
    go_ret
    exact ⟨by first | rfl | (simp [*]<;>rfl),pw_below_drewN HB.out _⟩
   rw [if_pos c4] at H
   have c4b0 : decide (x10_1 < (l1.length : Int)) = true:=decide_eq_true c4
   clear c4
   by_cases c5 : 0≤x10_1
   case neg =>
    rw [if_neg c5] at H
    exact absurd H (by simp)
   rw [if_pos c5] at H
   have c5b0 : decide (0≤x10_1) = true:=decide_eq_true c5
   clear c5
   by_cases c6 : x10_1 < (l1.length : Int)
   case neg =>
    rw [if_neg c6] at H
    exact absurd H (by simp)
   rw [if_pos c6] at H
   have c6b0 : decide (x10_1 < (l1.length : Int)) = true:=decide_eq_true c6
   clear c6
   by_cases c7 : 0≤(rd l1 x10_1)
   case neg =>
    rw [if_neg c7] at H
    exact absurd H (by simp)
   rw [if_pos c7] at H
   have c7b0 : decide (0≤(rd l1 x10_1)) = true:=decide_eq_true c7
   clear c7
   by_cases c8 : (rd l1 x10_1) < (l0_0.length : Int)
   case neg =>
    rw [if_neg c8] at H
    exact absurd H (by simp)
   rw [if_pos c8] at H
   have c8b0 : decide ((rd l1 x10_1) < (l0_0.length : Int)) = true:=decide_eq_true c8
   clear c8
   by_cases c9 : x5_1.length < 17592186044416
   case neg =>
    rw [if_neg c9] at H
    exact absurd H (by simp)
   rw [if_pos c9] at H
   have LMc9:=am c9
   clear c9
   obtain ⟨y147,hy147⟩ : ∃ y_ : List Int,y_ = (x5_1 ++ [(rd_T126 l0_0 (rd l1 x10_1)).f2]):=⟨_,rfl⟩
   replace H : (nz_gives.l0 k1 y147 l1 (l1.length : Int) (wrap64 (x10_1 + 1)) l0_0 a0_1) = some r:=by first | (rw [hy147];with_reducible exact H) | (have H2_:=(Option.bind_some _ _).symm.trans H;rw [hy147];with_reducible exact H2_) | (have H2_:=(Option.bind_some _ _).symm.trans H;with_reducible exact H2_) | with_reducible exact H | (rw [hy147];exact H) | exact H
   have Ny147:=am hy147
   clear hy147
   replace H':=am H
   have p145 : 0≤(x10_1 : Int):=of_decide_eq_true (by assumption)
   have q145 : x10_1 < (l1.length : Int):=of_decide_eq_true (by assumption)
   obtain ⟨ad145,e145,hx145_0⟩:=Kd.at_int HR1.out x10_1 p145 q145
   cases e145
   replace hx145_0:=(HB.out.cell (wbl hx145_0)).trans hx145_0
   replace p145:=eq_true p145
   replace q145:=eq_true q145
   obtain ⟨hcz10_0,hcz10_1⟩:=cO2 BK144.out
   have p146 : 0≤((rd l1 x10_1) : Int):=of_decide_eq_true (by assumption)
   have q146 : (rd l1 x10_1) < (l0_0.length : Int):=of_decide_eq_true (by assumption)
   obtain ⟨ad146,e146,hx146_0,hx146_1,hx146_2⟩:=at_T126 HR0_0.out (rd l1 x10_1) p146 q146
   cases e146
   replace hx146_0:=(HB.out.cell (wbl hx146_0)).trans hx146_0
   replace hx146_1:=(HB.out.cell (wbl hx146_1)).trans hx146_1
   replace hx146_2:=(HB.out.cell (wbl hx146_2)).trans hx146_2
   replace p146:=eq_true p146
   replace q146:=eq_true q146
   go_wp2_with (first | ((with_reducible refine gate_builtin (b:=.append) (xs:=#[.tmp 14,.tmp 21]) rfl ?_);at_builtin;refine Kd.R_append (Kd.int .i64) (w0:=w) w.heap.size rfl (.tmp 14) (.tmp 21) 28 3 (.int .i64 0) 8 rfl Tryz.underlying28 info3 rfl (by decide) (by omega) u5 x5_1 ((rd_T126 l0_0 (rd l1 x10_1)).f2) [.int .i64 ((rd_T126 l0_0 (rd l1 x10_1)).f2)] (fun _=>True) (fun _=>False) rfl rfl ?aP (fun _ hk=>hk.elim) ?aF ?aO ?aB ?aS ?aL ?_;(case aP=>exact rfl);(case aB=>exact (HB.out));(case aF=>exact (fun _ _=>trivial));(case aO=>exact HO_5.out);(case aS=>exact (below_size (HB.out)));(case aL=>have:=LMc9.out;omega);intro v148 w11 ho hb hg hat;rw [← Ny147.out] at ho;have n0_:=am (blk_grown (g:=gb144) (o:=.cells #[.slice (some ad146) l0_0.length c0_0,.int .i64 a0_1] 24 (0,0)) BK144.out hg (Kd.R_ne HO_5.out BK144.out (by decide)));have n1_:=am (hb);have n2_:=am (ho);clear BK144;clear HB;clear HO_5;have BK144:=n0_;have HB:=n1_;have HO149:=n2_;clear n0_ n1_ n2_;clear ho hb hg hat))
   go_roundg k1
   case measure=>have:=HK1.out;omega
   case rel=>exact ⟨(y147),(wrap64 (x10_1 + 1)),(by first | rfl | (simp;done) | (simp [*];done)),H',⟨by have:=HK1.out;omega⟩,⟨by (with_reducible repeat (first | apply Kd.R_alloc | apply Kd.R_drewN | apply Kd.R_drew));exact HO149.out⟩,⟨BK144.out⟩,⟨HB.out⟩⟩
end
def Pred_isSet (g : Nat) (q : Int→Option Bool) (w : World) (xs : List Int) : Prop:=∀ (x : Int) (b : Bool) (W : World) ,x ∈ xs→q x = some b→Below w.heap.size w W→
 Calls Tryz.prog 139 #[.int .i64 x,.pointer (some ⟨g,0,none⟩)] W fun e W'=>e = .returned (.bool b)∧Below W.heap.size W W'
theorem idx_isSet (g : Nat) (q : Int→Option Bool) (A : Option Addr) (c : Nat) (xs : List Int) (r : Int) (w : World) (hr : Kd.C (Kd.int .i64) w A xs.length xs) (hp : Pred_isSet g q w xs) (h : idxM q xs 0 = some r) :
 Calls Tryz.prog 105 #[.slice A xs.length c,.func (.func 139) #[] #[.pointer (some ⟨g,0,none⟩)]] w fun e w'=>e = .returned (.int .i64 r)∧Below w.heap.size w w':=by
 have HR:=am hr
 have HP:=am hp
 have HQ:=am (show idxM q (xs.drop (0 : Int).toNat) 0 = some r from h)
 have hm : xs.length≤9223372036854775807:=Kd.C_max hr
 clear hr hp h
 go_enter Tryz.func105,Tryz.ntmps105
 go_wp2
 go_loopw [5,8] (fun v5 v8 w'=>∃ i : Int,0≤i∧i≤xs.length∧v8 = .int .i64 i∧Aside0 (idxM q (xs.drop i.toNat) i = some r)∧Aside0 (Below w.heap.size w w')) (fun _ v8 _=>xs.length - (intOf v8).toNat)
 case atStart=>exact ⟨0,by omega,by omega,rfl,HQ,⟨Below.refl _ _⟩⟩
 case round =>
  clear HQ
  obtain ⟨i,p1,hi,rfl,HQ,HB⟩:=hrel
  by_cases hlt : i < (xs.length : Int)
  case neg =>
   go_wp2
   go_ret
   exact ⟨ret_int_eq (idxM_end (by omega) HQ.out),HB.out⟩
  obtain ⟨ad,e1,hx0⟩:=Kd.at_int HR.out i p1 hlt
  cases e1
  replace hx0:=(HB.out.cell (wbl hx0)).trans hx0
  rcases idxM_step (0 : Int) p1 hlt HQ.out with ⟨hq,he⟩ | ⟨hq,hn⟩
  ·have H1:=am hq
   have X1:=am (getD_mem (0 : Int) p1 hlt)
   have H2:=am he
   clear hq he
   go_wp2_with (go_at_call 139;refine (HP.out (xs.getD i.toNat (0 : Int)) _ _ X1.out H1.out HB.out).mono ?_;rintro e W' ⟨rfl,hb⟩)
   go_ret
   exact ⟨ret_int_eq H2.out,below_then HB.out HB.out.size hb⟩
  ·have H1:=am hq
   have X1:=am (getD_mem (0 : Int) p1 hlt)
   have H2:=am hn
   clear hq hn
   go_wp2_with (go_at_call 139;refine (HP.out (xs.getD i.toNat (0 : Int)) _ _ X1.out H1.out HB.out).mono ?_;rintro e W' ⟨rfl,hb⟩)
   go_roundw
   case rel=>exact ⟨i + 1,by omega,by omega,by go_num,H2,⟨below_then HB.out HB.out.size hb⟩⟩
   case measure=>simp [intOf];omega
theorem any_isSet (g : Nat) (q : Int→Option Bool) (A : Option Addr) (c : Nat) (xs : List Int) (r : Bool) (w : World) (hr : Kd.C (Kd.int .i64) w A xs.length xs) (hp : Pred_isSet g q w xs) (h : anyM q xs = some r) :
 Calls Tryz.prog 65 #[.slice A xs.length c,.func (.func 139) #[] #[.pointer (some ⟨g,0,none⟩)]] w fun e w'=>e = .returned (.bool r)∧Below w.heap.size w w':=by
 obtain ⟨j,hj,hd⟩:=idxM_of_anyM q xs 0 r (by omega) h
 have H1:=am hj
 have H2:=am hd
 have HR:=am hr
 have HP:=am hp
 clear hr hp h hj hd
 go_enter Tryz.func65,Tryz.ntmps65
 go_wp2_with (go_at_call 105;refine (idx_isSet g q _ _ xs j _ HR.out HP.out H1.out).mono ?_;rintro e W' ⟨rfl,hb⟩)
 go_ret
 exact ⟨ret_bool_eq H2.out,hb⟩
section
attribute [local go_sem] max2_int min2_int max_two min_two
def cmp_isNaN_int.f (a0 : Int) : Option (Bool):=some (a0 != a0)
theorem cmp_isNaN_int.calls (a0 : Int) (r : Bool) (w : World) (h : cmp_isNaN_int.f a0 = some r) :
 Calls Tryz.prog 156 #[.int .i64 a0] w fun e w'=>e = .returned (.bool r)∧Drawn0 w w':=by
 have H : (some (a0 != a0)) = some r:=h
 clear h
 obtain rfl:=Option.some.inj H
 go_enter Tryz.func156,Tryz.ntmps156
 go_wp2
 go_ret
 exact ⟨by first | rfl | (simp;done) | (simp [*];done),by repeat (first | exact Drawn0.refl _ | apply Drawn0.step)⟩
def cmp_Less_int.f (a0 : Int) (a1 : Int) : Option (Bool):=(cmp_isNaN_int.f a0).bind fun t138=>(if t138 = true then ((cmp_isNaN_int.f a1).bind fun t139=>(if t139 = true then (some (decide (a0 < a1))) else (some true))) else (some (decide (a0 < a1))))
theorem cmp_Less_int.calls (a0 : Int) (a1 : Int) (r : Bool) (w : World) (h : cmp_Less_int.f a0 a1 = some r) :
 Calls Tryz.prog 147 #[.int .i64 a0,.int .i64 a1] w fun e w'=>e = .returned (.bool r)∧Drawn0 w w':=by
 have H : ((cmp_isNaN_int.f a0).bind fun t138=>(if t138 = true then ((cmp_isNaN_int.f a1).bind fun t139=>(if t139 = true then (some (decide (a0 < a1))) else (some true))) else (some (decide (a0 < a1))))) = some r:=h
 clear h
 replace H:=obm H
 obtain ⟨t138,A30,H⟩:=H
 replace H : (if t138 = true then ((cmp_isNaN_int.f a1).bind fun t139=>(if t139 = true then (some (decide (a0 < a1))) else (some true))) else (some (decide (a0 < a1)))) = some r:=H
 have A3:=am A30
 clear A30
 by_cases c4 : t138 = true
 case neg =>
  replace c4:=Bool.eq_false_iff.mpr c4
  subst c4
  replace H : (some (decide (a0 < a1))) = some r:=by rw [if_neg (show ¬ (false = true) by decide)] at H;exact H
  obtain rfl:=Option.some.inj H
  go_enter Tryz.func147,Tryz.ntmps147
  go_wp2_with (first | ((with_reducible refine gate_callee (f:=156) rfl ?_);refine goesL_ (some 6) rfl rfl Tryz.func156 (by kernel_rfl) rfl #[.int .i64 a0] rfl (by (try simp only [List.map_toArray,List.map_cons,List.map_nil]);first | done | rfl | (simp only [List.length_drop,List.length_take];rfl)) ?_;(refine (cmp_isNaN_int.calls a0 false _ A3.out).mono ?_);rintro e w' ⟨rfl,⟨nd,rfl⟩⟩;refine ⟨_,rfl,?_⟩))
  go_ret
  exact ⟨by first | rfl | (simp;done) | (simp [*];done),by repeat (first | exact Drawn0.refl _ | apply Drawn0.step)⟩
 subst c4
 replace H : ((cmp_isNaN_int.f a1).bind fun t139=>(if t139 = true then (some (decide (a0 < a1))) else (some true))) = some r:=by rw [if_pos rfl] at H;exact H
 replace H:=obm H
 obtain ⟨t139,A50,H⟩:=H
 replace H : (if t139 = true then (some (decide (a0 < a1))) else (some true)) = some r:=H
 have A5:=am A50
 clear A50
 by_cases c6 : t139 = true
 ·subst c6
  replace H : (some (decide (a0 < a1))) = some r:=by rw [if_pos rfl] at H;exact H
  obtain rfl:=Option.some.inj H
  go_enter Tryz.func147,Tryz.ntmps147
  go_wp2_with (first | ((with_reducible refine gate_callee (f:=156) rfl ?_);refine goesL_ (some 6) rfl rfl Tryz.func156 (by kernel_rfl) rfl #[.int .i64 a0] rfl (by (try simp only [List.map_toArray,List.map_cons,List.map_nil]);first | done | rfl | (simp only [List.length_drop,List.length_take];rfl)) ?_;(refine (cmp_isNaN_int.calls a0 true _ A3.out).mono ?_);rintro e w' ⟨rfl,⟨nd,rfl⟩⟩;refine ⟨_,rfl,?_⟩) | (go_at_call 156;(refine (cmp_isNaN_int.calls a1 true _ A5.out).mono ?_);rintro e w' ⟨rfl,⟨nd,rfl⟩⟩))
  go_ret
  exact ⟨by first | rfl | (simp;done) | (simp [*];done),by repeat (first | exact Drawn0.refl _ | apply Drawn0.step)⟩
 ·replace c6:=Bool.eq_false_iff.mpr c6
  subst c6
  replace H : (some true) = some r:=by rw [if_neg (show ¬ (false = true) by decide)] at H;exact H
  obtain rfl:=Option.some.inj H
  go_enter Tryz.func147,Tryz.ntmps147
  go_wp2_with (first | ((with_reducible refine gate_callee (f:=156) rfl ?_);refine goesL_ (some 6) rfl rfl Tryz.func156 (by kernel_rfl) rfl #[.int .i64 a0] rfl (by (try simp only [List.map_toArray,List.map_cons,List.map_nil]);first | done | rfl | (simp only [List.length_drop,List.length_take];rfl)) ?_;(refine (cmp_isNaN_int.calls a0 true _ A3.out).mono ?_);rintro e w' ⟨rfl,⟨nd,rfl⟩⟩;refine ⟨_,rfl,?_⟩) | (go_at_call 156;(refine (cmp_isNaN_int.calls a1 false _ A5.out).mono ?_);rintro e w' ⟨rfl,⟨nd,rfl⟩⟩))
  go_ret
  exact ⟨by first | rfl | (simp;done) | (simp [*];done),by repeat (first | exact Drawn0.refl _ | apply Drawn0.step)⟩
end
end Go.Proofs.YtnnmnhpeblhiiaaGreatDoor.C

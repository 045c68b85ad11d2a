/- A part of the proof: the walks of the functions that it reaches. TIGHT. -/
import Derived.Test.YtnnmnhpeblhiiaaGreatDoorMQ8
set_option linter.unusedVariables false
set_option linter.unusedSimpArgs false
namespace Go.Proofs.YtnnmnhpeblhiiaaGreatDoor.C
open Go.RowKit Go.Proofs.YtnnmnhpeblhiiaaGreatDoorW.PrintWords Go.Proofs.YtnnmnhpeblhiiaaGreatDoorW.PrintLast Go.Proofs.YtnnmnhpeblhiiaaGreatDoorW.PrintMore
set_option linter.unusedVariables false
set_option linter.unusedSimpArgs false
set_option maxHeartbeats 16000000
set_option maxRecDepth 100000
def ca_Read.f (l0 : List S126) (d : Int) (s : ByteArray) : Option (List S126 × Int × List S48 × Int × Int × Int):=
 if 200 < s.size then some ([],0,[],0,0,3) else match parsedF s with | none=>some ([],0,[],0,0,4) | some x=>(ca_isBasin.f l0 d x.2.2 x.1 x.2.1).bind fun t=>if t = true then some (l0,d,x.2.2,x.1,x.2.1,0) else some ([],0,[],0,0,2)
theorem ca_Read.calls (A0 : Option Addr) (c0 : Nat) (l0 : List S126) (d : Int) (s : ByteArray) (r1 : List S126) (r2 : Int) (r3 : List S48) (r4 r5 r6 : Int) (w : World) (hr0 : Kd.C k126 w A0 l0.length l0) (hc0 : l0.length≤c0) (hl0 : l0.length < 5864062014805) (hsm : s.size≤9223372036854775807) (hg : GV w) (h : ca_Read.f l0 d s = some (r1,r2,r3,r4,r5,r6)) :
 Calls Tryz.prog 50 #[.agg #[.slice A0 l0.length c0,.int .i64 d],.string s] w fun e w'=>∃ v0_ v2_ : Value,e = .returned (.tuple #[.agg #[v0_,.int .i64 r2,v2_,.int .i64 r4,.int .i64 r5],.int .i64 r6])∧Kd.R k126 126 w' w.heap.size (fun _=>True) v0_ r1∧Kd.R k48 48 w' w.heap.size (fun _=>True) v2_ r3∧Below w.heap.size w w':=by
 have hu:=Tryz.underlying27
 have hmf : ∀ (fn : Fn) (first cap : Array Value) (w : World),(Instr.makeFunc fn first cap).run Tryz.prog w = .ok (.func fn first cap) w:=fun _ _ _ _=>rfl
 have HR:=am hr0
 have HC:=am hc0
 have HL:=am hl0
 have HG:=am hg
 have HB:=am (Below.refl w.heap.size w)
 clear hr0 hc0 hl0 hg
 unfold ca_Read.f at h
 by_cases hlong : 200 < s.size
 ·rw [if_pos hlong] at h
  simp only [Option.some.injEq,Prod.mk.injEq] at h
  obtain ⟨rfl,rfl,rfl,rfl,rfl,rfl⟩:=h
  have hd : decide ((200 : Int) < (s.size : Int)) = true:=decide_eq_true (by omega)
  go_enter Tryz.func50,Tryz.ntmps50
  go_wp2_with (first | ((refine gate_dst (N:=2) rfl ?_);(try (refine gate_guard (by rfl) ?_;dsimp only));refine box_event rfl (N:=2) rfl (cs:=#[.slice A0 l0.length c0,.int .i64 d]) (t:=24) ?hr ?_;(case hr=>go_simp;try rfl);intro gt hg w1 hbox hb;replace HR:=(cmv HR hb);replace HB:=(bmv HB hb);replace HG:=am (GV.below HG.out hb);clear hg;have BKgt:=am hbox;clear hbox;(try clear hczgt_0 hczgt_1 hfzgt);obtain ⟨hczgt_0,hczgt_1⟩:=cO2 BKgt.out;have hfzgt:=blk_frozen BKgt.out;clear hb) | ((refine gate_dst (N:=3) rfl ?_);(try (refine gate_guard (by rfl) ?_;dsimp only));refine box_event rfl (N:=3) rfl (cs:=#[.string s]) (t:=9) ?hr ?_;(case hr=>go_simp;try rfl);intro gs hg w2 hbox hb;replace HR:=(cmv HR hb);replace HB:=(bmv HB hb);replace HG:=am (GV.below HG.out hb);replace BKgt:=(kmv hb BKgt);clear hg;have BKgs:=am hbox;clear hbox;(try clear hczgt_0 hczgt_1 hfzgt);obtain ⟨hczgt_0,hczgt_1⟩:=cO2 BKgt.out;have hfzgt:=blk_frozen BKgt.out;(try clear hczgs_0 hfzgs_0);have hczgs_0:=cO1 BKgs.out;have hfzgs_0:=blk_frozen BKgs.out 0;clear hb) | ((refine gate_dst (N:=4) rfl ?_);(try (refine gate_guard (by rfl) ?_;dsimp only));refine box_event rfl (N:=4) rfl (cs:=#[.slice none 0 0,.int .i64 0,.slice none 0 0,.int .i64 0,.int .i64 0]) (t:=27) ?hr ?_;(case hr=>go_simp;try rfl);intro gr hg w3 hbox hb;have HNgt_gr:=am (show gt ≠ gr by have:=blk_lt BKgt.out;omega);have HNgs_gr:=am (show gs ≠ gr by have:=blk_lt BKgs.out;omega);have Ggr:=am (show w.heap.size≤gr by have:=HB.out.size;omega);replace HR:=(cmv HR hb);replace HB:=(bmv HB hb);replace HG:=am (GV.below HG.out hb);replace BKgt:=(kmv hb BKgt);replace BKgs:=(kmv hb BKgs);clear hg;have BKgr:=am hbox;clear hbox;(try clear hczgt_0 hczgt_1 hfzgt);obtain ⟨hczgt_0,hczgt_1⟩:=cO2 BKgt.out;have hfzgt:=blk_frozen BKgt.out;(try clear hczgs_0 hfzgs_0);have hczgs_0:=cO1 BKgs.out;have hfzgs_0:=blk_frozen BKgs.out 0;(try clear hczgr_0 hczgr_1 hczgr_2 hczgr_3 hczgr_4 hfzgr);obtain ⟨hczgr_0,hczgr_1,hczgr_2,hczgr_3,hczgr_4⟩:=cO5 BKgr.out;have hfzgr:=blk_frozen BKgr.out;clear hb))
  refine bodyPost_ret (results_ct rfl _ _ gr 27 #[.slice none 0 0,.int .i64 0,.slice none 0 0,.int .i64 0,.int .i64 0] (0,0) _ rfl ((blk_set (blk_set (blk_set (blk_set (blk_set BKgr.out 0 _) 1 _) 2 _) 3 _) 4 _).trans rfl) Tryz.underlying27 rfl (by kernel_rfl)) rfl ?_
  exact ⟨_,_,rfl,Kd.R_nil _ _ _ _ _,Kd.R_nil _ _ _ _ _,(below_set (below_set (below_set (below_set (below_set HB.out Ggr.out) Ggr.out) Ggr.out) Ggr.out) Ggr.out)⟩
 ·rw [if_neg hlong] at h
  have hd : decide ((200 : Int) < (s.size : Int)) = false:=decide_eq_false (by omega)
  have HSS:=am (show s.size≤1000 by omega)
  obtain ⟨x,hx⟩ : ∃ x,parsedF s = x:=⟨_,rfl⟩
  rw [hx] at h
  have HX:=am hx
  clear hx hlong
  cases x with
  | none =>
   simp only [Option.some.injEq,Prod.mk.injEq] at h
   obtain ⟨rfl,rfl,rfl,rfl,rfl,rfl⟩:=h
   go_enter Tryz.func50,Tryz.ntmps50
   go_wp2_with (first | ((refine gate_dst (N:=2) rfl ?_);(try (refine gate_guard (by rfl) ?_;dsimp only));refine box_event rfl (N:=2) rfl (cs:=#[.slice A0 l0.length c0,.int .i64 d]) (t:=24) ?hr ?_;(case hr=>go_simp;try rfl);intro gt hg w1 hbox hb;replace HR:=(cmv HR hb);replace HB:=(bmv HB hb);replace HG:=am (GV.below HG.out hb);clear hg;have BKgt:=am hbox;clear hbox;(try clear hczgt_0 hczgt_1 hfzgt);obtain ⟨hczgt_0,hczgt_1⟩:=cO2 BKgt.out;have hfzgt:=blk_frozen BKgt.out;clear hb) | ((refine gate_dst (N:=3) rfl ?_);(try (refine gate_guard (by rfl) ?_;dsimp only));refine box_event rfl (N:=3) rfl (cs:=#[.string s]) (t:=9) ?hr ?_;(case hr=>go_simp;try rfl);intro gs hg w2 hbox hb;replace HR:=(cmv HR hb);replace HB:=(bmv HB hb);replace HG:=am (GV.below HG.out hb);replace BKgt:=(kmv hb BKgt);clear hg;have BKgs:=am hbox;clear hbox;(try clear hczgt_0 hczgt_1 hfzgt);obtain ⟨hczgt_0,hczgt_1⟩:=cO2 BKgt.out;have hfzgt:=blk_frozen BKgt.out;(try clear hczgs_0 hfzgs_0);have hczgs_0:=cO1 BKgs.out;have hfzgs_0:=blk_frozen BKgs.out 0;clear hb) | ((refine gate_dst (N:=4) rfl ?_);(try (refine gate_guard (by rfl) ?_;dsimp only));refine box_event rfl (N:=4) rfl (cs:=#[.slice none 0 0,.int .i64 0,.slice none 0 0,.int .i64 0,.int .i64 0]) (t:=27) ?hr ?_;(case hr=>go_simp;try rfl);intro gr hg w3 hbox hb;have HNgt_gr:=am (show gt ≠ gr by have:=blk_lt BKgt.out;omega);have HNgs_gr:=am (show gs ≠ gr by have:=blk_lt BKgs.out;omega);have Ggr:=am (show w.heap.size≤gr by have:=HB.out.size;omega);replace HR:=(cmv HR hb);replace HB:=(bmv HB hb);replace HG:=am (GV.below HG.out hb);replace BKgt:=(kmv hb BKgt);replace BKgs:=(kmv hb BKgs);clear hg;have BKgr:=am hbox;clear hbox;(try clear hczgt_0 hczgt_1 hfzgt);obtain ⟨hczgt_0,hczgt_1⟩:=cO2 BKgt.out;have hfzgt:=blk_frozen BKgt.out;(try clear hczgs_0 hfzgs_0);have hczgs_0:=cO1 BKgs.out;have hfzgs_0:=blk_frozen BKgs.out 0;(try clear hczgr_0 hczgr_1 hczgr_2 hczgr_3 hczgr_4 hfzgr);obtain ⟨hczgr_0,hczgr_1,hczgr_2,hczgr_3,hczgr_4⟩:=cO5 BKgr.out;have hfzgr:=blk_frozen BKgr.out;clear hb) | ((refine gate_dst (N:=6) rfl ?_);(try (refine gate_guard (by rfl) ?_;dsimp only));refine box_event rfl (N:=6) rfl (cs:=#[.slice none 0 0,.int .i64 0,.slice none 0 0,.int .i64 0,.int .i64 0]) (t:=27) ?hr ?_;(case hr=>go_simp;try rfl);intro gx hg w4 hbox hb;have HNgt_gx:=am (show gt ≠ gx by have:=blk_lt BKgt.out;omega);have HNgs_gx:=am (show gs ≠ gx by have:=blk_lt BKgs.out;omega);have HNgr_gx:=am (show gr ≠ gx by have:=blk_lt BKgr.out;omega);have Ggx:=am (show w.heap.size≤gx by have:=HB.out.size;omega);replace HR:=(cmv HR hb);replace HB:=(bmv HB hb);replace HG:=am (GV.below HG.out hb);replace BKgt:=(kmv hb BKgt);replace BKgs:=(kmv hb BKgs);replace BKgr:=(kmv hb BKgr);clear hg;have BKgx:=am hbox;clear hbox;(try clear hczgt_0 hczgt_1 hfzgt);obtain ⟨hczgt_0,hczgt_1⟩:=cO2 BKgt.out;have hfzgt:=blk_frozen BKgt.out;(try clear hczgs_0 hfzgs_0);have hczgs_0:=cO1 BKgs.out;have hfzgs_0:=blk_frozen BKgs.out 0;(try clear hczgr_0 hczgr_1 hczgr_2 hczgr_3 hczgr_4 hfzgr);obtain ⟨hczgr_0,hczgr_1,hczgr_2,hczgr_3,hczgr_4⟩:=cO5 BKgr.out;have hfzgr:=blk_frozen BKgr.out;(try clear hczgx_0 hczgx_1 hczgx_2 hczgx_3 hczgx_4 hfzgx);obtain ⟨hczgx_0,hczgx_1,hczgx_2,hczgx_3,hczgx_4⟩:=cO5 BKgx.out;have hfzgx:=blk_frozen BKgx.out;clear hb;have HNrx:=am (show gr ≠ gx by have h1:=HNgr_gx.out;exact h1)) | (go_at_call 90;refine (attempt_Read_text gt gs gx (ReadN w gr w4.heap.size) w4 (Read1_no w _ gt gs gx gr w4.heap.size A0 c0 l0 d s (below_alloc HB.out _) Ggx.out HNrx.out (blk_alloc BKgt.out _) (blk_alloc BKgs.out _) (blk_alloc BKgx.out _) (blk_alloc BKgr.out _) (blk_new w4 _) (Kd.C_alloc HR.out _) HC.out HL.out HSS.out (GV.below HG.out (below_alloc (Below.refl _ _) _)) HX.out) (fun W' hi=>⟨(blk_cell hi.2.1 0).trans rfl,blk_frozen hi.2.1 0⟩)).mono ?_;rintro e w5 ⟨rfl,s',W',hI,rfl⟩;obtain ⟨b1,b2,hb⟩:=hI;have Ge:=am (show w.heap.size≤w4.heap.size from HB.out.size);have m1:=am (blk_far (p:=⟨w4.heap.size,0,none⟩) (blk_alloc b1 (.cells #[.string s'] 167)) (blk_ne b1 b2 (by decide)) (.int .i64 4));have m2:=am (below_set (j:=0) (v:=.int .i64 4) (below_alloc hb (.cells #[.string s'] 167)) Ge.out);clear b1 b2 hb;generalize (W'.alloc (.cells #[.string s'] 167)).setCell ⟨w4.heap.size,0,none⟩ (.int .i64 4) = w6 at m1 m2 ⊢;(try clear hczgr_0 hfzgr_0 hczgr_1 hfzgr_1 hczgr_2 hfzgr_2 hczgr_3 hfzgr_3 hczgr_4 hfzgr_4);have hczgr_0:=cO1 m1.out;have hfzgr_0:=blk_frozen m1.out 0;have hczgr_1 : w6.cell? ⟨gr,1,none⟩ = some (.int .i64 0):=(blk_cell m1.out 1).trans rfl;have hfzgr_1:=blk_frozen m1.out 1;have hczgr_2 : w6.cell? ⟨gr,2,none⟩ = some (.slice none 0 0):=(blk_cell m1.out 2).trans rfl;have hfzgr_2:=blk_frozen m1.out 2;have hczgr_3 : w6.cell? ⟨gr,3,none⟩ = some (.int .i64 0):=(blk_cell m1.out 3).trans rfl;have hfzgr_3:=blk_frozen m1.out 3;have hczgr_4 : w6.cell? ⟨gr,4,none⟩ = some (.int .i64 0):=(blk_cell m1.out 4).trans rfl;have hfzgr_4:=blk_frozen m1.out 4))
   refine bodyPost_ret (results_ct rfl _ _ gr 27 #[.slice none 0 0,.int .i64 0,.slice none 0 0,.int .i64 0,.int .i64 0] (0,0) _ rfl ((blk_set (blk_set (blk_set (blk_set (blk_set m1.out 0 _) 1 _) 2 _) 3 _) 4 _).trans rfl) Tryz.underlying27 rfl (by kernel_rfl)) rfl ?_
   exact ⟨_,_,rfl,Kd.R_nil _ _ _ _ _,Kd.R_nil _ _ _ _ _,(below_set (below_set (below_set (below_set (below_set m2.out Ggr.out) Ggr.out) Ggr.out) Ggr.out) Ggr.out)⟩
  | some x =>
   dsimp only at h
   obtain ⟨t,ht,h2⟩:=obm h
   clear h
   have HT:=am ht
   clear ht
   cases t with
   | false =>
    rw [if_neg (by decide)] at h2
    simp only [Option.some.injEq,Prod.mk.injEq] at h2
    obtain ⟨rfl,rfl,rfl,rfl,rfl,rfl⟩:=h2
    go_enter Tryz.func50,Tryz.ntmps50
    go_wp2_with (first | ((refine gate_dst (N:=2) rfl ?_);(try (refine gate_guard (by rfl) ?_;dsimp only));refine box_event rfl (N:=2) rfl (cs:=#[.slice A0 l0.length c0,.int .i64 d]) (t:=24) ?hr ?_;(case hr=>go_simp;try rfl);intro gt hg w1 hbox hb;replace HR:=(cmv HR hb);replace HB:=(bmv HB hb);replace HG:=am (GV.below HG.out hb);clear hg;have BKgt:=am hbox;clear hbox;(try clear hczgt_0 hczgt_1 hfzgt);obtain ⟨hczgt_0,hczgt_1⟩:=cO2 BKgt.out;have hfzgt:=blk_frozen BKgt.out;clear hb) | ((refine gate_dst (N:=3) rfl ?_);(try (refine gate_guard (by rfl) ?_;dsimp only));refine box_event rfl (N:=3) rfl (cs:=#[.string s]) (t:=9) ?hr ?_;(case hr=>go_simp;try rfl);intro gs hg w2 hbox hb;replace HR:=(cmv HR hb);replace HB:=(bmv HB hb);replace HG:=am (GV.below HG.out hb);replace BKgt:=(kmv hb BKgt);clear hg;have BKgs:=am hbox;clear hbox;(try clear hczgt_0 hczgt_1 hfzgt);obtain ⟨hczgt_0,hczgt_1⟩:=cO2 BKgt.out;have hfzgt:=blk_frozen BKgt.out;(try clear hczgs_0 hfzgs_0);have hczgs_0:=cO1 BKgs.out;have hfzgs_0:=blk_frozen BKgs.out 0;clear hb) | ((refine gate_dst (N:=4) rfl ?_);(try (refine gate_guard (by rfl) ?_;dsimp only));refine box_event rfl (N:=4) rfl (cs:=#[.slice none 0 0,.int .i64 0,.slice none 0 0,.int .i64 0,.int .i64 0]) (t:=27) ?hr ?_;(case hr=>go_simp;try rfl);intro gr hg w3 hbox hb;have HNgt_gr:=am (show gt ≠ gr by have:=blk_lt BKgt.out;omega);have HNgs_gr:=am (show gs ≠ gr by have:=blk_lt BKgs.out;omega);have Ggr:=am (show w.heap.size≤gr by have:=HB.out.size;omega);replace HR:=(cmv HR hb);replace HB:=(bmv HB hb);replace HG:=am (GV.below HG.out hb);replace BKgt:=(kmv hb BKgt);replace BKgs:=(kmv hb BKgs);clear hg;have BKgr:=am hbox;clear hbox;(try clear hczgt_0 hczgt_1 hfzgt);obtain ⟨hczgt_0,hczgt_1⟩:=cO2 BKgt.out;have hfzgt:=blk_frozen BKgt.out;(try clear hczgs_0 hfzgs_0);have hczgs_0:=cO1 BKgs.out;have hfzgs_0:=blk_frozen BKgs.out 0;(try clear hczgr_0 hczgr_1 hczgr_2 hczgr_3 hczgr_4 hfzgr);obtain ⟨hczgr_0,hczgr_1,hczgr_2,hczgr_3,hczgr_4⟩:=cO5 BKgr.out;have hfzgr:=blk_frozen BKgr.out;clear hb) | ((refine gate_dst (N:=6) rfl ?_);(try (refine gate_guard (by rfl) ?_;dsimp only));refine box_event rfl (N:=6) rfl (cs:=#[.slice none 0 0,.int .i64 0,.slice none 0 0,.int .i64 0,.int .i64 0]) (t:=27) ?hr ?_;(case hr=>go_simp;try rfl);intro gx hg w4 hbox hb;have HNgt_gx:=am (show gt ≠ gx by have:=blk_lt BKgt.out;omega);have HNgs_gx:=am (show gs ≠ gx by have:=blk_lt BKgs.out;omega);have HNgr_gx:=am (show gr ≠ gx by have:=blk_lt BKgr.out;omega);have Ggx:=am (show w.heap.size≤gx by have:=HB.out.size;omega);replace HR:=(cmv HR hb);replace HB:=(bmv HB hb);replace HG:=am (GV.below HG.out hb);replace BKgt:=(kmv hb BKgt);replace BKgs:=(kmv hb BKgs);replace BKgr:=(kmv hb BKgr);clear hg;have BKgx:=am hbox;clear hbox;(try clear hczgt_0 hczgt_1 hfzgt);obtain ⟨hczgt_0,hczgt_1⟩:=cO2 BKgt.out;have hfzgt:=blk_frozen BKgt.out;(try clear hczgs_0 hfzgs_0);have hczgs_0:=cO1 BKgs.out;have hfzgs_0:=blk_frozen BKgs.out 0;(try clear hczgr_0 hczgr_1 hczgr_2 hczgr_3 hczgr_4 hfzgr);obtain ⟨hczgr_0,hczgr_1,hczgr_2,hczgr_3,hczgr_4⟩:=cO5 BKgr.out;have hfzgr:=blk_frozen BKgr.out;(try clear hczgx_0 hczgx_1 hczgx_2 hczgx_3 hczgx_4 hfzgx);obtain ⟨hczgx_0,hczgx_1,hczgx_2,hczgx_3,hczgx_4⟩:=cO5 BKgx.out;have hfzgx:=blk_frozen BKgx.out;clear hb;have HNrx:=am (show gr ≠ gx by have h1:=HNgr_gx.out;exact h1)) | (go_at_call 90;refine (attempt_Read_ok gt gs gx (ReadI w gx gr w4.heap.size l0 d x.2.2 x.1 x.2.1) w4 (Read1_ok w _ gt gs gx gr w4.heap.size A0 c0 l0 d s (below_alloc HB.out _) Ggx.out HNrx.out (blk_alloc BKgt.out _) (blk_alloc BKgs.out _) (blk_alloc BKgx.out _) (blk_alloc BKgr.out _) (blk_new w4 _) (Kd.C_alloc HR.out _) HC.out HL.out HSS.out (GV.below HG.out (below_alloc (Below.refl _ _) _)) x.1 x.2.1 x.2.2 HX.out) (fun W' hi=>by obtain ⟨_,_,_,_,_,_,h3,_⟩:=hi;exact ⟨(blk_cell h3 0).trans rfl,blk_frozen h3 0⟩)).mono ?_;rintro e w5 ⟨rfl,W',hI,rfl⟩;obtain ⟨A1,c1,A2,c2,b1,b2,b3,R1_,R2_,hb⟩:=hI;have Ge:=am (show w.heap.size≤w4.heap.size from HB.out.size);have m1:=am (blk_far (p:=⟨w4.heap.size,0,none⟩) b1 (blk_ne b1 b3 (by decide)) (.int .i64 0));have m2:=am (blk_far (p:=⟨w4.heap.size,0,none⟩) b2 (blk_ne b2 b3 (by decide)) (.int .i64 0));have m3:=am (Kd.R_set R1_ b3 (by decide) 0 (.int .i64 0));have m4:=am (Kd.R_set R2_ b3 (by decide) 0 (.int .i64 0));have m5:=am (below_set (j:=0) (v:=.int .i64 0) hb Ge.out);clear b1 b2 b3 R1_ R2_ hb;generalize W'.setCell ⟨w4.heap.size,0,none⟩ (.int .i64 0) = w6 at m1 m2 m3 m4 m5 ⊢;(try clear hczgx_0 hfzgx_0 hczgx_1 hfzgx_1 hczgx_2 hfzgx_2 hczgx_3 hfzgx_3 hczgx_4 hfzgx_4);have hczgx_0:=cO1 m1.out;have hfzgx_0:=blk_frozen m1.out 0;have hczgx_1 : w6.cell? ⟨gx,1,none⟩ = some (.int .i64 d):=(blk_cell m1.out 1).trans rfl;have hfzgx_1:=blk_frozen m1.out 1;have hczgx_2 : w6.cell? ⟨gx,2,none⟩ = some (.slice A2 x.2.2.length c2):=(blk_cell m1.out 2).trans rfl;have hfzgx_2:=blk_frozen m1.out 2;have hczgx_3 : w6.cell? ⟨gx,3,none⟩ = some (.int .i64 x.1):=(blk_cell m1.out 3).trans rfl;have hfzgx_3:=blk_frozen m1.out 3;have hczgx_4 : w6.cell? ⟨gx,4,none⟩ = some (.int .i64 x.2.1):=(blk_cell m1.out 4).trans rfl;have hfzgx_4:=blk_frozen m1.out 4;(try clear hczgr_0 hfzgr_0 hczgr_1 hfzgr_1 hczgr_2 hfzgr_2 hczgr_3 hfzgr_3 hczgr_4 hfzgr_4);have hczgr_0:=cO1 m2.out;have hfzgr_0:=blk_frozen m2.out 0;have hczgr_1 : w6.cell? ⟨gr,1,none⟩ = some (.int .i64 0):=(blk_cell m2.out 1).trans rfl;have hfzgr_1:=blk_frozen m2.out 1;have hczgr_2 : w6.cell? ⟨gr,2,none⟩ = some (.slice none 0 0):=(blk_cell m2.out 2).trans rfl;have hfzgr_2:=blk_frozen m2.out 2;have hczgr_3 : w6.cell? ⟨gr,3,none⟩ = some (.int .i64 0):=(blk_cell m2.out 3).trans rfl;have hfzgr_3:=blk_frozen m2.out 3;have hczgr_4 : w6.cell? ⟨gr,4,none⟩ = some (.int .i64 0):=(blk_cell m2.out 4).trans rfl;have hfzgr_4:=blk_frozen m2.out 4) | (go_at_call 64;(with_reducible refine (ca_isBasin.calls A1 c1 l0 d A2 c2 x.2.2 x.1 x.2.1 false _ (Kd.R_reads' m3.out).2.2 (Kd.R_reads' m3.out).2.1 (Kd.R_reads' m4.out).2.2 (Kd.R_reads' m4.out).2.1 HT.out).mono ?_);rintro e w7 ⟨rfl,hb⟩;have n1:=(kmv hb m1);have n2:=(kmv hb m2);have n3:=am (Kd.R_below m3.out hb);have n4:=am (Kd.R_below m4.out hb);have n5:=am (below_then m5.out m5.out.size hb);clear hb m1 m2 m3 m4 m5;(try clear hczgx_0 hfzgx_0 hczgx_1 hfzgx_1 hczgx_2 hfzgx_2 hczgx_3 hfzgx_3 hczgx_4 hfzgx_4);have hczgx_0:=cO1 n1.out;have hfzgx_0:=blk_frozen n1.out 0;have hczgx_1 : w7.cell? ⟨gx,1,none⟩ = some (.int .i64 d):=(blk_cell n1.out 1).trans rfl;have hfzgx_1:=blk_frozen n1.out 1;have hczgx_2 : w7.cell? ⟨gx,2,none⟩ = some (.slice A2 x.2.2.length c2):=(blk_cell n1.out 2).trans rfl;have hfzgx_2:=blk_frozen n1.out 2;have hczgx_3 : w7.cell? ⟨gx,3,none⟩ = some (.int .i64 x.1):=(blk_cell n1.out 3).trans rfl;have hfzgx_3:=blk_frozen n1.out 3;have hczgx_4 : w7.cell? ⟨gx,4,none⟩ = some (.int .i64 x.2.1):=(blk_cell n1.out 4).trans rfl;have hfzgx_4:=blk_frozen n1.out 4;(try clear hczgr_0 hfzgr_0 hczgr_1 hfzgr_1 hczgr_2 hfzgr_2 hczgr_3 hfzgr_3 hczgr_4 hfzgr_4);have hczgr_0:=cO1 n2.out;have hfzgr_0:=blk_frozen n2.out 0;have hczgr_1 : w7.cell? ⟨gr,1,none⟩ = some (.int .i64 0):=(blk_cell n2.out 1).trans rfl;have hfzgr_1:=blk_frozen n2.out 1;have hczgr_2 : w7.cell? ⟨gr,2,none⟩ = some (.slice none 0 0):=(blk_cell n2.out 2).trans rfl;have hfzgr_2:=blk_frozen n2.out 2;have hczgr_3 : w7.cell? ⟨gr,3,none⟩ = some (.int .i64 0):=(blk_cell n2.out 3).trans rfl;have hfzgr_3:=blk_frozen n2.out 3;have hczgr_4 : w7.cell? ⟨gr,4,none⟩ = some (.int .i64 0):=(blk_cell n2.out 4).trans rfl;have hfzgr_4:=blk_frozen n2.out 4))
    refine bodyPost_ret (results_ct rfl _ _ gr 27 #[.slice none 0 0,.int .i64 0,.slice none 0 0,.int .i64 0,.int .i64 0] (0,0) _ rfl ((blk_set (blk_set (blk_set (blk_set (blk_set n2.out 0 _) 1 _) 2 _) 3 _) 4 _).trans rfl) Tryz.underlying27 rfl (by kernel_rfl)) rfl ?_
    exact ⟨_,_,rfl,Kd.R_nil _ _ _ _ _,Kd.R_nil _ _ _ _ _,(below_set (below_set (below_set (below_set (below_set n5.out Ggr.out) Ggr.out) Ggr.out) Ggr.out) Ggr.out)⟩
   | true =>
    rw [if_pos rfl] at h2
    simp only [Option.some.injEq,Prod.mk.injEq] at h2
    obtain ⟨rfl,rfl,rfl,rfl,rfl,rfl⟩:=h2
    go_enter Tryz.func50,Tryz.ntmps50
    go_wp2_with (first | ((refine gate_dst (N:=2) rfl ?_);(try (refine gate_guard (by rfl) ?_;dsimp only));refine box_event rfl (N:=2) rfl (cs:=#[.slice A0 l0.length c0,.int .i64 d]) (t:=24) ?hr ?_;(case hr=>go_simp;try rfl);intro gt hg w1 hbox hb;replace HR:=(cmv HR hb);replace HB:=(bmv HB hb);replace HG:=am (GV.below HG.out hb);clear hg;have BKgt:=am hbox;clear hbox;(try clear hczgt_0 hczgt_1 hfzgt);obtain ⟨hczgt_0,hczgt_1⟩:=cO2 BKgt.out;have hfzgt:=blk_frozen BKgt.out;clear hb) | ((refine gate_dst (N:=3) rfl ?_);(try (refine gate_guard (by rfl) ?_;dsimp only));refine box_event rfl (N:=3) rfl (cs:=#[.string s]) (t:=9) ?hr ?_;(case hr=>go_simp;try rfl);intro gs hg w2 hbox hb;replace HR:=(cmv HR hb);replace HB:=(bmv HB hb);replace HG:=am (GV.below HG.out hb);replace BKgt:=(kmv hb BKgt);clear hg;have BKgs:=am hbox;clear hbox;(try clear hczgt_0 hczgt_1 hfzgt);obtain ⟨hczgt_0,hczgt_1⟩:=cO2 BKgt.out;have hfzgt:=blk_frozen BKgt.out;(try clear hczgs_0 hfzgs_0);have hczgs_0:=cO1 BKgs.out;have hfzgs_0:=blk_frozen BKgs.out 0;clear hb) | ((refine gate_dst (N:=4) rfl ?_);(try (refine gate_guard (by rfl) ?_;dsimp only));refine box_event rfl (N:=4) rfl (cs:=#[.slice none 0 0,.int .i64 0,.slice none 0 0,.int .i64 0,.int .i64 0]) (t:=27) ?hr ?_;(case hr=>go_simp;try rfl);intro gr hg w3 hbox hb;have HNgt_gr:=am (show gt ≠ gr by have:=blk_lt BKgt.out;omega);have HNgs_gr:=am (show gs ≠ gr by have:=blk_lt BKgs.out;omega);have Ggr:=am (show w.heap.size≤gr by have:=HB.out.size;omega);replace HR:=(cmv HR hb);replace HB:=(bmv HB hb);replace HG:=am (GV.below HG.out hb);replace BKgt:=(kmv hb BKgt);replace BKgs:=(kmv hb BKgs);clear hg;have BKgr:=am hbox;clear hbox;(try clear hczgt_0 hczgt_1 hfzgt);obtain ⟨hczgt_0,hczgt_1⟩:=cO2 BKgt.out;have hfzgt:=blk_frozen BKgt.out;(try clear hczgs_0 hfzgs_0);have hczgs_0:=cO1 BKgs.out;have hfzgs_0:=blk_frozen BKgs.out 0;(try clear hczgr_0 hczgr_1 hczgr_2 hczgr_3 hczgr_4 hfzgr);obtain ⟨hczgr_0,hczgr_1,hczgr_2,hczgr_3,hczgr_4⟩:=cO5 BKgr.out;have hfzgr:=blk_frozen BKgr.out;clear hb) | ((refine gate_dst (N:=6) rfl ?_);(try (refine gate_guard (by rfl) ?_;dsimp only));refine box_event rfl (N:=6) rfl (cs:=#[.slice none 0 0,.int .i64 0,.slice none 0 0,.int .i64 0,.int .i64 0]) (t:=27) ?hr ?_;(case hr=>go_simp;try rfl);intro gx hg w4 hbox hb;have HNgt_gx:=am (show gt ≠ gx by have:=blk_lt BKgt.out;omega);have HNgs_gx:=am (show gs ≠ gx by have:=blk_lt BKgs.out;omega);have HNgr_gx:=am (show gr ≠ gx by have:=blk_lt BKgr.out;omega);have Ggx:=am (show w.heap.size≤gx by have:=HB.out.size;omega);replace HR:=(cmv HR hb);replace HB:=(bmv HB hb);replace HG:=am (GV.below HG.out hb);replace BKgt:=(kmv hb BKgt);replace BKgs:=(kmv hb BKgs);replace BKgr:=(kmv hb BKgr);clear hg;have BKgx:=am hbox;clear hbox;(try clear hczgt_0 hczgt_1 hfzgt);obtain ⟨hczgt_0,hczgt_1⟩:=cO2 BKgt.out;have hfzgt:=blk_frozen BKgt.out;(try clear hczgs_0 hfzgs_0);have hczgs_0:=cO1 BKgs.out;have hfzgs_0:=blk_frozen BKgs.out 0;(try clear hczgr_0 hczgr_1 hczgr_2 hczgr_3 hczgr_4 hfzgr);obtain ⟨hczgr_0,hczgr_1,hczgr_2,hczgr_3,hczgr_4⟩:=cO5 BKgr.out;have hfzgr:=blk_frozen BKgr.out;(try clear hczgx_0 hczgx_1 hczgx_2 hczgx_3 hczgx_4 hfzgx);obtain ⟨hczgx_0,hczgx_1,hczgx_2,hczgx_3,hczgx_4⟩:=cO5 BKgx.out;have hfzgx:=blk_frozen BKgx.out;clear hb;have HNrx:=am (show gr ≠ gx by have h1:=HNgr_gx.out;exact h1)) | (go_at_call 90;refine (attempt_Read_ok gt gs gx (ReadI w gx gr w4.heap.size l0 d x.2.2 x.1 x.2.1) w4 (Read1_ok w _ gt gs gx gr w4.heap.size A0 c0 l0 d s (below_alloc HB.out _) Ggx.out HNrx.out (blk_alloc BKgt.out _) (blk_alloc BKgs.out _) (blk_alloc BKgx.out _) (blk_alloc BKgr.out _) (blk_new w4 _) (Kd.C_alloc HR.out _) HC.out HL.out HSS.out (GV.below HG.out (below_alloc (Below.refl _ _) _)) x.1 x.2.1 x.2.2 HX.out) (fun W' hi=>by obtain ⟨_,_,_,_,_,_,h3,_⟩:=hi;exact ⟨(blk_cell h3 0).trans rfl,blk_frozen h3 0⟩)).mono ?_;rintro e w5 ⟨rfl,W',hI,rfl⟩;obtain ⟨A1,c1,A2,c2,b1,b2,b3,R1_,R2_,hb⟩:=hI;have Ge:=am (show w.heap.size≤w4.heap.size from HB.out.size);have m1:=am (blk_far (p:=⟨w4.heap.size,0,none⟩) b1 (blk_ne b1 b3 (by decide)) (.int .i64 0));have m2:=am (blk_far (p:=⟨w4.heap.size,0,none⟩) b2 (blk_ne b2 b3 (by decide)) (.int .i64 0));have m3:=am (Kd.R_set R1_ b3 (by decide) 0 (.int .i64 0));have m4:=am (Kd.R_set R2_ b3 (by decide) 0 (.int .i64 0));have m5:=am (below_set (j:=0) (v:=.int .i64 0) hb Ge.out);clear b1 b2 b3 R1_ R2_ hb;generalize W'.setCell ⟨w4.heap.size,0,none⟩ (.int .i64 0) = w6 at m1 m2 m3 m4 m5 ⊢;(try clear hczgx_0 hfzgx_0 hczgx_1 hfzgx_1 hczgx_2 hfzgx_2 hczgx_3 hfzgx_3 hczgx_4 hfzgx_4);have hczgx_0:=cO1 m1.out;have hfzgx_0:=blk_frozen m1.out 0;have hczgx_1 : w6.cell? ⟨gx,1,none⟩ = some (.int .i64 d):=(blk_cell m1.out 1).trans rfl;have hfzgx_1:=blk_frozen m1.out 1;have hczgx_2 : w6.cell? ⟨gx,2,none⟩ = some (.slice A2 x.2.2.length c2):=(blk_cell m1.out 2).trans rfl;have hfzgx_2:=blk_frozen m1.out 2;have hczgx_3 : w6.cell? ⟨gx,3,none⟩ = some (.int .i64 x.1):=(blk_cell m1.out 3).trans rfl;have hfzgx_3:=blk_frozen m1.out 3;have hczgx_4 : w6.cell? ⟨gx,4,none⟩ = some (.int .i64 x.2.1):=(blk_cell m1.out 4).trans rfl;have hfzgx_4:=blk_frozen m1.out 4;(try clear hczgr_0 hfzgr_0 hczgr_1 hfzgr_1 hczgr_2 hfzgr_2 hczgr_3 hfzgr_3 hczgr_4 hfzgr_4);have hczgr_0:=cO1 m2.out;have hfzgr_0:=blk_frozen m2.out 0;have hczgr_1 : w6.cell? ⟨gr,1,none⟩ = some (.int .i64 0):=(blk_cell m2.out 1).trans rfl;have hfzgr_1:=blk_frozen m2.out 1;have hczgr_2 : w6.cell? ⟨gr,2,none⟩ = some (.slice none 0 0):=(blk_cell m2.out 2).trans rfl;have hfzgr_2:=blk_frozen m2.out 2;have hczgr_3 : w6.cell? ⟨gr,3,none⟩ = some (.int .i64 0):=(blk_cell m2.out 3).trans rfl;have hfzgr_3:=blk_frozen m2.out 3;have hczgr_4 : w6.cell? ⟨gr,4,none⟩ = some (.int .i64 0):=(blk_cell m2.out 4).trans rfl;have hfzgr_4:=blk_frozen m2.out 4) | (go_at_call 64;(with_reducible refine (ca_isBasin.calls A1 c1 l0 d A2 c2 x.2.2 x.1 x.2.1 true _ (Kd.R_reads' m3.out).2.2 (Kd.R_reads' m3.out).2.1 (Kd.R_reads' m4.out).2.2 (Kd.R_reads' m4.out).2.1 HT.out).mono ?_);rintro e w7 ⟨rfl,hb⟩;have n1:=(kmv hb m1);have n2:=(kmv hb m2);have n3:=am (Kd.R_below m3.out hb);have n4:=am (Kd.R_below m4.out hb);have n5:=am (below_then m5.out m5.out.size hb);clear hb m1 m2 m3 m4 m5;(try clear hczgx_0 hfzgx_0 hczgx_1 hfzgx_1 hczgx_2 hfzgx_2 hczgx_3 hfzgx_3 hczgx_4 hfzgx_4);have hczgx_0:=cO1 n1.out;have hfzgx_0:=blk_frozen n1.out 0;have hczgx_1 : w7.cell? ⟨gx,1,none⟩ = some (.int .i64 d):=(blk_cell n1.out 1).trans rfl;have hfzgx_1:=blk_frozen n1.out 1;have hczgx_2 : w7.cell? ⟨gx,2,none⟩ = some (.slice A2 x.2.2.length c2):=(blk_cell n1.out 2).trans rfl;have hfzgx_2:=blk_frozen n1.out 2;have hczgx_3 : w7.cell? ⟨gx,3,none⟩ = some (.int .i64 x.1):=(blk_cell n1.out 3).trans rfl;have hfzgx_3:=blk_frozen n1.out 3;have hczgx_4 : w7.cell? ⟨gx,4,none⟩ = some (.int .i64 x.2.1):=(blk_cell n1.out 4).trans rfl;have hfzgx_4:=blk_frozen n1.out 4;(try clear hczgr_0 hfzgr_0 hczgr_1 hfzgr_1 hczgr_2 hfzgr_2 hczgr_3 hfzgr_3 hczgr_4 hfzgr_4);have hczgr_0:=cO1 n2.out;have hfzgr_0:=blk_frozen n2.out 0;have hczgr_1 : w7.cell? ⟨gr,1,none⟩ = some (.int .i64 0):=(blk_cell n2.out 1).trans rfl;have hfzgr_1:=blk_frozen n2.out 1;have hczgr_2 : w7.cell? ⟨gr,2,none⟩ = some (.slice none 0 0):=(blk_cell n2.out 2).trans rfl;have hfzgr_2:=blk_frozen n2.out 2;have hczgr_3 : w7.cell? ⟨gr,3,none⟩ = some (.int .i64 0):=(blk_cell n2.out 3).trans rfl;have hfzgr_3:=blk_frozen n2.out 3;have hczgr_4 : w7.cell? ⟨gr,4,none⟩ = some (.int .i64 0):=(blk_cell n2.out 4).trans rfl;have hfzgr_4:=blk_frozen n2.out 4))
    refine bodyPost_ret (results_ct rfl _ _ gr 27 #[.slice A1 l0.length c1,.int .i64 d,.slice A2 x.2.2.length c2,.int .i64 x.1,.int .i64 x.2.1] (0,0) _ rfl ((blk_set (blk_set (blk_set (blk_set (blk_set n2.out 0 _) 1 _) 2 _) 3 _) 4 _).trans rfl) Tryz.underlying27 rfl (by kernel_rfl)) rfl ?_
    exact ⟨_,_,rfl,(Kd.R_set (Kd.R_set (Kd.R_set (Kd.R_set (Kd.R_set n3.out n2.out (by decide) 0 (.slice A1 l0.length c1)) (blk_set n2.out 0 (.slice A1 l0.length c1)) (by decide) 1 (.int .i64 d)) (blk_set (blk_set n2.out 0 (.slice A1 l0.length c1)) 1 (.int .i64 d)) (by decide) 2 (.slice A2 x.2.2.length c2)) (blk_set (blk_set (blk_set n2.out 0 (.slice A1 l0.length c1)) 1 (.int .i64 d)) 2 (.slice A2 x.2.2.length c2)) (by decide) 3 (.int .i64 x.1)) (blk_set (blk_set (blk_set (blk_set n2.out 0 (.slice A1 l0.length c1)) 1 (.int .i64 d)) 2 (.slice A2 x.2.2.length c2)) 3 (.int .i64 x.1)) (by decide) 4 (.int .i64 x.2.1)),(Kd.R_set (Kd.R_set (Kd.R_set (Kd.R_set (Kd.R_set n4.out n2.out (by decide) 0 (.slice A1 l0.length c1)) (blk_set n2.out 0 (.slice A1 l0.length c1)) (by decide) 1 (.int .i64 d)) (blk_set (blk_set n2.out 0 (.slice A1 l0.length c1)) 1 (.int .i64 d)) (by decide) 2 (.slice A2 x.2.2.length c2)) (blk_set (blk_set (blk_set n2.out 0 (.slice A1 l0.length c1)) 1 (.int .i64 d)) 2 (.slice A2 x.2.2.length c2)) (by decide) 3 (.int .i64 x.1)) (blk_set (blk_set (blk_set (blk_set n2.out 0 (.slice A1 l0.length c1)) 1 (.int .i64 d)) 2 (.slice A2 x.2.2.length c2)) 3 (.int .i64 x.1)) (by decide) 4 (.int .i64 x.2.1)),(below_set (below_set (below_set (below_set (below_set n5.out Ggr.out) Ggr.out) Ggr.out) Ggr.out) Ggr.out)⟩
def smallN (z : S48) : Bool:=decide (0≤z.f0∧z.f0≤1000∧0≤z.f1∧z.f1≤1000)
def ca_textP.f (rows : List S126) (draw : Int) (noz : List S48) (weir spill : Int) : Option ByteArray:=
 if noz.length≤1000∧(0≤weir∧weir≤1000∧0≤spill∧spill≤1000)∧noz.all smallN = true then some (ca_text.f weir spill noz) else none
theorem ca_textP.calls (A0_0 : Option Addr) (c0_0 : Nat) (l0_0 : List S126) (a0_1 : Int) (A0_2 : Option Addr) (c0_2 : Nat) (l0_2 : List S48) (a0_3 a0_4 : Int) (r : ByteArray) (w : World) (hr0_0 : Kd.C k126 w A0_0 l0_0.length l0_0) (hc0_0 : l0_0.length≤c0_0) (hr0_2 : Kd.C k48 w A0_2 l0_2.length l0_2) (hc0_2 : l0_2.length≤c0_2) (hg : GV w) (h : ca_textP.f l0_0 a0_1 l0_2 a0_3 a0_4 = some r) :
 Calls Tryz.prog 89 #[.agg #[.slice A0_0 l0_0.length c0_0,.int .i64 a0_1,.slice A0_2 l0_2.length c0_2,.int .i64 a0_3,.int .i64 a0_4]] w fun e w'=>e = .returned (.string r)∧Below w.heap.size w w':=by
 unfold ca_textP.f at h
 split at h
 ·rename_i c
  obtain rfl:=Option.some.inj h
  exact ca_text.calls A0_0 l0_0.length c0_0 a0_1 A0_2 c0_2 l0_2 a0_3 a0_4 w hr0_2 hg c.1 c.2.1 (fun z hz=>by have:=List.all_eq_true.1 c.2.2 z hz;simpa [smallN] using this)
 ·cases h
def ca_ReadP.f (l0 : List S126) (d : Int) (s : ByteArray) : Option (List S126 × Int × List S48 × Int × Int × Int):=
 if l0.length < 5864062014805∧s.size≤9223372036854775807 then ca_Read.f l0 d s else none
theorem ca_ReadP.calls (A0 : Option Addr) (c0 : Nat) (l0 : List S126) (d : Int) (s : ByteArray) (r1 : List S126) (r2 : Int) (r3 : List S48) (r4 r5 r6 : Int) (w : World) (hr0 : Kd.C k126 w A0 l0.length l0) (hc0 : l0.length≤c0) (hg : GV w) (h : ca_ReadP.f l0 d s = some (r1,r2,r3,r4,r5,r6)) :
 Calls Tryz.prog 50 #[.agg #[.slice A0 l0.length c0,.int .i64 d],.string s] w fun e w'=>∃ v0_ v2_ : Value,e = .returned (.tuple #[.agg #[v0_,.int .i64 r2,v2_,.int .i64 r4,.int .i64 r5],.int .i64 r6])∧Kd.R k126 126 w' w.heap.size (fun _=>True) v0_ r1∧Kd.R k48 48 w' w.heap.size (fun _=>True) v2_ r3∧Below w.heap.size w w':=by
 unfold ca_ReadP.f at h
 split at h
 ·rename_i c
  exact ca_Read.calls A0 c0 l0 d s r1 r2 r3 r4 r5 r6 w hr0 hc0 c.1 c.2 hg h
 ·cases h
section
attribute [local go_sem] max2_int min2_int max_two min_two
def ca_Print.f (l0_0 : List (S126)) (a0_1 : Int) (l0_2 : List (S48)) (a0_3 : Int) (a0_4 : Int) : Option (ByteArray × Int):=(ca_isBasin.f l0_0 a0_1 l0_2 a0_3 a0_4).bind fun t928=>(if t928 = true then ((ca_textP.f l0_0 a0_1 l0_2 a0_3 a0_4).bind fun t929=>(some (t929,0))) else (some ((⟨#[]⟩ : ByteArray),2)))
theorem ca_Print.calls (A0_0 : Option Addr) (c0_0 : Nat) (l0_0 : List (S126)) (a0_1 : Int) (A0_2 : Option Addr) (c0_2 : Nat) (l0_2 : List (S48)) (a0_3 : Int) (a0_4 : Int) (r1 : ByteArray) (r2 : Int) (w : World) (hr0_0 : Kd.C k126 w A0_0 l0_0.length l0_0) (hc0_0 : l0_0.length≤c0_0) (hr0_2 : Kd.C k48 w A0_2 l0_2.length l0_2) (hc0_2 : l0_2.length≤c0_2) (hg : GV w) (h : ca_Print.f l0_0 a0_1 l0_2 a0_3 a0_4 = some (r1,r2)) :
 Calls Tryz.prog 49 #[.agg #[.slice A0_0 l0_0.length c0_0,.int .i64 a0_1,.slice A0_2 l0_2.length c0_2,.int .i64 a0_3,.int .i64 a0_4]] w fun e w'=>e = .returned (.tuple #[.string r1,.int .i64 r2])∧Below w.heap.size w w':=by
 have HG:=am hg
 clear hg
 have hu27:=Tryz.underlying27
 have HR0_0:=am hr0_0
 have HC0_0:=am hc0_0
 clear hr0_0 hc0_0
 have HR0_2:=am hr0_2
 have HC0_2:=am hc0_2
 clear hr0_2 hc0_2
 have HB:=am (Below.refl w.heap.size w)
 have H : ((ca_isBasin.f l0_0 a0_1 l0_2 a0_3 a0_4).bind fun t928=>(if t928 = true then ((ca_textP.f l0_0 a0_1 l0_2 a0_3 a0_4).bind fun t929=>(some (t929,0))) else (some ((⟨#[]⟩ : ByteArray),2)))) = some (r1,r2):=h
 clear h
 replace H:=obm H
 obtain ⟨t928,A20,H⟩:=H
 replace H : (if t928 = true then ((ca_textP.f l0_0 a0_1 l0_2 a0_3 a0_4).bind fun t929=>(some (t929,0))) else (some ((⟨#[]⟩ : ByteArray),2))) = some (r1,r2):=H
 have A2:=am A20
 clear A20
 by_cases c3 : t928 = true
 case neg =>
  replace c3:=Bool.eq_false_iff.mpr c3
  subst c3
  replace H : (some ((⟨#[]⟩ : ByteArray),2)) = some (r1,r2):=by rw [if_neg (show ¬ (false = true) by decide)] at H;exact H
  simp only [Option.some.injEq,Prod.mk.injEq] at H
  obtain ⟨rfl,rfl⟩:=H
  go_enter Tryz.func49,Tryz.ntmps49
  go_wp2_with (first | ((refine gate_dst (N:=1) rfl ?_);refine box_event rfl (N:=1) rfl (cs:=#[.slice A0_0 l0_0.length c0_0,.int .i64 a0_1,.slice A0_2 l0_2.length c0_2,.int .i64 a0_3,.int .i64 a0_4]) (t:=27) ?hr ?_;(case hr=>go_simp;try rfl);intro gb927 hg w10 hbox hb;have BK927:=am (hbox);have GW927:=am (ge_new (HB.out) hg);have GE927:=am (ge_new (HB.out) hg);replace HB:=am (below_step (HB.out) hb);clear hb hbox hg;obtain ⟨hcz11_0,hcz11_1,hcz11_2,hcz11_3,hcz11_4⟩:=cO5 BK927.out) | ((with_reducible refine gate_callee (f:=64) rfl ?_);refine goesL_ (some 5) rfl rfl Tryz.func64 (by kernel_rfl) rfl #[.agg #[.slice A0_0 l0_0.length c0_0,.int .i64 a0_1,.slice A0_2 l0_2.length c0_2,.int .i64 a0_3,.int .i64 a0_4]] rfl (by (try simp only [List.map_toArray,List.map_cons,List.map_nil]);first | done | rfl | (simp only [List.length_drop,List.length_take];rfl)) ?_;(with_reducible refine (ca_isBasin.calls _ _ l0_0 a0_1 _ _ l0_2 a0_3 a0_4 false _ ?side1 ?side2 ?side3 ?side4 A2.out).mono ?_);(case side1=>exact kC HR0_0.out HB.out);(case side2=>exact HC0_0.out);(case side3=>exact kC HR0_2.out HB.out);(case side4=>exact HC0_2.out);rintro e w12 ⟨rfl,hb⟩;refine ⟨_,rfl,?_⟩;replace BK927:=(kmv hb BK927);replace HB:=am (below_step (HB.out) hb);(try clear hb);(try clear hb2);(try clear hk);(try clear hi)))
  go_ret2
  exact ⟨by first | rfl | (simp [*]<;>rfl),HB.out⟩
 subst c3
 replace H : ((ca_textP.f l0_0 a0_1 l0_2 a0_3 a0_4).bind fun t929=>(some (t929,0))) = some (r1,r2):=by rw [if_pos rfl] at H;exact H
 replace H:=obm H
 obtain ⟨t929,A40,H⟩:=H
 replace H : (some (t929,0)) = some (r1,r2):=H
 have A4:=am A40
 clear A40
 simp only [Option.some.injEq,Prod.mk.injEq] at H
 obtain ⟨rfl,rfl⟩:=H
 go_enter Tryz.func49,Tryz.ntmps49
 go_wp2_with (first | ((refine gate_dst (N:=1) rfl ?_);refine box_event rfl (N:=1) rfl (cs:=#[.slice A0_0 l0_0.length c0_0,.int .i64 a0_1,.slice A0_2 l0_2.length c0_2,.int .i64 a0_3,.int .i64 a0_4]) (t:=27) ?hr ?_;(case hr=>go_simp;try rfl);intro gb927 hg w5 hbox hb;have BK927:=am (hbox);have GW927:=am (ge_new (HB.out) hg);have GE927:=am (ge_new (HB.out) hg);replace HB:=am (below_step (HB.out) hb);clear hb hbox hg;obtain ⟨hcz6_0,hcz6_1,hcz6_2,hcz6_3,hcz6_4⟩:=cO5 BK927.out) | ((with_reducible refine gate_callee (f:=64) rfl ?_);refine goesL_ (some 5) rfl rfl Tryz.func64 (by kernel_rfl) rfl #[.agg #[.slice A0_0 l0_0.length c0_0,.int .i64 a0_1,.slice A0_2 l0_2.length c0_2,.int .i64 a0_3,.int .i64 a0_4]] rfl (by (try simp only [List.map_toArray,List.map_cons,List.map_nil]);first | done | rfl | (simp only [List.length_drop,List.length_take];rfl)) ?_;(with_reducible refine (ca_isBasin.calls _ _ l0_0 a0_1 _ _ l0_2 a0_3 a0_4 true _ ?side1 ?side2 ?side3 ?side4 A2.out).mono ?_);(case side1=>exact kC HR0_0.out HB.out);(case side2=>exact HC0_0.out);(case side3=>exact kC HR0_2.out HB.out);(case side4=>exact HC0_2.out);rintro e w7 ⟨rfl,hb⟩;refine ⟨_,rfl,?_⟩;replace BK927:=(kmv hb BK927);replace HB:=am (below_step (HB.out) hb);(try clear hb);(try clear hb2);(try clear hk);(try clear hi);obtain ⟨hcz8_0,hcz8_1,hcz8_2,hcz8_3,hcz8_4⟩:=cO5 BK927.out) | ((with_reducible refine gate_callee (f:=89) rfl ?_);refine goesL_ (some 8) rfl rfl Tryz.func89 (by kernel_rfl) rfl #[.agg #[.slice A0_0 l0_0.length c0_0,.int .i64 a0_1,.slice A0_2 l0_2.length c0_2,.int .i64 a0_3,.int .i64 a0_4]] rfl (by (try simp only [List.map_toArray,List.map_cons,List.map_nil]);first | done | rfl | (simp only [List.length_drop,List.length_take];rfl)) ?_;(with_reducible refine (ca_textP.calls _ _ l0_0 a0_1 _ _ l0_2 a0_3 a0_4 t929 _ ?side1 ?side2 ?side3 ?side4 (HG.out.below (by repeat (first | (with_reducible exact HB.out) | (with_reducible apply below_alloc) | (with_reducible apply pw_below_drewN) | (with_reducible apply below_drew1) | (with_reducible refine below_set ?_ (Aside0.out (by assumption))) | exact HB.out))) A4.out).mono ?_);(case side1=>exact kC HR0_0.out HB.out);(case side2=>exact HC0_0.out);(case side3=>exact kC HR0_2.out HB.out);(case side4=>exact HC0_2.out);rintro e w9 ⟨rfl,hb⟩;refine ⟨_,rfl,?_⟩;replace BK927:=(kmv hb BK927);replace HB:=am (below_step (HB.out) hb);(try clear hb);(try clear hb2);(try clear hk);(try clear hi)))
 go_ret2
 exact ⟨by first | rfl | (simp [*]<;>rfl),HB.out⟩
mutual
def q1_Decimal.j0 : Nat→Int→Bool→Option (ByteArray)
 | 0,_,_=>none
 | k + 1,x0,x8=>if x8 = true then ((some (([(wrap64 (48 - x0)) % 256] : List Int) : List Int)).bind fun y930=>(if 1 + (strOfNums y930).size≤9223372036854775807 then (some ((⟨#[45]⟩ : ByteArray) ++ (strOfNums y930))) else (none))) else (if x0 < 0 then ((q1_Decimal.f k (wrap64 (Int.tdiv x0 10))).bind fun t933=>((some (([(wrap64 (48 - (Int.tmod x0 10))) % 256] : List Int) : List Int)).bind fun y934=>(if t933.size + (strOfNums y934).size≤9223372036854775807 then (some (t933 ++ (strOfNums y934))) else (none)))) else (if x0 < 10 then (some (strOfNums (([(wrap64 (48 + x0)) % 256] : List Int)))) else ((q1_Decimal.f k (wrap64 (Int.tdiv x0 10))).bind fun t940=>((some (([(wrap64 (48 + (Int.tmod x0 10))) % 256] : List Int) : List Int)).bind fun y941=>(if t940.size + (strOfNums y941).size≤9223372036854775807 then (some (t940 ++ (strOfNums y941))) else (none))))))
def q1_Decimal.f : Nat→Int→Option (ByteArray)
 | 0,_=>none
 | k + 1,a0=>if a0 > (-10) then (q1_Decimal.j0 k a0 (decide (a0 < 0))) else (q1_Decimal.j0 k a0 false)
end
def q1_Decimal.T4 : Bool × List (List Nat × List Nat):=(true,[([],[]),([0],[0]),([1],[1]),([],[]),([3],[3]),([4],[4]),([5],[5]),([6],[6]),([7],[7]),([2,8],[2,8]),([9,2,0,1,2,3,4,5,6,7,8,9],[9])])
def q1_Decimal.B4 : List Nat:=[0,1,3,0,8,24,56,120,248,511,1023]
theorem q1_Decimal.tab4 : rtab .any (opsOf Tryz.f125 4) = q1_Decimal.T4:=by kernel_rfl
theorem q1_Decimal.bits4 : waitsOk q1_Decimal.T4.2 q1_Decimal.B4 = true:=by kernel_rfl
def q1_Decimal.T7 : Bool × List (List Nat × List Nat):=(true,[([],[]),([0],[0]),([1],[1]),([],[]),([3],[3]),([4],[4]),([5],[5]),([6],[6]),([7],[7]),([2,8],[2,8]),([9,2,0,1,2,3,4,5,6,7,8,9],[9])])
def q1_Decimal.B7 : List Nat:=[0,1,3,0,8,24,56,120,248,511,1023]
theorem q1_Decimal.tab7 : rtab .any (opsOf Tryz.f125 7) = q1_Decimal.T7:=by kernel_rfl
theorem q1_Decimal.bits7 : waitsOk q1_Decimal.T7.2 q1_Decimal.B7 = true:=by kernel_rfl
theorem q1_Decimal.calls (k : Nat) : ∀ (a0 : Int) (r : ByteArray) (w : World) (h : q1_Decimal.f k a0 = some r),
 Calls Tryz.prog 125 #[.int .i64 a0] w fun e w'=>e = .returned (.string r)∧Below w.heap.size w w':=by
 induction k using Nat.strongRecOn with
 | _ k ih =>
 intro a0 r w h
 cases k with
 | zero=>exact absurd h (by simp [q1_Decimal.f])
 | succ k =>
 simp only [q1_Decimal.f] at h
 have HB:=am (Below.refl w.heap.size w)
 have H : (if a0 > (-10) then (q1_Decimal.j0 k a0 (decide (a0 < 0))) else (q1_Decimal.j0 k a0 false)) = some r:=h
 clear h
 have HC2:=am H
 clear H
 go_enter Tryz.func125,Tryz.ntmps125
 go_upto_region 1 with (fail)
 go_cut [8] (fun v8 wc=>∃ (kq : Nat) (x8_1 : Bool),v8 = .bool x8_1∧Aside0 (q1_Decimal.j0 kq a0 x8_1 = some r)∧Aside0 (kq≤k)∧Aside0 (Below w.heap.size w wc))
 case first =>
  have H:=HC2.out
  clear HC2
  by_cases c3 : a0 > (-10)
  ·rw [if_pos c3] at H
   have c3b0 : decide ((-10) < a0) = true:=decide_eq_true c3
   clear c3
   (first | rw [c3b0] | (simp only [i64_w,i32_w];rw [c3b0]) | skip)
   replace H':=am H
   go_wp2
   go_meet
   case rel=>exact ⟨_,(decide (a0 < 0)),(by first | rfl | (simp;done) | (simp [*];done)),H',⟨by first | omega | exact Nat.le_refl _⟩,⟨HB.out⟩⟩
  ·rw [if_neg c3] at H
   have c3b0 : decide ((-10) < a0) = false:=decide_eq_false c3
   clear c3
   (first | rw [c3b0] | (simp only [i64_w,i32_w];rw [c3b0]) | skip)
   replace H':=am H
   go_wp2
   go_meet
   case rel=>exact ⟨_,(false),(by first | rfl | (simp;done) | (simp [*];done)),H',⟨by first | omega | exact Nat.le_refl _⟩,⟨HB.out⟩⟩
 case rest =>
  clear HC2
  obtain ⟨kq,x8_1,rfl,HA,HJ1,HB⟩:=hcut
  cases kq with
  | zero=>exact absurd HA.out (by simp [q1_Decimal.j0])
  | succ kj1 =>
   have H:=HA.out
   clear HA
   simp only [q1_Decimal.j0] at H
   by_cases c4 : x8_1 = true
   ·subst c4
    replace H : ((some (([(wrap64 (48 - a0)) % 256] : List Int) : List Int)).bind fun y930=>(if 1 + (strOfNums y930).size≤9223372036854775807 then (some ((⟨#[45]⟩ : ByteArray) ++ (strOfNums y930))) else (none))) = some r:=by rw [if_pos rfl] at H;exact H
    obtain ⟨y930,hy930⟩ : ∃ y_ : List Int,y_ = (([(wrap64 (48 - a0)) % 256] : List Int)):=⟨_,rfl⟩
    replace H : (if 1 + (strOfNums y930).size≤9223372036854775807 then (some ((⟨#[45]⟩ : ByteArray) ++ (strOfNums y930))) else (none)) = some r:=by first | (rw [hy930];with_reducible exact H) | (have H2_:=(Option.bind_some _ _).symm.trans H;rw [hy930];with_reducible exact H2_) | (have H2_:=(Option.bind_some _ _).symm.trans H;with_reducible exact H2_) | with_reducible exact H | (rw [hy930];exact H) | exact H
    have Ny930:=am hy930
    clear hy930
    by_cases c5 : 1 + (strOfNums y930).size≤9223372036854775807
    case neg =>
     rw [if_neg c5] at H
     exact absurd H (by simp)
    rw [if_pos c5] at H
    have c5b0:=eq_true c5
    have c5b1 : decide (1 + (strOfNums y930).size≤9223372036854775807) = true:=decide_eq_true c5
    try have c5b2 : (9223372036854775807 < 1 + (strOfNums y930).size) = False:=eq_false (Nat.not_lt.2 c5)
    obtain rfl:=Option.some.inj H
    go_wp2_with (first | ((refine gate_dst (N:=12) rfl ?_);refine Kd.R_lit (Kd.int .u8) _ 5 ?hg (N:=12) ?hd (xs:=([(wrap64 (48 - a0)) % 256] : List Int)) (inner:=[.int .u8 ((wrap64 (48 - a0)) % 256)]) (ok:=fun _=>True) (okp:=fun _=>True) ?hr ?hp (fun _ hk=>hk) trivial (Below.refl _ _) (Nat.le_refl _) (by simp) ?_;(case hd=>rfl);(case hg=>rfl);(case hr=>go_simp;try rfl);(case hp=>exact (Reps.one (show Kd.M (Kd.int .u8) _ _ _ ((wrap64 (48 - a0)) % 256) [.int .u8 ((wrap64 (48 - a0)) % 256)] from rfl) (Reps.none _ _)));intro v931 w6 ho7 hb hg_ hnew_;clear hg_ hnew_;(first | rw [← Ny930.out] at ho7 | (simp only [Int.reduceToNat] at ho7;rw [← Ny930.out] at ho7));have HO932:=am (Kd.R_lower ho7 (below_size (HB.out)));replace HB:=am (below_step (HB.out) hb);clear hb ho7;have hcv8:=own_string (P:=Tryz.prog) Tryz.underlying97 Tryz.underlying5 Tryz.underlying9 (Kd.own_of_R HO932.out)))
    go_ret
    exact ⟨by first | rfl | (simp [*]<;>rfl),HB.out⟩
   ·replace c4:=Bool.eq_false_iff.mpr c4
    subst c4
    replace H : (if a0 < 0 then ((q1_Decimal.f kj1 (wrap64 (Int.tdiv a0 10))).bind fun t933=>((some (([(wrap64 (48 - (Int.tmod a0 10))) % 256] : List Int) : List Int)).bind fun y934=>(if t933.size + (strOfNums y934).size≤9223372036854775807 then (some (t933 ++ (strOfNums y934))) else (none)))) else (if a0 < 10 then (some (strOfNums (([(wrap64 (48 + a0)) % 256] : List Int)))) else ((q1_Decimal.f kj1 (wrap64 (Int.tdiv a0 10))).bind fun t940=>((some (([(wrap64 (48 + (Int.tmod a0 10))) % 256] : List Int) : List Int)).bind fun y941=>(if t940.size + (strOfNums y941).size≤9223372036854775807 then (some (t940 ++ (strOfNums y941))) else (none)))))) = some r:=by rw [if_neg (show ¬ (false = true) by decide)] at H;exact H
    by_cases c9 : a0 < 0
    ·rw [if_pos c9] at H
     have c9b0 : decide (a0 < 0) = true:=decide_eq_true c9
     clear c9
     replace H:=obm H
     obtain ⟨t933,A100,H⟩:=H
     replace H : ((some (([(wrap64 (48 - (Int.tmod a0 10))) % 256] : List Int) : List Int)).bind fun y934=>(if t933.size + (strOfNums y934).size≤9223372036854775807 then (some (t933 ++ (strOfNums y934))) else (none))) = some r:=H
     have A10:=am A100
     clear A100
     obtain ⟨y934,hy934⟩ : ∃ y_ : List Int,y_ = (([(wrap64 (48 - (Int.tmod a0 10))) % 256] : List Int)):=⟨_,rfl⟩
     replace H : (if t933.size + (strOfNums y934).size≤9223372036854775807 then (some (t933 ++ (strOfNums y934))) else (none)) = some r:=by first | (rw [hy934];with_reducible exact H) | (have H2_:=(Option.bind_some _ _).symm.trans H;rw [hy934];with_reducible exact H2_) | (have H2_:=(Option.bind_some _ _).symm.trans H;with_reducible exact H2_) | with_reducible exact H | (rw [hy934];exact H) | exact H
     have Ny934:=am hy934
     clear hy934
     by_cases c11 : t933.size + (strOfNums y934).size≤9223372036854775807
     case neg =>
      rw [if_neg c11] at H
      exact absurd H (by simp)
     rw [if_pos c11] at H
     have c11b0:=eq_true c11
     have c11b1 : decide (t933.size + (strOfNums y934).size≤9223372036854775807) = true:=decide_eq_true c11
     try have c11b2 : (9223372036854775807 < t933.size + (strOfNums y934).size) = False:=eq_false (Nat.not_lt.2 c11)
     obtain rfl:=Option.some.inj H
     try go_wp2
     replace HB:=am (below_drew1 HB.out)
     refine start_ (n:=11) (S:=fun w'=>True) (ds:=[]) (ba 11 0) (by kernel_rfl) rfl rfl trivial (fun hHeld=>?_);refine with_tabW q1_Decimal.tab4 q1_Decimal.bits4 (fun HT_ HW_=>?_)
     generalize wc.drew = w12 at HB hHeld ⊢
     refine pure_ (i:=0) (N:=some 17) (v:=?_) (a':=?_) (ba 11 1) rfl rfl (any_of HT_.out (by kernel_rfl)) (fun _ _ _ h=>h) (Or.inl ⟨by rfl,?_⟩) ?_ ?_
     rotate_left
     ·intro w'
      go_simp
      with_reducible rfl
     rotate_left
     ·simp only [Act.put,NRM]
      rfl
     refine pure_ (i:=1) (N:=some 18) (v:=?_) (a':=?_) (ba 11 3) rfl rfl (any_of HT_.out (by kernel_rfl)) (fun _ _ _ h=>h) (Or.inl ⟨by rfl,?_⟩) ?_ ?_
     rotate_left
     ·intro w'
      go_simp
      with_reducible rfl
     rotate_left
     ·simp only [Act.put,NRM]
      rfl
     refine pure_ (i:=3) (N:=some 20) (v:=?_) (a':=?_) (ba 11 11) rfl rfl (any_of HT_.out (by kernel_rfl)) (fun _ _ _ h=>h) (Or.inl ⟨by rfl,?_⟩) ?_ ?_
     rotate_left
     ·intro w'
      go_simp
      with_reducible rfl
     rotate_left
     ·simp only [Act.put,NRM]
      rfl
     refine pure_ (i:=4) (N:=some 21) (v:=?_) (a':=?_) (ba 11 27) rfl rfl (any_of HT_.out (by kernel_rfl)) (fun _ _ _ h=>h) (Or.inl ⟨by rfl,?_⟩) ?_ ?_
     rotate_left
     ·intro w'
      go_simp
      with_reducible rfl
     rotate_left
     ·simp only [Act.put,NRM]
      rfl
     refine pure_ (i:=5) (N:=some 22) (v:=?_) (a':=?_) (ba 11 59) rfl rfl (any_of HT_.out (by kernel_rfl)) (fun _ _ _ h=>h) (Or.inl ⟨by rfl,?_⟩) ?_ ?_
     rotate_left
     ·intro w'
      go_simp
      with_reducible rfl
     rotate_left
     ·simp only [Act.put,NRM]
      rfl
     refine pure_ (i:=6) (N:=some 23) (v:=?_) (a':=?_) (ba 11 123) rfl rfl (any_of HT_.out (by kernel_rfl)) (fun _ _ _ h=>h) (Or.inl ⟨by rfl,?_⟩) ?_ ?_
     rotate_left
     ·intro w'
      go_simp
      with_reducible rfl
     rotate_left
     ·simp only [Act.put,NRM]
      rfl
     refine join_ (σ:=Value) 2 (ba 11 511) (fun s_=>[(19,.string t933),(24,s_),(25,.string (strOfNums y934))]) (fun s_ w'=>(Kd.R (Kd.int .u8) 5 w' w.heap.size (fun _=>True) s_ y934)∧(Below w.heap.size w w')) ?_ ?_
     rotate_left
     ·intro hCont
      refine two_ (i:=2) (j:=7) (Ni:=some 19) (Nj:=some 24) (ba 11 127) (ba 11 251) rfl rfl rfl rfl (two_of HT_.out (by kernel_rfl)) (by decide) (by decide) (fun K hK=>?_) (fun K hK=>?_)
      ·skip
       refine goes_ Tryz.func125 (by kernel_rfl) rfl #[.int .i64 (wrap64 (Int.tdiv a0 10))] (by rfl) rfl rfl (by (try simp only [List.map_toArray,List.map_cons,List.map_nil]);first | done | rfl | (simp only [List.length_drop,List.length_take];rfl)) ?_
       with_reducible refine (ih kj1 (by have:=HJ1.out;omega) (wrap64 (Int.tdiv a0 10)) t933 _ A10.out).mono ?_
       rintro e w13 ⟨rfl,hb⟩
       refine ⟨_,rfl,?_⟩
       replace HB:=am (below_step (HB.out) hb)
       (try clear hb)
       (try clear hb2)
       (try clear hk)
       (try clear hi)
       refine hK.out _ _ trivial (fun hHeld=>?_)
       clear hK K
       refine norm_ (a':=?_) ?_ ?_
       rotate_left
       ·show Act.put _ (some 19) _ = _
        simp only [Act.put,NRM]
        rfl
       refine one_ (i:=7) (N:=some 24) (ba 11 255) rfl rfl (one_of HT_.out (by kernel_rfl)) (by decide) (fun K hK=>?_)
       refine Kd.R_lit_step (Kd.int .u8) _ 5 ?hg (N:=24) ?hd (xs:=([(wrap64 (48 - (Int.tmod a0 10))) % 256] : List Int)) (inner:=[.int .u8 ((wrap64 (48 - (Int.tmod a0 10))) % 256)]) (ok:=fun _=>True) (okp:=fun _=>True) ?hr ?hp (fun _ hk=>hk) trivial (Below.refl _ _) (Nat.le_refl _) (by simp) ?_;(case hd=>rfl);(case hg=>rfl);(case hr=>go_simp;try rfl);(case hp=>exact (Reps.one (show Kd.M (Kd.int .u8) _ _ _ ((wrap64 (48 - (Int.tmod a0 10))) % 256) [.int .u8 ((wrap64 (48 - (Int.tmod a0 10))) % 256)] from rfl) (Reps.none _ _)))
       intro v935 w14 ho15 hb hg_ hnew_
       clear hg_ hnew_
       (first | rw [← Ny934.out] at ho15 | (simp only [Int.reduceToNat] at ho15;rw [← Ny934.out] at ho15))
       have HO936:=am (Kd.R_lower ho15 (below_size (HB.out)))
       replace HB:=am (below_step (HB.out) hb)
       clear hb ho15
       refine hK.out _ _ trivial (fun hHeld=>?_)
       clear hK K
       refine norm_ (a':=?_) ?_ ?_
       rotate_left
       ·show Act.put _ (some 24) _ = _
        simp only [Act.put,NRM]
        rfl
       refine one_ (i:=8) (N:=some 25) (ba 11 511) rfl rfl (one_of HT_.out (by kernel_rfl)) (by decide) (fun K hK=>?_)
       have hcv16:=own_string (P:=Tryz.prog) Tryz.underlying97 Tryz.underlying5 Tryz.underlying9 (Kd.own_of_R HO936.out)
       refine value_ (w1:=?_) (v:=?_) (by rfl) rfl ?_ ?_
       rotate_left 2
       ·go_simp
        constructor
        ·rfl
        ·rfl
       clear hcv16
       refine hK.out _ _ trivial (fun hHeld=>?_)
       clear hK K
       refine norm_ (a':=?_) ?_ ?_
       rotate_left
       ·show Act.put _ (some 25) _ = _
        simp only [Act.put,NRM]
        rfl
       exact norm_ (by simp only [putAll,Act.put,List.setIfInBounds_toArray,List.set_cons_zero,List.set_cons_succ]) (hCont (v935) _ ⟨HO936.out,(HB.out)⟩)
      ·skip
       refine Kd.R_lit_step (Kd.int .u8) _ 5 ?hg (N:=24) ?hd (xs:=([(wrap64 (48 - (Int.tmod a0 10))) % 256] : List Int)) (inner:=[.int .u8 ((wrap64 (48 - (Int.tmod a0 10))) % 256)]) (ok:=fun _=>True) (okp:=fun _=>True) ?hr ?hp (fun _ hk=>hk) trivial (Below.refl _ _) (Nat.le_refl _) (by simp) ?_;(case hd=>rfl);(case hg=>rfl);(case hr=>go_simp;try rfl);(case hp=>exact (Reps.one (show Kd.M (Kd.int .u8) _ _ _ ((wrap64 (48 - (Int.tmod a0 10))) % 256) [.int .u8 ((wrap64 (48 - (Int.tmod a0 10))) % 256)] from rfl) (Reps.none _ _)))
       intro v935 w13 ho14 hb hg_ hnew_
       clear hg_ hnew_
       (first | rw [← Ny934.out] at ho14 | (simp only [Int.reduceToNat] at ho14;rw [← Ny934.out] at ho14))
       have HO936:=am (Kd.R_lower ho14 (below_size (HB.out)))
       replace HB:=am (below_step (HB.out) hb)
       clear hb ho14
       refine hK.out _ _ trivial (fun hHeld=>?_)
       clear hK K
       refine norm_ (a':=?_) ?_ ?_
       rotate_left
       ·show Act.put _ (some 24) _ = _
        simp only [Act.put,NRM]
        rfl
       refine two_ (i:=2) (j:=8) (Ni:=some 19) (Nj:=some 25) (ba 11 255) (ba 11 507) rfl rfl rfl rfl (two_of HT_.out (by kernel_rfl)) (by decide) (by decide) (fun K hK=>?_) (fun K hK=>?_)
       ·skip
        refine goes_ Tryz.func125 (by kernel_rfl) rfl #[.int .i64 (wrap64 (Int.tdiv a0 10))] (by rfl) rfl rfl (by (try simp only [List.map_toArray,List.map_cons,List.map_nil]);first | done | rfl | (simp only [List.length_drop,List.length_take];rfl)) ?_
        with_reducible refine (ih kj1 (by have:=HJ1.out;omega) (wrap64 (Int.tdiv a0 10)) t933 _ A10.out).mono ?_
        rintro e w15 ⟨rfl,hb⟩
        refine ⟨_,rfl,?_⟩
        replace HO936:=am (Kd.R_below HO936.out hb)
        replace HB:=am (below_step (HB.out) hb)
        (try clear hb)
        (try clear hb2)
        (try clear hk)
        (try clear hi)
        refine hK.out _ _ trivial (fun hHeld=>?_)
        clear hK K
        refine norm_ (a':=?_) ?_ ?_
        rotate_left
        ·show Act.put _ (some 19) _ = _
         simp only [Act.put,NRM]
         rfl
        refine one_ (i:=8) (N:=some 25) (ba 11 511) rfl rfl (one_of HT_.out (by kernel_rfl)) (by decide) (fun K hK=>?_)
        have hcv16:=own_string (P:=Tryz.prog) Tryz.underlying97 Tryz.underlying5 Tryz.underlying9 (Kd.own_of_R HO936.out)
        refine value_ (w1:=?_) (v:=?_) (by rfl) rfl ?_ ?_
        rotate_left 2
        ·go_simp
         constructor
         ·rfl
         ·rfl
        clear hcv16
        refine hK.out _ _ trivial (fun hHeld=>?_)
        clear hK K
        refine norm_ (a':=?_) ?_ ?_
        rotate_left
        ·show Act.put _ (some 25) _ = _
         simp only [Act.put,NRM]
         rfl
        exact norm_ (by simp only [putAll,Act.put,List.setIfInBounds_toArray,List.set_cons_zero,List.set_cons_succ]) (hCont (v935) _ ⟨HO936.out,(HB.out)⟩)
       ·skip
        have hcv15:=own_string (P:=Tryz.prog) Tryz.underlying97 Tryz.underlying5 Tryz.underlying9 (Kd.own_of_R HO936.out)
        refine value_ (w1:=?_) (v:=?_) (by rfl) rfl ?_ ?_
        rotate_left 2
        ·go_simp
         constructor
         ·rfl
         ·rfl
        clear hcv15
        refine hK.out _ _ trivial (fun hHeld=>?_)
        clear hK K
        refine norm_ (a':=?_) ?_ ?_
        rotate_left
        ·show Act.put _ (some 25) _ = _
         simp only [Act.put,NRM]
         rfl
        refine one_ (i:=2) (N:=some 19) (ba 11 511) rfl rfl (one_of HT_.out (by kernel_rfl)) (by decide) (fun K hK=>?_)
        refine goes_ Tryz.func125 (by kernel_rfl) rfl #[.int .i64 (wrap64 (Int.tdiv a0 10))] (by rfl) rfl rfl (by (try simp only [List.map_toArray,List.map_cons,List.map_nil]);first | done | rfl | (simp only [List.length_drop,List.length_take];rfl)) ?_
        with_reducible refine (ih kj1 (by have:=HJ1.out;omega) (wrap64 (Int.tdiv a0 10)) t933 _ A10.out).mono ?_
        rintro e w16 ⟨rfl,hb⟩
        refine ⟨_,rfl,?_⟩
        replace HO936:=am (Kd.R_below HO936.out hb)
        replace HB:=am (below_step (HB.out) hb)
        (try clear hb)
        (try clear hb2)
        (try clear hk)
        (try clear hi)
        refine hK.out _ _ trivial (fun hHeld=>?_)
        clear hK K
        refine norm_ (a':=?_) ?_ ?_
        rotate_left
        ·show Act.put _ (some 19) _ = _
         simp only [Act.put,NRM]
         rfl
        exact norm_ (by simp only [putAll,Act.put,List.setIfInBounds_toArray,List.set_cons_zero,List.set_cons_succ]) (hCont (v935) _ ⟨HO936.out,(HB.out)⟩)
     rintro v935 w17 ⟨h0_,h1_⟩
     have n0_ : Aside0 (Kd.R (Kd.int .u8) 5 w17 w.heap.size (fun _=>True) v935 y934):=⟨h0_⟩
     have n1_ : Aside0 (Below w.heap.size w w17):=⟨h1_⟩
     clear HB
     clear h0_ h1_
     have HO936:=n0_
     have HB:=n1_
     clear n0_ n1_
     have hHeld:=trivial
     refine norm_ (a':=?_) ?_ ?_
     rotate_left
     ·simp only [putAll,Act.put,List.setIfInBounds_toArray,List.set_cons_zero,List.set_cons_succ]
      rfl
     refine pure_ (i:=9) (N:=some 26) (v:=?_) (a':=?_) (ba 11 1023) rfl rfl (any_of HT_.out (by kernel_rfl)) (fun _ _ _ h=>h) (Or.inl ⟨by rfl,?_⟩) ?_ ?_
     rotate_left
     ·intro w'
      go_simp
      with_reducible rfl
     rotate_left
     ·simp only [Act.put,NRM]
      rfl
     refine pure_ (i:=10) (N:=some 2) (v:=?_) (a':=?_) (ba 11 2047) rfl rfl (any_of HT_.out (by kernel_rfl)) (fun _ _ _ h=>h) (Or.inl ⟨by rfl,?_⟩) ?_ ?_
     rotate_left
     ·intro w'
      go_simp
      with_reducible rfl
     rotate_left
     ·simp only [Act.put,NRM]
      rfl
     refine done_ (done_of HT_.out (by kernel_rfl)) ?_
     try go_wp2
     go_ret
     exact ⟨by first | rfl | (simp [*]<;>rfl),HB.out⟩
    ·rw [if_neg c9] at H
     have c9b0 : decide (a0 < 0) = false:=decide_eq_false c9
     clear c9
     by_cases c18 : a0 < 10
     ·rw [if_pos c18] at H
      have c18b0 : decide (a0 < 10) = true:=decide_eq_true c18
      clear c18
      obtain ⟨y937,hy937⟩ : ∃ y_ : List Int,y_ = (([(wrap64 (48 + a0)) % 256] : List Int)):=⟨_,rfl⟩
      replace H : (some (strOfNums y937)) = some r:=by first | (rw [hy937];with_reducible exact H) | (have H2_:=(Option.bind_some _ _).symm.trans H;rw [hy937];with_reducible exact H2_) | (have H2_:=(Option.bind_some _ _).symm.trans H;with_reducible exact H2_) | with_reducible exact H | (rw [hy937];exact H) | exact H
      have Ny937:=am hy937
      clear hy937
      obtain rfl:=Option.some.inj H
      go_wp2_with (first | ((refine gate_dst (N:=32) rfl ?_);refine Kd.R_lit (Kd.int .u8) _ 5 ?hg (N:=32) ?hd (xs:=([(wrap64 (48 + a0)) % 256] : List Int)) (inner:=[.int .u8 ((wrap64 (48 + a0)) % 256)]) (ok:=fun _=>True) (okp:=fun _=>True) ?hr ?hp (fun _ hk=>hk) trivial (Below.refl _ _) (Nat.le_refl _) (by simp) ?_;(case hd=>rfl);(case hg=>rfl);(case hr=>go_simp;try rfl);(case hp=>exact (Reps.one (show Kd.M (Kd.int .u8) _ _ _ ((wrap64 (48 + a0)) % 256) [.int .u8 ((wrap64 (48 + a0)) % 256)] from rfl) (Reps.none _ _)));intro v938 w19 ho20 hb hg_ hnew_;clear hg_ hnew_;(first | rw [← Ny937.out] at ho20 | (simp only [Int.reduceToNat] at ho20;rw [← Ny937.out] at ho20));have HO939:=am (Kd.R_lower ho20 (below_size (HB.out)));replace HB:=am (below_step (HB.out) hb);clear hb ho20;have hcv21:=own_string (P:=Tryz.prog) Tryz.underlying97 Tryz.underlying5 Tryz.underlying9 (Kd.own_of_R HO939.out)))
      go_ret
      exact ⟨by first | rfl | (simp [*]<;>rfl),HB.out⟩
     ·rw [if_neg c18] at H
      have c18b0 : decide (a0 < 10) = false:=decide_eq_false c18
      clear c18
      replace H:=obm H
      obtain ⟨t940,A220,H⟩:=H
      replace H : ((some (([(wrap64 (48 + (Int.tmod a0 10))) % 256] : List Int) : List Int)).bind fun y941=>(if t940.size + (strOfNums y941).size≤9223372036854775807 then (some (t940 ++ (strOfNums y941))) else (none))) = some r:=H
      have A22:=am A220
      clear A220
      obtain ⟨y941,hy941⟩ : ∃ y_ : List Int,y_ = (([(wrap64 (48 + (Int.tmod a0 10))) % 256] : List Int)):=⟨_,rfl⟩
      replace H : (if t940.size + (strOfNums y941).size≤9223372036854775807 then (some (t940 ++ (strOfNums y941))) else (none)) = some r:=by first | (rw [hy941];with_reducible exact H) | (have H2_:=(Option.bind_some _ _).symm.trans H;rw [hy941];with_reducible exact H2_) | (have H2_:=(Option.bind_some _ _).symm.trans H;with_reducible exact H2_) | with_reducible exact H | (rw [hy941];exact H) | exact H
      have Ny941:=am hy941
      clear hy941
      by_cases c23 : t940.size + (strOfNums y941).size≤9223372036854775807
      case neg =>
       rw [if_neg c23] at H
       exact absurd H (by simp)
      rw [if_pos c23] at H
      have c23b0:=eq_true c23
      have c23b1 : decide (t940.size + (strOfNums y941).size≤9223372036854775807) = true:=decide_eq_true c23
      try have c23b2 : (9223372036854775807 < t940.size + (strOfNums y941).size) = False:=eq_false (Nat.not_lt.2 c23)
      obtain rfl:=Option.some.inj H
      try go_wp2
      replace HB:=am (below_drew1 HB.out)
      refine start_ (n:=11) (S:=fun w'=>True) (ds:=[]) (ba 11 0) (by kernel_rfl) rfl rfl trivial (fun hHeld=>?_);refine with_tabW q1_Decimal.tab7 q1_Decimal.bits7 (fun HT_ HW_=>?_)
      generalize wc.drew = w24 at HB hHeld ⊢
      refine pure_ (i:=0) (N:=some 34) (v:=?_) (a':=?_) (ba 11 1) rfl rfl (any_of HT_.out (by kernel_rfl)) (fun _ _ _ h=>h) (Or.inl ⟨by rfl,?_⟩) ?_ ?_
      rotate_left
      ·intro w'
       go_simp
       with_reducible rfl
      rotate_left
      ·simp only [Act.put,NRM]
       rfl
      refine pure_ (i:=1) (N:=some 35) (v:=?_) (a':=?_) (ba 11 3) rfl rfl (any_of HT_.out (by kernel_rfl)) (fun _ _ _ h=>h) (Or.inl ⟨by rfl,?_⟩) ?_ ?_
      rotate_left
      ·intro w'
       go_simp
       with_reducible rfl
      rotate_left
      ·simp only [Act.put,NRM]
       rfl
      refine pure_ (i:=3) (N:=some 37) (v:=?_) (a':=?_) (ba 11 11) rfl rfl (any_of HT_.out (by kernel_rfl)) (fun _ _ _ h=>h) (Or.inl ⟨by rfl,?_⟩) ?_ ?_
      rotate_left
      ·intro w'
       go_simp
       with_reducible rfl
      rotate_left
      ·simp only [Act.put,NRM]
       rfl
      refine pure_ (i:=4) (N:=some 38) (v:=?_) (a':=?_) (ba 11 27) rfl rfl (any_of HT_.out (by kernel_rfl)) (fun _ _ _ h=>h) (Or.inl ⟨by rfl,?_⟩) ?_ ?_
      rotate_left
      ·intro w'
       go_simp
       with_reducible rfl
      rotate_left
      ·simp only [Act.put,NRM]
       rfl
      refine pure_ (i:=5) (N:=some 39) (v:=?_) (a':=?_) (ba 11 59) rfl rfl (any_of HT_.out (by kernel_rfl)) (fun _ _ _ h=>h) (Or.inl ⟨by rfl,?_⟩) ?_ ?_
      rotate_left
      ·intro w'
       go_simp
       with_reducible rfl
      rotate_left
      ·simp only [Act.put,NRM]
       rfl
      refine pure_ (i:=6) (N:=some 40) (v:=?_) (a':=?_) (ba 11 123) rfl rfl (any_of HT_.out (by kernel_rfl)) (fun _ _ _ h=>h) (Or.inl ⟨by rfl,?_⟩) ?_ ?_
      rotate_left
      ·intro w'
       go_simp
       with_reducible rfl
      rotate_left
      ·simp only [Act.put,NRM]
       rfl
      refine join_ (σ:=Value) 2 (ba 11 511) (fun s_=>[(36,.string t940),(41,s_),(42,.string (strOfNums y941))]) (fun s_ w'=>(Kd.R (Kd.int .u8) 5 w' w.heap.size (fun _=>True) s_ y941)∧(Below w.heap.size w w')) ?_ ?_
      rotate_left
      ·intro hCont
       refine two_ (i:=2) (j:=7) (Ni:=some 36) (Nj:=some 41) (ba 11 127) (ba 11 251) rfl rfl rfl rfl (two_of HT_.out (by kernel_rfl)) (by decide) (by decide) (fun K hK=>?_) (fun K hK=>?_)
       ·skip
        refine goes_ Tryz.func125 (by kernel_rfl) rfl #[.int .i64 (wrap64 (Int.tdiv a0 10))] (by rfl) rfl rfl (by (try simp only [List.map_toArray,List.map_cons,List.map_nil]);first | done | rfl | (simp only [List.length_drop,List.length_take];rfl)) ?_
        with_reducible refine (ih kj1 (by have:=HJ1.out;omega) (wrap64 (Int.tdiv a0 10)) t940 _ A22.out).mono ?_
        rintro e w25 ⟨rfl,hb⟩
        refine ⟨_,rfl,?_⟩
        replace HB:=am (below_step (HB.out) hb)
        (try clear hb)
        (try clear hb2)
        (try clear hk)
        (try clear hi)
        refine hK.out _ _ trivial (fun hHeld=>?_)
        clear hK K
        refine norm_ (a':=?_) ?_ ?_
        rotate_left
        ·show Act.put _ (some 36) _ = _
         simp only [Act.put,NRM]
         rfl
        refine one_ (i:=7) (N:=some 41) (ba 11 255) rfl rfl (one_of HT_.out (by kernel_rfl)) (by decide) (fun K hK=>?_)
        refine Kd.R_lit_step (Kd.int .u8) _ 5 ?hg (N:=41) ?hd (xs:=([(wrap64 (48 + (Int.tmod a0 10))) % 256] : List Int)) (inner:=[.int .u8 ((wrap64 (48 + (Int.tmod a0 10))) % 256)]) (ok:=fun _=>True) (okp:=fun _=>True) ?hr ?hp (fun _ hk=>hk) trivial (Below.refl _ _) (Nat.le_refl _) (by simp) ?_;(case hd=>rfl);(case hg=>rfl);(case hr=>go_simp;try rfl);(case hp=>exact (Reps.one (show Kd.M (Kd.int .u8) _ _ _ ((wrap64 (48 + (Int.tmod a0 10))) % 256) [.int .u8 ((wrap64 (48 + (Int.tmod a0 10))) % 256)] from rfl) (Reps.none _ _)))
        intro v942 w26 ho27 hb hg_ hnew_
        clear hg_ hnew_
        (first | rw [← Ny941.out] at ho27 | (simp only [Int.reduceToNat] at ho27;rw [← Ny941.out] at ho27))
        have HO943:=am (Kd.R_lower ho27 (below_size (HB.out)))
        replace HB:=am (below_step (HB.out) hb)
        clear hb ho27
        refine hK.out _ _ trivial (fun hHeld=>?_)
        clear hK K
        refine norm_ (a':=?_) ?_ ?_
        rotate_left
        ·show Act.put _ (some 41) _ = _
         simp only [Act.put,NRM]
         rfl
        refine one_ (i:=8) (N:=some 42) (ba 11 511) rfl rfl (one_of HT_.out (by kernel_rfl)) (by decide) (fun K hK=>?_)
        have hcv28:=own_string (P:=Tryz.prog) Tryz.underlying97 Tryz.underlying5 Tryz.underlying9 (Kd.own_of_R HO943.out)
        refine value_ (w1:=?_) (v:=?_) (by rfl) rfl ?_ ?_
        rotate_left 2
        ·go_simp
         constructor
         ·rfl
         ·rfl
        clear hcv28
        refine hK.out _ _ trivial (fun hHeld=>?_)
        clear hK K
        refine norm_ (a':=?_) ?_ ?_
        rotate_left
        ·show Act.put _ (some 42) _ = _
         simp only [Act.put,NRM]
         rfl
        exact norm_ (by simp only [putAll,Act.put,List.setIfInBounds_toArray,List.set_cons_zero,List.set_cons_succ]) (hCont (v942) _ ⟨HO943.out,(HB.out)⟩)
       ·skip
        refine Kd.R_lit_step (Kd.int .u8) _ 5 ?hg (N:=41) ?hd (xs:=([(wrap64 (48 + (Int.tmod a0 10))) % 256] : List Int)) (inner:=[.int .u8 ((wrap64 (48 + (Int.tmod a0 10))) % 256)]) (ok:=fun _=>True) (okp:=fun _=>True) ?hr ?hp (fun _ hk=>hk) trivial (Below.refl _ _) (Nat.le_refl _) (by simp) ?_;(case hd=>rfl);(case hg=>rfl);(case hr=>go_simp;try rfl);(case hp=>exact (Reps.one (show Kd.M (Kd.int .u8) _ _ _ ((wrap64 (48 + (Int.tmod a0 10))) % 256) [.int .u8 ((wrap64 (48 + (Int.tmod a0 10))) % 256)] from rfl) (Reps.none _ _)))
        intro v942 w25 ho26 hb hg_ hnew_
        clear hg_ hnew_
        (first | rw [← Ny941.out] at ho26 | (simp only [Int.reduceToNat] at ho26;rw [← Ny941.out] at ho26))
        have HO943:=am (Kd.R_lower ho26 (below_size (HB.out)))
        replace HB:=am (below_step (HB.out) hb)
        clear hb ho26
        refine hK.out _ _ trivial (fun hHeld=>?_)
        clear hK K
        refine norm_ (a':=?_) ?_ ?_
        rotate_left
        ·show Act.put _ (some 41) _ = _
         simp only [Act.put,NRM]
         rfl
        refine two_ (i:=2) (j:=8) (Ni:=some 36) (Nj:=some 42) (ba 11 255) (ba 11 507) rfl rfl rfl rfl (two_of HT_.out (by kernel_rfl)) (by decide) (by decide) (fun K hK=>?_) (fun K hK=>?_)
        ·skip
         refine goes_ Tryz.func125 (by kernel_rfl) rfl #[.int .i64 (wrap64 (Int.tdiv a0 10))] (by rfl) rfl rfl (by (try simp only [List.map_toArray,List.map_cons,List.map_nil]);first | done | rfl | (simp only [List.length_drop,List.length_take];rfl)) ?_
         with_reducible refine (ih kj1 (by have:=HJ1.out;omega) (wrap64 (Int.tdiv a0 10)) t940 _ A22.out).mono ?_
         rintro e w27 ⟨rfl,hb⟩
         refine ⟨_,rfl,?_⟩
         replace HO943:=am (Kd.R_below HO943.out hb)
         replace HB:=am (below_step (HB.out) hb)
         (try clear hb)
         (try clear hb2)
         (try clear hk)
         (try clear hi)
         refine hK.out _ _ trivial (fun hHeld=>?_)
         clear hK K
         refine norm_ (a':=?_) ?_ ?_
         rotate_left
         ·show Act.put _ (some 36) _ = _
          simp only [Act.put,NRM]
          rfl
         refine one_ (i:=8) (N:=some 42) (ba 11 511) rfl rfl (one_of HT_.out (by kernel_rfl)) (by decide) (fun K hK=>?_)
         have hcv28:=own_string (P:=Tryz.prog) Tryz.underlying97 Tryz.underlying5 Tryz.underlying9 (Kd.own_of_R HO943.out)
         refine value_ (w1:=?_) (v:=?_) (by rfl) rfl ?_ ?_
         rotate_left 2
         ·go_simp
          constructor
          ·rfl
          ·rfl
         clear hcv28
         refine hK.out _ _ trivial (fun hHeld=>?_)
         clear hK K
         refine norm_ (a':=?_) ?_ ?_
         rotate_left
         ·show Act.put _ (some 42) _ = _
          simp only [Act.put,NRM]
          rfl
         exact norm_ (by simp only [putAll,Act.put,List.setIfInBounds_toArray,List.set_cons_zero,List.set_cons_succ]) (hCont (v942) _ ⟨HO943.out,(HB.out)⟩)
        ·skip
         have hcv27:=own_string (P:=Tryz.prog) Tryz.underlying97 Tryz.underlying5 Tryz.underlying9 (Kd.own_of_R HO943.out)
         refine value_ (w1:=?_) (v:=?_) (by rfl) rfl ?_ ?_
         rotate_left 2
         ·go_simp
          constructor
          ·rfl
          ·rfl
         clear hcv27
         refine hK.out _ _ trivial (fun hHeld=>?_)
         clear hK K
         refine norm_ (a':=?_) ?_ ?_
         rotate_left
         ·show Act.put _ (some 42) _ = _
          simp only [Act.put,NRM]
          rfl
         refine one_ (i:=2) (N:=some 36) (ba 11 511) rfl rfl (one_of HT_.out (by kernel_rfl)) (by decide) (fun K hK=>?_)
         refine goes_ Tryz.func125 (by kernel_rfl) rfl #[.int .i64 (wrap64 (Int.tdiv a0 10))] (by rfl) rfl rfl (by (try simp only [List.map_toArray,List.map_cons,List.map_nil]);first | done | rfl | (simp only [List.length_drop,List.length_take];rfl)) ?_
         with_reducible refine (ih kj1 (by have:=HJ1.out;omega) (wrap64 (Int.tdiv a0 10)) t940 _ A22.out).mono ?_
         rintro e w28 ⟨rfl,hb⟩
         refine ⟨_,rfl,?_⟩
         replace HO943:=am (Kd.R_below HO943.out hb)
         replace HB:=am (below_step (HB.out) hb)
         (try clear hb)
         (try clear hb2)
         (try clear hk)
         (try clear hi)
         refine hK.out _ _ trivial (fun hHeld=>?_)
         clear hK K
         refine norm_ (a':=?_) ?_ ?_
         rotate_left
         ·show Act.put _ (some 36) _ = _
          simp only [Act.put,NRM]
          rfl
         exact norm_ (by simp only [putAll,Act.put,List.setIfInBounds_toArray,List.set_cons_zero,List.set_cons_succ]) (hCont (v942) _ ⟨HO943.out,(HB.out)⟩)
      rintro v942 w29 ⟨h0_,h1_⟩
      have n0_ : Aside0 (Kd.R (Kd.int .u8) 5 w29 w.heap.size (fun _=>True) v942 y941):=⟨h0_⟩
      have n1_ : Aside0 (Below w.heap.size w w29):=⟨h1_⟩
      clear HB
      clear h0_ h1_
      have HO943:=n0_
      have HB:=n1_
      clear n0_ n1_
      have hHeld:=trivial
      refine norm_ (a':=?_) ?_ ?_
      rotate_left
      ·simp only [putAll,Act.put,List.setIfInBounds_toArray,List.set_cons_zero,List.set_cons_succ]
       rfl
      refine pure_ (i:=9) (N:=some 43) (v:=?_) (a':=?_) (ba 11 1023) rfl rfl (any_of HT_.out (by kernel_rfl)) (fun _ _ _ h=>h) (Or.inl ⟨by rfl,?_⟩) ?_ ?_
      rotate_left
      ·intro w'
       go_simp
       with_reducible rfl
      rotate_left
      ·simp only [Act.put,NRM]
       rfl
      refine pure_ (i:=10) (N:=some 2) (v:=?_) (a':=?_) (ba 11 2047) rfl rfl (any_of HT_.out (by kernel_rfl)) (fun _ _ _ h=>h) (Or.inl ⟨by rfl,?_⟩) ?_ ?_
      rotate_left
      ·intro w'
       go_simp
       with_reducible rfl
      rotate_left
      ·simp only [Act.put,NRM]
       rfl
      refine done_ (done_of HT_.out (by kernel_rfl)) ?_
      try go_wp2
      go_ret
      exact ⟨by first | rfl | (simp [*]<;>rfl),HB.out⟩
def q1_Row.l0 : Nat→ByteArray→List Int→Int→Option (ByteArray)
 | 0,_,_,_=>none
 | k + 1,x0,x1,x5=>if x5 < (x1.length : Int) then (if x0.size + 1≤9223372036854775807 then (if 0≤x5 then ((q1_Decimal.f k (rd x1 x5)).bind fun t945=>(if (x0 ++ (⟨#[32]⟩ : ByteArray)).size + t945.size≤9223372036854775807 then (q1_Row.l0 k ((x0 ++ (⟨#[32]⟩ : ByteArray)) ++ t945) x1 (wrap64 (x5 + 1))) else (none))) else (none)) else (none)) else (some x0)
def q1_Row.f (k : Nat) (a0 : ByteArray) (l1 : List Int) : Option (ByteArray):=q1_Row.l0 k a0 l1 0
theorem q1_Row.calls (k : Nat) (a0 : ByteArray) (A1 : Option Addr) (c1 : Nat) (l1 : List Int) (r : ByteArray) (w : World) (hr1 : Kd.C (Kd.int .i64) w A1 l1.length l1) (hc1 : l1.length≤c1) (h : q1_Row.f k a0 l1 = some r) :
 Calls Tryz.prog 93 #[.string a0,.slice A1 l1.length c1] w fun e w'=>e = .returned (.string r)∧Below w.heap.size w w':=by
 have HR1:=am hr1
 have HC1:=am hc1
 clear hr1 hc1
 have HB:=am (Below.refl w.heap.size w)
 have H : (q1_Row.l0 k a0 l1 0) = some r:=h
 clear h
 replace H':=am H
 go_enter Tryz.func93,Tryz.ntmps93
 go_wp2
 go_loopg [0,5] k (fun kq v0 v5 w'=>∃ (x0_1 : ByteArray) (x5_1 : Int),v0 = .string x0_1∧v5 = .int .i64 x5_1∧Aside0 (q1_Row.l0 kq x0_1 l1 x5_1 = some r)∧Aside0 (kq≤k)∧Aside0 (Below w.heap.size w w'))
 case atStart=>exact ⟨(a0),(0),(by first | rfl | (simp;done) | (simp [*];done)),(by first | rfl | (simp;done) | (simp [*];done)),H',⟨Nat.le_refl _⟩,⟨HB.out⟩⟩
 case round =>
  clear H'
  obtain ⟨x0_1,x5_1,rfl,rfl,HA,HK1,HB⟩:=hrel
  cases gk with
  | zero=>exact absurd HA.out (by simp [q1_Row.l0])
  | succ k1 =>
   have H:=HA.out
   clear HA
   simp only [q1_Row.l0] at H
   by_cases c3 : x5_1 < (l1.length : Int)
   case neg =>
    rw [if_neg c3] at H
    have c3b0 : decide (x5_1 < (l1.length : Int)) = false:=decide_eq_false c3
    clear c3
    obtain rfl:=Option.some.inj H
    go_wp2
    go_ret
    exact ⟨by first | rfl | (simp [*]<;>rfl),HB.out⟩
   rw [if_pos c3] at H
   have c3b0 : decide (x5_1 < (l1.length : Int)) = true:=decide_eq_true c3
   clear c3
   by_cases c4 : x0_1.size + 1≤9223372036854775807
   case neg =>
    rw [if_neg c4] at H
    exact absurd H (by simp)
   rw [if_pos c4] at H
   have c4b0:=eq_true c4
   have c4b1 : decide (x0_1.size + 1≤9223372036854775807) = true:=decide_eq_true c4
   try have c4b2 : (9223372036854775807 < x0_1.size + 1) = False:=eq_false (Nat.not_lt.2 c4)
   by_cases c5 : 0≤x5_1
   case neg =>
    rw [if_neg c5] at H
    exact absurd H (by simp)
   rw [if_pos c5] at H
   have c5b0 : decide (0≤x5_1) = true:=decide_eq_true c5
   clear c5
   replace H:=obm H
   obtain ⟨t945,A60,H⟩:=H
   replace H : (if (x0_1 ++ (⟨#[32]⟩ : ByteArray)).size + t945.size≤9223372036854775807 then (q1_Row.l0 k1 ((x0_1 ++ (⟨#[32]⟩ : ByteArray)) ++ t945) l1 (wrap64 (x5_1 + 1))) else (none)) = some r:=H
   have A6:=am A60
   clear A60
   by_cases c7 : (x0_1 ++ (⟨#[32]⟩ : ByteArray)).size + t945.size≤9223372036854775807
   case neg =>
    rw [if_neg c7] at H
    exact absurd H (by simp)
   rw [if_pos c7] at H
   have c7b0:=eq_true c7
   have c7b1 : decide ((x0_1 ++ (⟨#[32]⟩ : ByteArray)).size + t945.size≤9223372036854775807) = true:=decide_eq_true c7
   try have c7b2 : (9223372036854775807 < (x0_1 ++ (⟨#[32]⟩ : ByteArray)).size + t945.size) = False:=eq_false (Nat.not_lt.2 c7)
   try (have c7s:=c7;simp only [ByteArray.size_append,show (⟨#[32]⟩ : ByteArray).size = 1 from rfl] at c7s;replace c7s:=eq_false (Nat.not_lt.2 c7s))
   replace H':=am H
   have p944 : 0≤(x5_1 : Int):=of_decide_eq_true (by assumption)
   have q944 : x5_1 < (l1.length : Int):=of_decide_eq_true (by assumption)
   obtain ⟨ad944,e944,hx944_0⟩:=Kd.at_int HR1.out x5_1 p944 q944
   cases e944
   replace hx944_0:=(HB.out.cell (wbl hx944_0)).trans hx944_0
   replace p944:=eq_true p944
   replace q944:=eq_true q944
   go_wp2_with (first | ((with_reducible refine gate_callee (f:=125) rfl ?_);refine goesL_ (some 18) rfl rfl Tryz.func125 (by kernel_rfl) rfl #[.int .i64 (rd l1 x5_1)] rfl (by (try simp only [List.map_toArray,List.map_cons,List.map_nil]);first | done | rfl | (simp only [List.length_drop,List.length_take];rfl)) ?_;(with_reducible refine (q1_Decimal.calls k1 (rd l1 x5_1) t945 _ A6.out).mono ?_);rintro e w8 ⟨rfl,hb⟩;refine ⟨_,rfl,?_⟩;replace HB:=am (below_step (HB.out) hb);(try clear hb);(try clear hb2);(try clear hk);(try clear hi)))
   go_roundg k1
   case measure=>have:=HK1.out;omega
   case rel=>exact ⟨((x0_1 ++ (⟨#[32]⟩ : ByteArray)) ++ t945),(wrap64 (x5_1 + 1)),(by first | rfl | (simp;done) | (simp [*];done)),(by first | rfl | (simp;done) | (simp [*];done)),H',⟨by have:=HK1.out;omega⟩,⟨HB.out⟩⟩
mutual
def q1_Sealed.l0 : Nat→List ByteArray→Int→ByteArray→Int→Int→Option (ByteArray)
 | 0,_,_,_,_,_=>none
 | k + 1,x0,x1,x5,x6,x7=>if x7 < (x0.length : Int) then (q1_Sealed.l1 k x0 x1 x5 x6 x7 0) else (if x1 = 0 then (none) else (if x5.size + 4≤9223372036854775807 then ((q1_Decimal.f k (wrap64 (Int.tdiv (Int.tmod x6 x1) 100))).bind fun t946=>(if (x5 ++ (⟨#[101,110,100,32]⟩ : ByteArray)).size + t946.size≤9223372036854775807 then ((q1_Decimal.f k (Int.tmod (wrap64 (Int.tdiv (Int.tmod x6 x1) 10)) 10)).bind fun t947=>(if ((x5 ++ (⟨#[101,110,100,32]⟩ : ByteArray)) ++ t946).size + t947.size≤9223372036854775807 then ((q1_Decimal.f k (Int.tmod (Int.tmod x6 x1) 10)).bind fun t948=>(if (((x5 ++ (⟨#[101,110,100,32]⟩ : ByteArray)) ++ t946) ++ t947).size + t948.size≤9223372036854775807 then (if ((((x5 ++ (⟨#[101,110,100,32]⟩ : ByteArray)) ++ t946) ++ t947) ++ t948).size + 1≤9223372036854775807 then (some (((((x5 ++ (⟨#[101,110,100,32]⟩ : ByteArray)) ++ t946) ++ t947) ++ t948) ++ (⟨#[10]⟩ : ByteArray))) else (none)) else (none))) else (none))) else (none))) else (none)))
def q1_Sealed.l1 : Nat→List ByteArray→Int→ByteArray→Int→Int→Int→Option (ByteArray)
 | 0,_,_,_,_,_,_=>none
 | k + 1,x0,x1,x5,x6,x7,x8=>if 0≤x7 then (if x7 < (x0.length : Int) then (if x8 < ((rdOf ByteArray.empty x0 x7).size : Int) then (if 0≤x8 then (q1_Sealed.l1 k x0 x1 x5 (wrap64 (x6 + (wrap64 ((wrap64 ((wrap64 (bt (rdOf ByteArray.empty x0 x7) x8)) * (wrap64 (x8 + 1)))) * (wrap64 (x7 + 1)))))) x7 (wrap64 (x8 + 1))) else (none)) else (if x5.size + (rdOf ByteArray.empty x0 x7).size≤9223372036854775807 then (if (x5 ++ (rdOf ByteArray.empty x0 x7)).size + 1≤9223372036854775807 then (q1_Sealed.l0 k x0 x1 ((x5 ++ (rdOf ByteArray.empty x0 x7)) ++ (⟨#[10]⟩ : ByteArray)) x6 (wrap64 (x7 + 1))) else (none)) else (none))) else (none)) else (none)
end
def q1_Sealed.f (k : Nat) (l0 : List ByteArray) (a1 : Int) : Option (ByteArray):=q1_Sealed.l0 k l0 a1 (⟨#[]⟩ : ByteArray) 0 0
theorem q1_Sealed.calls (k : Nat) (A0 : Option Addr) (c0 : Nat) (l0 : List ByteArray) (a1 : Int) (r : ByteArray) (w : World) (hr0 : Kd.C Kd.string w A0 l0.length l0) (hc0 : l0.length≤c0) (h : q1_Sealed.f k l0 a1 = some r) :
 Calls Tryz.prog 94 #[.slice A0 l0.length c0,.int .i64 a1] w fun e w'=>e = .returned (.string r)∧Below w.heap.size w w':=by
 have HR0:=am hr0
 have HC0:=am hc0
 clear hr0 hc0
 have HB:=am (Below.refl w.heap.size w)
 have H : (q1_Sealed.l0 k l0 a1 (⟨#[]⟩ : ByteArray) 0 0) = some r:=h
 clear h
 replace H':=am H
 go_enter Tryz.func94,Tryz.ntmps94
 go_wp2
 go_loopg [5,6,7] k (fun kq v5 v6 v7 w'=>∃ (x5_1 : ByteArray) (x6_1 : Int) (x7_1 : Int),v5 = .string x5_1∧v6 = .int .i64 x6_1∧v7 = .int .i64 x7_1∧Aside0 (q1_Sealed.l0 kq l0 a1 x5_1 x6_1 x7_1 = some r)∧Aside0 (kq≤k)∧Aside0 (Below w.heap.size w w'))
 case atStart=>exact ⟨((⟨#[]⟩ : ByteArray)),(0),(0),(by first | rfl | (simp;done) | (simp [*];done)),(by first | rfl | (simp;done) | (simp [*];done)),(by first | rfl | (simp;done) | (simp [*];done)),H',⟨Nat.le_refl _⟩,⟨HB.out⟩⟩
 case round =>
  clear H'
  obtain ⟨x5_1,x6_1,x7_1,rfl,rfl,rfl,HA,HK1,HB⟩:=hrel
  cases gk with
  | zero=>exact absurd HA.out (by simp [q1_Sealed.l0])
  | succ k1 =>
   have H:=HA.out
   clear HA
   simp only [q1_Sealed.l0] at H
   by_cases c3 : x7_1 < (l0.length : Int)
   case neg =>
    rw [if_neg c3] at H
    have c3b0 : decide (x7_1 < (l0.length : Int)) = false:=decide_eq_false c3
    clear c3
    by_cases c11 : a1 = 0
    ·rw [if_pos c11] at H
     exact absurd H (by simp)
    ·rw [if_neg c11] at H
     have c11b0 : (a1 == 0) = false:=beq_eq_false_iff_ne.mpr c11
     have c11b1 : (a1 != 0) = true:=bne_iff_ne.mpr c11
     by_cases c12 : x5_1.size + 4≤9223372036854775807
     case neg =>
      rw [if_neg c12] at H
      exact absurd H (by simp)
     rw [if_pos c12] at H
     have c12b0:=eq_true c12
     have c12b1 : decide (x5_1.size + 4≤9223372036854775807) = true:=decide_eq_true c12
     try have c12b2 : (9223372036854775807 < x5_1.size + 4) = False:=eq_false (Nat.not_lt.2 c12)
     replace H:=obm H
     obtain ⟨t946,A130,H⟩:=H
     replace H : (if (x5_1 ++ (⟨#[101,110,100,32]⟩ : ByteArray)).size + t946.size≤9223372036854775807 then ((q1_Decimal.f k1 (Int.tmod (wrap64 (Int.tdiv (Int.tmod x6_1 a1) 10)) 10)).bind fun t947=>(if ((x5_1 ++ (⟨#[101,110,100,32]⟩ : ByteArray)) ++ t946).size + t947.size≤9223372036854775807 then ((q1_Decimal.f k1 (Int.tmod (Int.tmod x6_1 a1) 10)).bind fun t948=>(if (((x5_1 ++ (⟨#[101,110,100,32]⟩ : ByteArray)) ++ t946) ++ t947).size + t948.size≤9223372036854775807 then (if ((((x5_1 ++ (⟨#[101,110,100,32]⟩ : ByteArray)) ++ t946) ++ t947) ++ t948).size + 1≤9223372036854775807 then (some (((((x5_1 ++ (⟨#[101,110,100,32]⟩ : ByteArray)) ++ t946) ++ t947) ++ t948) ++ (⟨#[10]⟩ : ByteArray))) else (none)) else (none))) else (none))) else (none)) = some r:=H
     have A13:=am A130
     clear A130
     by_cases c14 : (x5_1 ++ (⟨#[101,110,100,32]⟩ : ByteArray)).size + t946.size≤9223372036854775807
     case neg =>
      rw [if_neg c14] at H
      exact absurd H (by simp)
     rw [if_pos c14] at H
     have c14b0:=eq_true c14
     have c14b1 : decide ((x5_1 ++ (⟨#[101,110,100,32]⟩ : ByteArray)).size + t946.size≤9223372036854775807) = true:=decide_eq_true c14
     try have c14b2 : (9223372036854775807 < (x5_1 ++ (⟨#[101,110,100,32]⟩ : ByteArray)).size + t946.size) = False:=eq_false (Nat.not_lt.2 c14)
     try (have c14s:=c14;simp only [ByteArray.size_append,show (⟨#[101,110,100,32]⟩ : ByteArray).size = 4 from rfl] at c14s;replace c14s:=eq_false (Nat.not_lt.2 c14s))
     replace H:=obm H
     obtain ⟨t947,A150,H⟩:=H
     replace H : (if ((x5_1 ++ (⟨#[101,110,100,32]⟩ : ByteArray)) ++ t946).size + t947.size≤9223372036854775807 then ((q1_Decimal.f k1 (Int.tmod (Int.tmod x6_1 a1) 10)).bind fun t948=>(if (((x5_1 ++ (⟨#[101,110,100,32]⟩ : ByteArray)) ++ t946) ++ t947).size + t948.size≤9223372036854775807 then (if ((((x5_1 ++ (⟨#[101,110,100,32]⟩ : ByteArray)) ++ t946) ++ t947) ++ t948).size + 1≤9223372036854775807 then (some (((((x5_1 ++ (⟨#[101,110,100,32]⟩ : ByteArray)) ++ t946) ++ t947) ++ t948) ++ (⟨#[10]⟩ : ByteArray))) else (none)) else (none))) else (none)) = some r:=H
     have A15:=am A150
     clear A150
     by_cases c16 : ((x5_1 ++ (⟨#[101,110,100,32]⟩ : ByteArray)) ++ t946).size + t947.size≤9223372036854775807
     case neg =>
      rw [if_neg c16] at H
      exact absurd H (by simp)
     rw [if_pos c16] at H
     have c16b0:=eq_true c16
     have c16b1 : decide (((x5_1 ++ (⟨#[101,110,100,32]⟩ : ByteArray)) ++ t946).size + t947.size≤9223372036854775807) = true:=decide_eq_true c16
     try have c16b2 : (9223372036854775807 < ((x5_1 ++ (⟨#[101,110,100,32]⟩ : ByteArray)) ++ t946).size + t947.size) = False:=eq_false (Nat.not_lt.2 c16)
     try (have c16s:=c16;simp only [ByteArray.size_append,show (⟨#[101,110,100,32]⟩ : ByteArray).size = 4 from rfl] at c16s;replace c16s:=eq_false (Nat.not_lt.2 c16s))
     replace H:=obm H
     obtain ⟨t948,A170,H⟩:=H
     replace H : (if (((x5_1 ++ (⟨#[101,110,100,32]⟩ : ByteArray)) ++ t946) ++ t947).size + t948.size≤9223372036854775807 then (if ((((x5_1 ++ (⟨#[101,110,100,32]⟩ : ByteArray)) ++ t946) ++ t947) ++ t948).size + 1≤9223372036854775807 then (some (((((x5_1 ++ (⟨#[101,110,100,32]⟩ : ByteArray)) ++ t946) ++ t947) ++ t948) ++ (⟨#[10]⟩ : ByteArray))) else (none)) else (none)) = some r:=H
     have A17:=am A170
     clear A170
     by_cases c18 : (((x5_1 ++ (⟨#[101,110,100,32]⟩ : ByteArray)) ++ t946) ++ t947).size + t948.size≤9223372036854775807
     case neg =>
      rw [if_neg c18] at H
      exact absurd H (by simp)
     rw [if_pos c18] at H
     have c18b0:=eq_true c18
     have c18b1 : decide ((((x5_1 ++ (⟨#[101,110,100,32]⟩ : ByteArray)) ++ t946) ++ t947).size + t948.size≤9223372036854775807) = true:=decide_eq_true c18
     try have c18b2 : (9223372036854775807 < (((x5_1 ++ (⟨#[101,110,100,32]⟩ : ByteArray)) ++ t946) ++ t947).size + t948.size) = False:=eq_false (Nat.not_lt.2 c18)
     try (have c18s:=c18;simp only [ByteArray.size_append,show (⟨#[101,110,100,32]⟩ : ByteArray).size = 4 from rfl] at c18s;replace c18s:=eq_false (Nat.not_lt.2 c18s))
     by_cases c19 : ((((x5_1 ++ (⟨#[101,110,100,32]⟩ : ByteArray)) ++ t946) ++ t947) ++ t948).size + 1≤9223372036854775807
     case neg =>
      rw [if_neg c19] at H
      exact absurd H (by simp)
     rw [if_pos c19] at H
     have c19b0:=eq_true c19
     have c19b1 : decide (((((x5_1 ++ (⟨#[101,110,100,32]⟩ : ByteArray)) ++ t946) ++ t947) ++ t948).size + 1≤9223372036854775807) = true:=decide_eq_true c19
     try have c19b2 : (9223372036854775807 < ((((x5_1 ++ (⟨#[101,110,100,32]⟩ : ByteArray)) ++ t946) ++ t947) ++ t948).size + 1) = False:=eq_false (Nat.not_lt.2 c19)
     try (have c19s:=c19;simp only [ByteArray.size_append,show (⟨#[101,110,100,32]⟩ : ByteArray).size = 4 from rfl] at c19s;replace c19s:=eq_false (Nat.not_lt.2 c19s))
     obtain rfl:=Option.some.inj H
     go_wp2_with (first | ((with_reducible refine gate_callee (f:=125) rfl ?_);refine goesL_ (some 53) rfl rfl Tryz.func125 (by kernel_rfl) rfl #[.int .i64 (wrap64 (Int.tdiv (Int.tmod x6_1 a1) 100))] rfl (by (try simp only [List.map_toArray,List.map_cons,List.map_nil]);first | done | rfl | (simp only [List.length_drop,List.length_take];rfl)) ?_;(with_reducible refine (q1_Decimal.calls k1 (wrap64 (Int.tdiv (Int.tmod x6_1 a1) 100)) t946 _ A13.out).mono ?_);rintro e w20 ⟨rfl,hb⟩;refine ⟨_,rfl,?_⟩;replace HB:=am (below_step (HB.out) hb);(try clear hb);(try clear hb2);(try clear hk);(try clear hi)) | ((with_reducible refine gate_callee (f:=125) rfl ?_);refine goesL_ (some 58) rfl rfl Tryz.func125 (by kernel_rfl) rfl #[.int .i64 (Int.tmod (wrap64 (Int.tdiv (Int.tmod x6_1 a1) 10)) 10)] rfl (by (try simp only [List.map_toArray,List.map_cons,List.map_nil]);first | done | rfl | (simp only [List.length_drop,List.length_take];rfl)) ?_;(with_reducible refine (q1_Decimal.calls k1 (Int.tmod (wrap64 (Int.tdiv (Int.tmod x6_1 a1) 10)) 10) t947 _ A15.out).mono ?_);rintro e w21 ⟨rfl,hb⟩;refine ⟨_,rfl,?_⟩;replace HB:=am (below_step (HB.out) hb);(try clear hb);(try clear hb2);(try clear hk);(try clear hi)) | ((with_reducible refine gate_callee (f:=125) rfl ?_);refine goesL_ (some 62) rfl rfl Tryz.func125 (by kernel_rfl) rfl #[.int .i64 (Int.tmod (Int.tmod x6_1 a1) 10)] rfl (by (try simp only [List.map_toArray,List.map_cons,List.map_nil]);first | done | rfl | (simp only [List.length_drop,List.length_take];rfl)) ?_;(with_reducible refine (q1_Decimal.calls k1 (Int.tmod (Int.tmod x6_1 a1) 10) t948 _ A17.out).mono ?_);rintro e w22 ⟨rfl,hb⟩;refine ⟨_,rfl,?_⟩;replace HB:=am (below_step (HB.out) hb);(try clear hb);(try clear hb2);(try clear hk);(try clear hi)))
     go_ret
     exact ⟨by first | rfl | (simp [*]<;>rfl),HB.out⟩
   rw [if_pos c3] at H
   have c3b0 : decide (x7_1 < (l0.length : Int)) = true:=decide_eq_true c3
   clear c3
   replace H':=am H
   go_wp2
   go_loopg [6,8] k1 (fun kq v6 v8 w'=>∃ (x6_2 : Int) (x8_2 : Int),v6 = .int .i64 x6_2∧v8 = .int .i64 x8_2∧Aside0 (q1_Sealed.l1 kq l0 a1 x5_1 x6_2 x7_1 x8_2 = some r)∧Aside0 (kq≤k1)∧Aside0 (Below w.heap.size w w'))
   case atStart=>exact ⟨(x6_1),(0),(by first | rfl | (simp;done) | (simp [*];done)),(by first | rfl | (simp;done) | (simp [*];done)),H',⟨Nat.le_refl _⟩,⟨HB.out⟩⟩
   case round =>
    clear H'
    obtain ⟨x6_2,x8_2,rfl,rfl,HA,HK2,HB⟩:=hrel
    cases gk with
    | zero=>exact absurd HA.out (by simp [q1_Sealed.l1])
    | succ k2 =>
     have H:=HA.out
     clear HA
     simp only [q1_Sealed.l1] at H
     by_cases c4 : 0≤x7_1
     case neg =>
      rw [if_neg c4] at H
      exact absurd H (by simp)
     rw [if_pos c4] at H
     have c4b0 : decide (0≤x7_1) = true:=decide_eq_true c4
     clear c4
     by_cases c5 : x7_1 < (l0.length : Int)
     case neg =>
      rw [if_neg c5] at H
      exact absurd H (by simp)
     rw [if_pos c5] at H
     have c5b0 : decide (x7_1 < (l0.length : Int)) = true:=decide_eq_true c5
     clear c5
     by_cases c6 : x8_2 < ((rdOf ByteArray.empty l0 x7_1).size : Int)
     ·rw [if_pos c6] at H
      have c6b0 : decide (x8_2 < ((rdOf ByteArray.empty l0 x7_1).size : Int)) = true:=decide_eq_true c6
      clear c6
      by_cases c7 : 0≤x8_2
      case neg =>
       rw [if_neg c7] at H
       exact absurd H (by simp)
      rw [if_pos c7] at H
      have c7b0 : decide (0≤x8_2) = true:=decide_eq_true c7
      clear c7
      replace H':=am H
      have p949 : 0≤(x7_1 : Int):=of_decide_eq_true (by assumption)
      have q949 : x7_1 < (l0.length : Int):=of_decide_eq_true (by assumption)
      obtain ⟨ad949,e949,hx949_0⟩:=Kd.at_string HR0.out x7_1 p949 q949
      cases e949
      replace hx949_0:=(HB.out.cell (wbl hx949_0)).trans hx949_0
      replace p949:=eq_true p949
      replace q949:=eq_true q949
      have p950 : 0≤(x7_1 : Int):=of_decide_eq_true (by assumption)
      have q950 : x7_1 < (l0.length : Int):=of_decide_eq_true (by assumption)
      obtain ⟨ad950,e950,hx950_0⟩:=Kd.at_string HR0.out x7_1 p950 q950
      obtain rfl : ad949 = ad950:=(by injection e950)
      replace hx950_0:=(HB.out.cell (wbl hx950_0)).trans hx950_0
      replace p950:=eq_true p950
      replace q950:=eq_true q950
      have p8 : 0≤(x8_2 : Int):=of_decide_eq_true (by assumption)
      have q8 : x8_2 < ((rdOf ByteArray.empty l0 x7_1).size : Int):=of_decide_eq_true (by assumption)
      have hx8:=bt_at (rdOf ByteArray.empty l0 x7_1) x8_2
      replace p8:=eq_true p8
      replace q8:=eq_true q8
      go_wp2
      go_roundg k2
      case measure=>have:=HK1.out;have:=HK2.out;omega
      case rel=>exact ⟨(wrap64 (x6_2 + (wrap64 ((wrap64 ((wrap64 (bt (rdOf ByteArray.empty l0 x7_1) x8_2)) * (wrap64 (x8_2 + 1)))) * (wrap64 (x7_1 + 1)))))),(wrap64 (x8_2 + 1)),(by first | rfl | (simp;done) | (simp [*];done)),(by first | rfl | (simp;done) | (simp [*];done)),H',⟨by have:=HK1.out;have:=HK2.out;omega⟩,⟨HB.out⟩⟩
     ·rw [if_neg c6] at H
      have c6b0 : decide (x8_2 < ((rdOf ByteArray.empty l0 x7_1).size : Int)) = false:=decide_eq_false c6
      clear c6
      by_cases c9 : x5_1.size + (rdOf ByteArray.empty l0 x7_1).size≤9223372036854775807
      case neg =>
       rw [if_neg c9] at H
       exact absurd H (by simp)
      rw [if_pos c9] at H
      have c9b0:=eq_true c9
      have c9b1 : decide (x5_1.size + (rdOf ByteArray.empty l0 x7_1).size≤9223372036854775807) = true:=decide_eq_true c9
      try have c9b2 : (9223372036854775807 < x5_1.size + (rdOf ByteArray.empty l0 x7_1).size) = False:=eq_false (Nat.not_lt.2 c9)
      by_cases c10 : (x5_1 ++ (rdOf ByteArray.empty l0 x7_1)).size + 1≤9223372036854775807
      case neg =>
       rw [if_neg c10] at H
       exact absurd H (by simp)
      rw [if_pos c10] at H
      have c10b0:=eq_true c10
      have c10b1 : decide ((x5_1 ++ (rdOf ByteArray.empty l0 x7_1)).size + 1≤9223372036854775807) = true:=decide_eq_true c10
      try have c10b2 : (9223372036854775807 < (x5_1 ++ (rdOf ByteArray.empty l0 x7_1)).size + 1) = False:=eq_false (Nat.not_lt.2 c10)
      try (have c10s:=c10;simp only [ByteArray.size_append] at c10s;replace c10s:=eq_false (Nat.not_lt.2 c10s))
      replace H':=am H
      have p949 : 0≤(x7_1 : Int):=of_decide_eq_true (by assumption)
      have q949 : x7_1 < (l0.length : Int):=of_decide_eq_true (by assumption)
      obtain ⟨ad949,e949,hx949_0⟩:=Kd.at_string HR0.out x7_1 p949 q949
      cases e949
      replace hx949_0:=(HB.out.cell (wbl hx949_0)).trans hx949_0
      replace p949:=eq_true p949
      replace q949:=eq_true q949
      have p951 : 0≤(x7_1 : Int):=of_decide_eq_true (by assumption)
      have q951 : x7_1 < (l0.length : Int):=of_decide_eq_true (by assumption)
      obtain ⟨ad951,e951,hx951_0⟩:=Kd.at_string HR0.out x7_1 p951 q951
      obtain rfl : ad949 = ad951:=(by injection e951)
      replace hx951_0:=(HB.out.cell (wbl hx951_0)).trans hx951_0
      replace p951:=eq_true p951
      replace q951:=eq_true q951
      go_wp2
      go_roundg k2
      case measure=>have:=HK1.out;have:=HK2.out;omega
      case rel=>exact ⟨((x5_1 ++ (rdOf ByteArray.empty l0 x7_1)) ++ (⟨#[10]⟩ : ByteArray)),(x6_2),(wrap64 (x7_1 + 1)),(by first | rfl | (simp;done) | (simp [*];done)),(by first | rfl | (simp;done) | (simp [*];done)),(by first | rfl | (simp;done) | (simp [*];done)),H',⟨by have:=HK1.out;have:=HK2.out;omega⟩,⟨HB.out⟩⟩
def q4_Print.l0 : Nat→List ByteArray→Int→List (S126)→Int→List (S48)→Int→Int→Option (ByteArray)
 | 0,_,_,_,_,_,_,_=>none
 | k + 1,x3,x4,x953000,x953001,x953002,x953003,x953004=>if x4 < (x953002.length : Int) then (if 0≤x4 then ((q1_Row.f k (⟨#[110,111,122,122,108,101]⟩ : ByteArray) (([(rd_T48 x953002 x4).f0,(rd_T48 x953002 x4).f1] : List Int))).bind fun t965=>(if x3.length < 8796093022208 then (q4_Print.l0 k (x3 ++ [t965]) (wrap64 (x4 + 1)) x953000 x953001 x953002 x953003 x953004) else (none))) else (none)) else ((q1_Sealed.f k x3 127).bind fun t969=>(some t969))
def q4_Print.f (k : Nat) (l0_0 : List (S126)) (a0_1 : Int) (l0_2 : List (S48)) (a0_3 : Int) (a0_4 : Int) : Option (ByteArray):=(q1_Row.f k (⟨#[99,97,115,116,108,101]⟩ : ByteArray) (([a0_3,a0_4] : List Int))).bind fun t956=>(q4_Print.l0 k (([t956] : List ByteArray)) 0 l0_0 a0_1 l0_2 a0_3 a0_4)
def q4_Print.T5 : Bool × List (List Nat × List Nat):=(true,[([],[]),([],[]),([1],[1]),([],[]),([2,3],[2,3]),([4],[4]),([5],[5]),([],[]),([7],[7]),([],[]),([8,9],[8,9]),([10],[10]),([11],[11]),([6,12],[6,12]),([13],[13]),([14],[14]),([0,15,14],[0,15]),([16,16,0,1,2,3,4,5,6,7,8,9,10,11,12,13,14,15,16],[0,16])])
def q4_Print.B5 : List Nat:=[0,0,2,0,14,30,62,0,128,0,896,1920,3968,8190,16382,32766,65535,131071]
theorem q4_Print.tab5 : rtab .any (opsOf Tryz.f51 5) = q4_Print.T5:=by kernel_rfl
theorem q4_Print.bits5 : waitsOk q4_Print.T5.2 q4_Print.B5 = true:=by kernel_rfl
theorem q4_Print.calls (k : Nat) (A0_0 : Option Addr) (c0_0 : Nat) (l0_0 : List (S126)) (a0_1 : Int) (A0_2 : Option Addr) (c0_2 : Nat) (l0_2 : List (S48)) (a0_3 : Int) (a0_4 : Int) (r : ByteArray) (w : World) (hr0_0 : Kd.C k126 w A0_0 l0_0.length l0_0) (hc0_0 : l0_0.length≤c0_0) (hr0_2 : Kd.C k48 w A0_2 l0_2.length l0_2) (hc0_2 : l0_2.length≤c0_2) (h : q4_Print.f k l0_0 a0_1 l0_2 a0_3 a0_4 = some r) :
 Calls Tryz.prog 51 #[.agg #[.slice A0_0 l0_0.length c0_0,.int .i64 a0_1,.slice A0_2 l0_2.length c0_2,.int .i64 a0_3,.int .i64 a0_4]] w fun e w'=>e = .returned (.string r)∧Below w.heap.size w w':=by
 have hu27:=Tryz.underlying27
 have HR0_0:=am hr0_0
 have HC0_0:=am hc0_0
 clear hr0_0 hc0_0
 have HR0_2:=am hr0_2
 have HC0_2:=am hc0_2
 clear hr0_2 hc0_2
 have HB:=am (Below.refl w.heap.size w)
 have H : ((q1_Row.f k (⟨#[99,97,115,116,108,101]⟩ : ByteArray) (([a0_3,a0_4] : List Int))).bind fun t956=>(q4_Print.l0 k (([t956] : List ByteArray)) 0 l0_0 a0_1 l0_2 a0_3 a0_4)) = some r:=h
 clear h
 obtain ⟨y953,hy953⟩ : ∃ y_ : List Int,y_ = (([a0_3,a0_4] : List Int)):=⟨_,rfl⟩
 replace H : ((q1_Row.f k (⟨#[99,97,115,116,108,101]⟩ : ByteArray) y953).bind fun t956=>(q4_Print.l0 k (([t956] : List ByteArray)) 0 l0_0 a0_1 l0_2 a0_3 a0_4)) = some r:=by first | (rw [hy953];with_reducible exact H) | (have H2_:=(Option.bind_some _ _).symm.trans H;rw [hy953];with_reducible exact H2_) | (have H2_:=(Option.bind_some _ _).symm.trans H;with_reducible exact H2_) | with_reducible exact H | (rw [hy953];exact H) | exact H
 have Ny953:=am hy953
 clear hy953
 replace H:=obm H
 obtain ⟨t956,A20,H⟩:=H
 replace H : (q4_Print.l0 k (([t956] : List ByteArray)) 0 l0_0 a0_1 l0_2 a0_3 a0_4) = some r:=H
 have A2:=am A20
 clear A20
 obtain ⟨y957,hy957⟩ : ∃ y_ : List ByteArray,y_ = (([t956] : List ByteArray)):=⟨_,rfl⟩
 replace H : (q4_Print.l0 k y957 0 l0_0 a0_1 l0_2 a0_3 a0_4) = some r:=by first | (rw [hy957];with_reducible exact H) | (have H2_:=(Option.bind_some _ _).symm.trans H;rw [hy957];with_reducible exact H2_) | (have H2_:=(Option.bind_some _ _).symm.trans H;with_reducible exact H2_) | with_reducible exact H | (rw [hy957];exact H) | exact H
 have Ny957:=am hy957
 clear hy957
 replace H':=am H
 go_enter Tryz.func51,Tryz.ntmps51
 go_wp2_with (first | ((refine gate_dst (N:=1) rfl ?_);refine box_event rfl (N:=1) rfl (cs:=#[.slice A0_0 l0_0.length c0_0,.int .i64 a0_1,.slice A0_2 l0_2.length c0_2,.int .i64 a0_3,.int .i64 a0_4]) (t:=27) ?hr ?_;(case hr=>go_simp;try rfl);intro gb952 hg w3 hbox hb;have BK952:=am (hbox);have GW952:=am (ge_new (HB.out) hg);have GE952:=am (ge_new (HB.out) hg);replace HB:=am (below_step (HB.out) hb);clear hb hbox hg;obtain ⟨hcz4_0,hcz4_1,hcz4_2,hcz4_3,hcz4_4⟩:=cO5 BK952.out) | ((refine gate_dst (N:=9) rfl ?_);refine Kd.R_lit (Kd.int .i64) _ 3 ?hg (N:=9) ?hd (xs:=([a0_3,a0_4] : List Int)) (inner:=[.int .i64 a0_3,.int .i64 a0_4]) (ok:=fun _=>True) (okp:=fun _=>True) ?hr ?hp (fun _ hk=>hk) trivial (Below.refl _ _) (Nat.le_refl _) (by simp) ?_;(case hd=>rfl);(case hg=>rfl);(case hr=>go_simp;try rfl);(case hp=>exact (Reps.one (show Kd.M (Kd.int .i64) _ _ _ a0_3 [.int .i64 a0_3] from rfl) (Reps.one (show Kd.M (Kd.int .i64) _ _ _ a0_4 [.int .i64 a0_4] from rfl) (Reps.none _ _))));intro v954 w5 ho6 hb hg_ hnew_;clear hg_ hnew_;(first | rw [← Ny953.out] at ho6 | (simp only [Int.reduceToNat] at ho6;rw [← Ny953.out] at ho6));have HO955:=am (Kd.R_lower ho6 (below_size (HB.out)));replace BK952:=(kmv hb BK952);replace HB:=am (below_step (HB.out) hb);clear hb ho6;obtain ⟨Ao7,co7,eo7⟩:=Kd.R_slice HO955.out;subst eo7) | ((with_reducible refine gate_callee (f:=93) rfl ?_);refine goesL_ (some 10) rfl rfl Tryz.func93 (by kernel_rfl) rfl #[.string (⟨#[99,97,115,116,108,101]⟩ : ByteArray),.slice Ao7 y953.length co7] rfl (by (try simp only [List.map_toArray,List.map_cons,List.map_nil]);first | done | rfl | (simp only [List.length_drop,List.length_take];rfl)) ?_;(refine (q1_Row.calls k (⟨#[99,97,115,116,108,101]⟩ : ByteArray) _ _ y953 t956 _ ?side1 ?side2 A2.out).mono ?_);(case side1=>repeat (first | exact (Kd.R_reads' HO955.out).2.2 | (with_reducible refine Kd.C_alloc ?_ _) | (with_reducible refine Kd.C_drewN ?_ _) | (with_reducible refine Kd.C_drew ?_)));(case side2=>exact (Kd.R_reads' HO955.out).2.1);rintro e w8 ⟨rfl,hb⟩;refine ⟨_,rfl,?_⟩;replace HO955:=am (Kd.R_below HO955.out hb);replace BK952:=(kmv hb BK952);replace HB:=am (below_step (HB.out) hb);(try clear hb);(try clear hb2);(try clear hk);(try clear hi)) | ((refine gate_dst (N:=11) rfl ?_);refine Kd.R_lit Kd.string _ 9 ?hg (N:=11) ?hd (xs:=([t956] : List ByteArray)) (inner:=[.string t956]) (ok:=fun _=>True) (okp:=fun _=>True) ?hr ?hp (fun _ hk=>hk) trivial (Below.refl _ _) (Nat.le_refl _) (by simp) ?_;(case hd=>rfl);(case hg=>rfl);(case hr=>go_simp;try rfl);(case hp=>exact (Reps.one (show Kd.M Kd.string _ _ _ t956 [.string t956] from rfl) (Reps.none _ _)));intro v958 w9 ho10 hb hg_ hnew_;clear hg_ hnew_;(first | rw [← Ny957.out] at ho10 | (simp only [Int.reduceToNat] at ho10;rw [← Ny957.out] at ho10));have HO959:=am (Kd.R_lower ho10 (below_size (HB.out)));replace HO955:=am (Kd.R_below HO955.out hb);replace BK952:=(kmv hb BK952);replace HB:=am (below_step (HB.out) hb);clear hb ho10))
 go_loopg [3,4] k (fun kq v3 v4 w'=>∃ (x3_1 : List ByteArray) (x4_1 : Int),v4 = .int .i64 x4_1∧Aside0 (q4_Print.l0 kq x3_1 x4_1 l0_0 a0_1 l0_2 a0_3 a0_4 = some r)∧Aside0 (kq≤k)∧Aside0 (Kd.R Kd.string 9 w' w.heap.size (fun _=>True) v3 x3_1)∧Aside0 (w'.heap[gb952]? = some (.cells #[(.slice A0_0 l0_0.length c0_0),.int .i64 a0_1,(.slice A0_2 l0_2.length c0_2),.int .i64 a0_3,.int .i64 a0_4] 27 (0,0)))∧Aside0 (Below w.heap.size w w'))
 case atStart=>exact ⟨(y957),(0),(by first | rfl | (simp;done) | (simp [*];done)),H',⟨Nat.le_refl _⟩,⟨by (with_reducible repeat (first | apply Kd.R_alloc | apply Kd.R_drewN | apply Kd.R_drew));exact HO959.out⟩,⟨BK952.out⟩,⟨HB.out⟩⟩
 case round =>
  clear H'
  obtain ⟨x3_1,x4_1,rfl,HA,HK1,HO_3,BK952,HB⟩:=hrel
  cases gk with
  | zero=>exact absurd HA.out (by simp [q4_Print.l0])
  | succ k1 =>
   have H:=HA.out
   clear HA
   simp only [q4_Print.l0] at H
   by_cases c11 : x4_1 < (l0_2.length : Int)
   case neg =>
    rw [if_neg c11] at H
    have c11b0 : decide (x4_1 < (l0_2.length : Int)) = false:=decide_eq_false c11
    clear c11
    replace H:=obm H
    obtain ⟨t969,A220,H⟩:=H
    replace H : (some t969) = some r:=H
    have A22:=am A220
    clear A220
    obtain rfl:=Option.some.inj H
    obtain ⟨hcz23_0,hcz23_1,hcz23_2,hcz23_3,hcz23_4⟩:=cO5 BK952.out
    obtain ⟨Ao24,co24,eo24⟩:=Kd.R_slice HO_3.out
    subst eo24
    go_wp2_with (first | ((with_reducible refine gate_callee (f:=94) rfl ?_);refine goesL_ (some 37) rfl rfl Tryz.func94 (by kernel_rfl) rfl #[.slice Ao24 x3_1.length co24,.int .i64 127] rfl (by (try simp only [List.map_toArray,List.map_cons,List.map_nil]);first | done | rfl | (simp only [List.length_drop,List.length_take];rfl)) ?_;(refine (q1_Sealed.calls k1 _ _ x3_1 127 t969 _ ?side1 ?side2 A22.out).mono ?_);(case side1=>repeat (first | exact (Kd.R_reads' HO_3.out).2.2 | (with_reducible refine Kd.C_alloc ?_ _) | (with_reducible refine Kd.C_drewN ?_ _) | (with_reducible refine Kd.C_drew ?_)));(case side2=>exact (Kd.R_reads' HO_3.out).2.1);rintro e w25 ⟨rfl,hb⟩;refine ⟨_,rfl,?_⟩;replace HO_3:=am (Kd.R_below HO_3.out hb);replace BK952:=(kmv hb BK952);replace HB:=am (below_step (HB.out) hb);(try clear hb);(try clear hb2);(try clear hk);(try clear hi)))
    go_ret
    exact ⟨by first | rfl | (simp [*]<;>rfl),HB.out⟩
   rw [if_pos c11] at H
   have c11b0 : decide (x4_1 < (l0_2.length : Int)) = true:=decide_eq_true c11
   clear c11
   by_cases c12 : 0≤x4_1
   case neg =>
    rw [if_neg c12] at H
    exact absurd H (by simp)
   rw [if_pos c12] at H
   have c12b0 : decide (0≤x4_1) = true:=decide_eq_true c12
   clear c12
   obtain ⟨y962,hy962⟩ : ∃ y_ : List Int,y_ = (([(rd_T48 l0_2 x4_1).f0,(rd_T48 l0_2 x4_1).f1] : List Int)):=⟨_,rfl⟩
   replace H : ((q1_Row.f k1 (⟨#[110,111,122,122,108,101]⟩ : ByteArray) y962).bind fun t965=>(if x3_1.length < 8796093022208 then (q4_Print.l0 k1 (x3_1 ++ [t965]) (wrap64 (x4_1 + 1)) l0_0 a0_1 l0_2 a0_3 a0_4) else (none))) = some r:=by first | (rw [hy962];with_reducible exact H) | (have H2_:=(Option.bind_some _ _).symm.trans H;rw [hy962];with_reducible exact H2_) | (have H2_:=(Option.bind_some _ _).symm.trans H;with_reducible exact H2_) | with_reducible exact H | (rw [hy962];exact H) | exact H
   have Ny962:=am hy962
   clear hy962
   replace H:=obm H
   obtain ⟨t965,A130,H⟩:=H
   replace H : (if x3_1.length < 8796093022208 then (q4_Print.l0 k1 (x3_1 ++ [t965]) (wrap64 (x4_1 + 1)) l0_0 a0_1 l0_2 a0_3 a0_4) else (none)) = some r:=H
   have A13:=am A130
   clear A130
   by_cases c14 : x3_1.length < 8796093022208
   case neg =>
    rw [if_neg c14] at H
    exact absurd H (by simp)
   rw [if_pos c14] at H
   have LMc14:=am c14
   clear c14
   obtain ⟨y966,hy966⟩ : ∃ y_ : List ByteArray,y_ = (x3_1 ++ [t965]):=⟨_,rfl⟩
   replace H : (q4_Print.l0 k1 y966 (wrap64 (x4_1 + 1)) l0_0 a0_1 l0_2 a0_3 a0_4) = some r:=by first | (rw [hy966];with_reducible exact H) | (have H2_:=(Option.bind_some _ _).symm.trans H;rw [hy966];with_reducible exact H2_) | (have H2_:=(Option.bind_some _ _).symm.trans H;with_reducible exact H2_) | with_reducible exact H | (rw [hy966];exact H) | exact H
   have Ny966:=am hy966
   clear hy966
   replace H':=am H
   obtain ⟨hcz15_0,hcz15_1,hcz15_2,hcz15_3,hcz15_4⟩:=cO5 BK952.out
   try go_wp2
   replace HO_3:=am (Kd.R_drew HO_3.out)
   replace BK952:=am (blk_drew BK952.out)
   replace HB:=am (below_drew1 HB.out)
   have p960 : 0≤(x4_1 : Int):=of_decide_eq_true (by assumption)
   have q960 : x4_1 < (l0_2.length : Int):=of_decide_eq_true (by assumption)
   obtain ⟨ad960,e960,hx960_0,hx960_1⟩:=at_T48 HR0_2.out x4_1 p960 q960
   have hw960_1:=hx960_1
   have hw960_0:=hx960_0
   cases e960
   replace hx960_0:=(HB.out.cell (wbl hx960_0)).trans hx960_0
   replace hx960_1:=(HB.out.cell (wbl hx960_1)).trans hx960_1
   replace p960:=eq_true p960
   replace q960:=eq_true q960
   have p961 : 0≤(x4_1 : Int):=of_decide_eq_true (by assumption)
   have q961 : x4_1 < (l0_2.length : Int):=of_decide_eq_true (by assumption)
   obtain ⟨ad961,e961,hx961_0,hx961_1⟩:=at_T48 HR0_2.out x4_1 p961 q961
   have hw961_1:=hx961_1
   have hw961_0:=hx961_0
   obtain rfl : ad960 = ad961:=(by injection e961)
   replace hx961_0:=(HB.out.cell (wbl hx961_0)).trans hx961_0
   replace hx961_1:=(HB.out.cell (wbl hx961_1)).trans hx961_1
   replace p961:=eq_true p961
   replace q961:=eq_true q961
   refine start_ (n:=18) (S:=fun w'=>w'.cell? ⟨gb952,0,none⟩ = some (.slice A0_0 l0_0.length c0_0)∧w'.cell? ⟨gb952,1,none⟩ = some (.int .i64 a0_1)∧w'.cell? ⟨gb952,2,none⟩ = some (.slice (some ad960) l0_2.length c0_2)∧w'.cell? ⟨gb952,3,none⟩ = some (.int .i64 a0_3)∧w'.cell? ⟨gb952,4,none⟩ = some (.int .i64 a0_4)∧w'.cell? (ad960.add ((x4_1).toNat * 2)) = some (.int .i64 ((rd_T48 l0_2 x4_1).f0))∧w'.cell? ⟨(ad960.add ((x4_1).toNat * 2)).block,(ad960.add ((x4_1).toNat * 2)).off + 1,none⟩ = some (.int .i64 ((rd_T48 l0_2 x4_1).f1))∧w'.cell? (ad960.add ((x4_1).toNat * 2)) = some (.int .i64 ((rd_T48 l0_2 x4_1).f0))∧w'.cell? ⟨(ad960.add ((x4_1).toNat * 2)).block,(ad960.add ((x4_1).toNat * 2)).off + 1,none⟩ = some (.int .i64 ((rd_T48 l0_2 x4_1).f1))) (ds:=[]) (ba 18 0) (by kernel_rfl) rfl rfl ⟨(blk_cell BK952.out 0).trans rfl,(blk_cell BK952.out 1).trans rfl,(blk_cell BK952.out 2).trans rfl,(blk_cell BK952.out 3).trans rfl,(blk_cell BK952.out 4).trans rfl,((HB.out.cell (wbl hw960_0)).trans hw960_0),((HB.out.cell (wbl hw960_1)).trans hw960_1),((HB.out.cell (wbl hw961_0)).trans hw961_0),((HB.out.cell (wbl hw961_1)).trans hw961_1)⟩ (fun hHeld=>?_);refine with_tabW q4_Print.tab5 q4_Print.bits5 (fun HT_ HW_=>?_)
   generalize wr.drew = w16 at HO_3 BK952 HB hx960_0 hx960_1 hx961_0 hx961_1 hHeld ⊢
   refine pure_ (i:=0) (N:=some 19) (v:=?_) (a':=?_) (ba 18 1) rfl rfl (any_of HT_.out (by kernel_rfl)) (fun _ _ _ h=>h) (Or.inl ⟨by rfl,?_⟩) ?_ ?_
   rotate_left
   ·intro w'
    go_simp
    with_reducible rfl
   rotate_left
   ·simp only [Act.put,NRM]
    rfl
   refine pure_ (i:=1) (N:=some 20) (v:=?_) (a':=?_) (ba 18 3) rfl rfl (any_of HT_.out (by kernel_rfl)) (fun _ _ _ h=>h) (Or.inl ⟨by rfl,?_⟩) ?_ ?_
   rotate_left
   ·intro w'
    go_simp
    with_reducible rfl
   rotate_left
   ·simp only [Act.put,NRM]
    rfl
   refine pure_ (i:=3) (N:=some 22) (v:=?_) (a':=?_) (ba 18 11) rfl rfl (any_of HT_.out (by kernel_rfl)) (fun _ _ _ h=>h) (Or.inl ⟨by rfl,?_⟩) ?_ ?_
   rotate_left
   ·intro w'
    go_simp
    with_reducible rfl
   rotate_left
   ·simp only [Act.put,NRM]
    rfl
   refine pure_ (i:=7) (N:=some 26) (v:=?_) (a':=?_) (ba 18 139) rfl rfl (any_of HT_.out (by kernel_rfl)) (fun _ _ _ h=>h) (Or.inl ⟨by rfl,?_⟩) ?_ ?_
   rotate_left
   ·intro w'
    go_simp
    with_reducible rfl
   rotate_left
   ·simp only [Act.put,NRM]
    rfl
   refine pure_ (i:=9) (N:=some 28) (v:=?_) (a':=?_) (ba 18 651) rfl rfl (any_of HT_.out (by kernel_rfl)) (fun _ _ _ h=>h) (Or.inl ⟨by rfl,?_⟩) ?_ ?_
   rotate_left
   ·intro w'
    go_simp
    with_reducible rfl
   rotate_left
   ·simp only [Act.put,NRM]
    rfl
   refine take_ (i:=2) (N:=some 21) (v:=?_) (a':=?_) (ba 18 655) rfl rfl (take_ofW HT_.out HW_.out (by kernel_rfl)) (fun _ _ _ h=>h) (Or.inl ⟨by rfl,?_⟩) hHeld ?_ ?_
   rotate_left
   ·rintro w' ⟨s0,s1,s2,s3,s4,s5,s6,s7,s8⟩
    go_simp
    with_reducible rfl
   rotate_left
   ·simp only [Act.put,NRM]
    rfl
   refine pure_ (i:=4) (N:=some 23) (v:=?_) (a':=?_) (ba 18 671) rfl rfl (any_of HT_.out (by kernel_rfl)) (fun _ _ _ h=>h) (Or.inl ⟨by rfl,?_⟩) ?_ ?_
   rotate_left
   ·intro w'
    go_simp
    with_reducible rfl
   rotate_left
   ·simp only [Act.put,NRM]
    rfl
   refine pure_ (i:=5) (N:=some 24) (v:=?_) (a':=?_) (ba 18 703) rfl rfl (any_of HT_.out (by kernel_rfl)) (fun _ _ _ h=>h) (Or.inl ⟨by rfl,?_⟩) ?_ ?_
   rotate_left
   ·intro w'
    go_simp
    with_reducible rfl
   rotate_left
   ·simp only [Act.put,NRM]
    rfl
   refine take_ (i:=6) (N:=some 25) (v:=?_) (a':=?_) (ba 18 767) rfl rfl (take_ofW HT_.out HW_.out (by kernel_rfl)) (fun _ _ _ h=>h) (Or.inl ⟨by rfl,?_⟩) hHeld ?_ ?_
   rotate_left
   ·rintro w' ⟨s0,s1,s2,s3,s4,s5,s6,s7,s8⟩
    go_simp
    with_reducible rfl
   rotate_left
   ·simp only [Act.put,NRM]
    rfl
   refine take_ (i:=8) (N:=some 27) (v:=?_) (a':=?_) (ba 18 1023) rfl rfl (take_ofW HT_.out HW_.out (by kernel_rfl)) (fun _ _ _ h=>h) (Or.inl ⟨by rfl,?_⟩) hHeld ?_ ?_
   rotate_left
   ·rintro w' ⟨s0,s1,s2,s3,s4,s5,s6,s7,s8⟩
    go_simp
    with_reducible rfl
   rotate_left
   ·simp only [Act.put,NRM]
    rfl
   refine pure_ (i:=10) (N:=some 29) (v:=?_) (a':=?_) (ba 18 2047) rfl rfl (any_of HT_.out (by kernel_rfl)) (fun _ _ _ h=>h) (Or.inl ⟨by rfl,?_⟩) ?_ ?_
   rotate_left
   ·intro w'
    go_simp
    with_reducible rfl
   rotate_left
   ·simp only [Act.put,NRM]
    rfl
   refine pure_ (i:=11) (N:=some 30) (v:=?_) (a':=?_) (ba 18 4095) rfl rfl (any_of HT_.out (by kernel_rfl)) (fun _ _ _ h=>h) (Or.inl ⟨by rfl,?_⟩) ?_ ?_
   rotate_left
   ·intro w'
    go_simp
    with_reducible rfl
   rotate_left
   ·simp only [Act.put,NRM]
    rfl
   refine take_ (i:=12) (N:=some 31) (v:=?_) (a':=?_) (ba 18 8191) rfl rfl (take_ofW HT_.out HW_.out (by kernel_rfl)) (fun _ _ _ h=>h) (Or.inl ⟨by rfl,?_⟩) hHeld ?_ ?_
   rotate_left
   ·rintro w' ⟨s0,s1,s2,s3,s4,s5,s6,s7,s8⟩
    go_simp
    with_reducible rfl
   rotate_left
   ·simp only [Act.put,NRM]
    rfl
   refine one_ (i:=13) (N:=some 32) (ba 18 16383) rfl rfl (one_of HT_.out (by kernel_rfl)) (by decide) (fun K hK=>?_)
   refine Kd.R_lit_step (Kd.int .i64) _ 3 ?hg (N:=32) ?hd (xs:=([(rd_T48 l0_2 x4_1).f0,(rd_T48 l0_2 x4_1).f1] : List Int)) (inner:=[.int .i64 ((rd_T48 l0_2 x4_1).f0),.int .i64 ((rd_T48 l0_2 x4_1).f1)]) (ok:=fun _=>True) (okp:=fun _=>True) ?hr ?hp (fun _ hk=>hk) trivial (Below.refl _ _) (Nat.le_refl _) (by simp) ?_;(case hd=>rfl);(case hg=>rfl);(case hr=>go_simp;try rfl);(case hp=>exact (Reps.one (show Kd.M (Kd.int .i64) _ _ _ ((rd_T48 l0_2 x4_1).f0) [.int .i64 ((rd_T48 l0_2 x4_1).f0)] from rfl) (Reps.one (show Kd.M (Kd.int .i64) _ _ _ ((rd_T48 l0_2 x4_1).f1) [.int .i64 ((rd_T48 l0_2 x4_1).f1)] from rfl) (Reps.none _ _))))
   intro v963 w17 ho18 hb hg_ hnew_
   clear hg_ hnew_
   (first | rw [← Ny962.out] at ho18 | (simp only [Int.reduceToNat] at ho18;rw [← Ny962.out] at ho18))
   have HO964:=am (Kd.R_lower ho18 (below_size (HB.out)))
   replace HO_3:=am (Kd.R_below HO_3.out hb)
   replace BK952:=(kmv hb BK952)
   replace HB:=am (below_step (HB.out) hb)
   clear hb ho18
   obtain ⟨Ao19,co19,eo19⟩:=Kd.R_slice HO964.out
   (first | subst eo19 | (injection eo19 with f1_ f2_ f3_;have f4_:=f1_.symm;have f5_:=f3_.symm;clear f1_ f2_ f3_;subst f4_;subst f5_))
   refine hK.out _ _ ⟨(blk_cell BK952.out 0).trans rfl,(blk_cell BK952.out 1).trans rfl,(blk_cell BK952.out 2).trans rfl,(blk_cell BK952.out 3).trans rfl,(blk_cell BK952.out 4).trans rfl,((HB.out.cell (wbl hw960_0)).trans hw960_0),((HB.out.cell (wbl hw960_1)).trans hw960_1),((HB.out.cell (wbl hw961_0)).trans hw961_0),((HB.out.cell (wbl hw961_1)).trans hw961_1)⟩ (fun hHeld=>?_)
   clear hK K
   refine norm_ (a':=?_) ?_ ?_
   rotate_left
   ·show Act.put _ (some 32) _ = _
    simp only [Act.put,NRM]
    rfl
   refine one_ (i:=14) (N:=some 33) (ba 18 32767) rfl rfl (one_of HT_.out (by kernel_rfl)) (by decide) (fun K hK=>?_)
   refine goes_ Tryz.func93 (by kernel_rfl) rfl #[.string (⟨#[110,111,122,122,108,101]⟩ : ByteArray),.slice Ao19 y962.length co19] (by rfl) rfl rfl (by (try simp only [List.map_toArray,List.map_cons,List.map_nil]);first | done | rfl | (simp only [List.length_drop,List.length_take];rfl)) ?_
   with_reducible refine (q1_Row.calls k1 (⟨#[110,111,122,122,108,101]⟩ : ByteArray) _ _ y962 t965 _ ?side1 ?side2 A13.out).mono ?_
   (case side1=>repeat (first | exact (Kd.R_reads' HO964.out).2.2 | (with_reducible refine Kd.C_alloc ?_ _) | (with_reducible refine Kd.C_drewN ?_ _) | (with_reducible refine Kd.C_drew ?_)))
   (case side2=>exact (Kd.R_reads' HO964.out).2.1)
   rintro e w20 ⟨rfl,hb⟩
   refine ⟨_,rfl,?_⟩
   replace HO_3:=am (Kd.R_below HO_3.out hb)
   replace HO964:=am (Kd.R_below HO964.out hb)
   replace BK952:=(kmv hb BK952)
   replace HB:=am (below_step (HB.out) hb)
   (try clear hb)
   (try clear hb2)
   (try clear hk)
   (try clear hi)
   refine hK.out _ _ ⟨(blk_cell BK952.out 0).trans rfl,(blk_cell BK952.out 1).trans rfl,(blk_cell BK952.out 2).trans rfl,(blk_cell BK952.out 3).trans rfl,(blk_cell BK952.out 4).trans rfl,((HB.out.cell (wbl hw960_0)).trans hw960_0),((HB.out.cell (wbl hw960_1)).trans hw960_1),((HB.out.cell (wbl hw961_0)).trans hw961_0),((HB.out.cell (wbl hw961_1)).trans hw961_1)⟩ (fun hHeld=>?_)
   clear hK K
   refine norm_ (a':=?_) ?_ ?_
   rotate_left
   ·show Act.put _ (some 33) _ = _
    simp only [Act.put,NRM]
    rfl
   refine one_ (i:=15) (N:=some 34) (ba 18 65535) rfl rfl (one_of HT_.out (by kernel_rfl)) (by decide) (fun K hK=>?_)
   refine value_ (w1:=?_) (v:=?_) (by rfl) rfl ?_ ?_
   rotate_left 2
   ·go_simp
    constructor
    ·rfl
    ·rfl
   refine hK.out _ _ ⟨(blk_cell (blk_alloc BK952.out _) 0).trans rfl,(blk_cell (blk_alloc BK952.out _) 1).trans rfl,(blk_cell (blk_alloc BK952.out _) 2).trans rfl,(blk_cell (blk_alloc BK952.out _) 3).trans rfl,(blk_cell (blk_alloc BK952.out _) 4).trans rfl,(World.cell?_alloc_lt _ _ _ (World.block_lt_of_cell? _ _ (((HB.out.cell (wbl hw960_0)).trans hw960_0)))).trans (((HB.out.cell (wbl hw960_0)).trans hw960_0)),(World.cell?_alloc_lt _ _ _ (World.block_lt_of_cell? _ _ (((HB.out.cell (wbl hw960_1)).trans hw960_1)))).trans (((HB.out.cell (wbl hw960_1)).trans hw960_1)),(World.cell?_alloc_lt _ _ _ (World.block_lt_of_cell? _ _ (((HB.out.cell (wbl hw961_0)).trans hw961_0)))).trans (((HB.out.cell (wbl hw961_0)).trans hw961_0)),(World.cell?_alloc_lt _ _ _ (World.block_lt_of_cell? _ _ (((HB.out.cell (wbl hw961_1)).trans hw961_1)))).trans (((HB.out.cell (wbl hw961_1)).trans hw961_1))⟩ (fun hHeld=>?_)
   clear hK K
   refine norm_ (a':=?_) ?_ ?_
   rotate_left
   ·show Act.put _ (some 34) _ = _
    simp only [Act.put,NRM]
    rfl
   refine one_ (i:=16) (N:=some 35) (ba 18 131071) rfl rfl (one_of HT_.out (by kernel_rfl)) (by decide) (fun K hK=>?_)
   refine Kd.R_append_step Kd.string (w0:=w) w.heap.size (by rfl) (.tmp 19) (.tmp 34) 130 9 (.string ⟨#[]⟩) 16 rfl Tryz.underlying130 info9 rfl (by decide) (by omega) u3 x3_1 t965 [.string t965] (fun _=>True) (fun _=>False) rfl rfl ?aP (fun _ hk=>hk.elim) ?aF ?aO ?aB ?aS ?aL ?_
   (case aP=>exact rfl)
   (case aB=>exact (HB.out))
   (case aF=>exact (fun _ _=>trivial))
   (case aO=>exact HO_3.out)
   (case aS=>exact (below_size (HB.out)))
   (case aL=>have:=LMc14.out;omega)
   intro v967 w21 ho hb hg hat
   rw [← Ny966.out] at ho
   have n0_:=am (blk_grown (g:=gb952) (o:=.cells #[.slice A0_0 l0_0.length c0_0,.int .i64 a0_1,.slice (some ad960) l0_2.length c0_2,.int .i64 a0_3,.int .i64 a0_4] 27 (0,0)) BK952.out hg (Kd.R_ne HO_3.out BK952.out (by decide)))
   have n1_:=am (Kd.R_over' HO964.out (Kd.R_typed HO_3.out) (by decide) hg)
   have n2_:=am (hb)
   have n3_:=am (ho)
   clear BK952
   clear HO964
   clear HB
   clear HO_3
   have BK952:=n0_
   have HO964:=n1_
   have HB:=n2_
   have HO968:=n3_
   clear n0_ n1_ n2_ n3_
   clear ho hb hg hat
   refine hK.out _ _ ⟨(blk_cell BK952.out 0).trans rfl,(blk_cell BK952.out 1).trans rfl,(blk_cell BK952.out 2).trans rfl,(blk_cell BK952.out 3).trans rfl,(blk_cell BK952.out 4).trans rfl,((HB.out.cell (wbl hw960_0)).trans hw960_0),((HB.out.cell (wbl hw960_1)).trans hw960_1),((HB.out.cell (wbl hw961_0)).trans hw961_0),((HB.out.cell (wbl hw961_1)).trans hw961_1)⟩ (fun hHeld=>?_)
   clear hK K
   refine norm_ (a':=?_) ?_ ?_
   rotate_left
   ·show Act.put _ (some 35) _ = _
    simp only [Act.put,NRM]
    rfl
   refine pure_ (i:=17) (N:=some 3) (v:=?_) (a':=?_) (ba 18 262143) rfl rfl (any_of HT_.out (by kernel_rfl)) (fun _ _ _ h=>h) (Or.inl ⟨by rfl,?_⟩) ?_ ?_
   rotate_left
   ·intro w'
    go_simp
    with_reducible rfl
   rotate_left
   ·simp only [Act.put,NRM]
    rfl
   refine done_ (done_of HT_.out (by kernel_rfl)) ?_
   try go_wp2
   go_roundg k1
   case measure=>have:=HK1.out;omega
   case rel=>exact ⟨(y966),(wrap64 (x4_1 + 1)),(by first | rfl | (simp;done) | (simp [*];done)),H',⟨by have:=HK1.out;omega⟩,⟨by (with_reducible repeat (first | apply Kd.R_alloc | apply Kd.R_drewN | apply Kd.R_drew));exact HO968.out⟩,⟨BK952.out⟩,⟨HB.out⟩⟩
end
end Go.Proofs.YtnnmnhpeblhiiaaGreatDoor.C

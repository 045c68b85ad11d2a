/- A part of the proof: the walks of the functions that it reaches. TIGHT. -/
import Derived.Test.YticlelgmmonloaaGreatDoorM11
import Derived.Laws.EntriesVeiled
namespace Go.Proofs.YticlelgmmonloaaGreatDoor.C
open Go.RowKit Go.Proofs.YticlelgmmonloaaGreatDoorW.PrintWords Go.Proofs.YticlelgmmonloaaGreatDoorW.PrintLast Go.Proofs.YticlelgmmonloaaGreatDoorW.PrintMore
set_option linter.unusedVariables false
set_option linter.unusedSimpArgs false
set_option maxHeartbeats 16000000
set_option maxRecDepth 100000
def ca_Read.f (l0 : List S126) (d : Int) (s : ByteArray) : Option (List S126 × Int × List S64 × Int × Int × Int) :=
 if 200 < s.size then some ([],0,[],0,0,3) else match parsedF s with | none => some ([],0,[],0,0,4) | some x => (ca_isBasin.f l0 d x.2.2 x.1 x.2.1).bind fun t => if t = true then some (l0,d,x.2.2,x.1,x.2.1,0) else some ([],0,[],0,0,2)
theorem ca_Read.calls (A0 : Option Addr) (c0 : Nat) (l0 : List S126) (d : Int) (s : ByteArray) (r1 : List S126) (r2 : Int) (r3 : List S64) (r4 r5 r6 : Int) (w : World) (hr0 : Kd.C k126 w A0 l0.length l0) (hc0 : l0.length ≤ c0) (hl0 : l0.length < 5864062014805) (hsm : s.size ≤ 9223372036854775807) (hg : GV w) (h : ca_Read.f l0 d s = some (r1,r2,r3,r4,r5,r6)) (hz : r6 = 0) :
 Calls Tryz.prog 53 #[.agg #[.slice A0 l0.length c0,.int .i64 d],.string s] w fun e w' => ∃ v0_ v2_ : Value,e = .returned (.tuple #[.agg #[v0_,.int .i64 r2,v2_,.int .i64 r4,.int .i64 r5],.int .i64 r6]) ∧ Kd.R k126 126 w' w.heap.size (fun _ => True) v0_ r1 ∧ Kd.R k64 64 w' w.heap.size (fun _ => True) v2_ r3 ∧ Below w.heap.size w w' := by
 have hu := Tryz.underlying27
 have hmf : ∀ (fn : Fn) (first cap : Array Value) (w : World),(Instr.makeFunc fn first cap).run Tryz.prog w = .ok (.func fn first cap) w := fun _ _ _ _ => rfl
 have HR := am hr0
 have HC := am hc0
 have HL := am hl0
 have HG := am hg
 have HB := am (Below.refl w.heap.size w)
 clear hr0 hc0 hl0 hg
 unfold ca_Read.f at h
 by_cases hlong : 200 < s.size
 · rw [if_pos hlong] at h
   subst hz
   simp at h
 · rw [if_neg hlong] at h
   have hd : decide ((200 : Int) < (s.size : Int)) = false := decide_eq_false (by omega)
   have HSS := am (show s.size ≤ 1000 by omega)
   obtain ⟨x,hx⟩ : ∃ x,parsedF s = x := ⟨_,rfl⟩
   rw [hx] at h
   have HX := am hx
   clear hx hlong
   cases x with
   | none =>
    subst hz
    simp at h
   | some x =>
    dsimp only at h
    obtain ⟨t,ht,h2⟩ := obm h
    clear h
    have HT := am ht
    clear ht
    cases t with
    | false =>
     rw [if_neg (by decide)] at h2
     subst hz
     simp at h2
    | true =>
     rw [if_pos rfl] at h2
     simp only [Option.some.injEq,Prod.mk.injEq] at h2
     obtain ⟨rfl,rfl,rfl,rfl,rfl,rfl⟩ := h2
     go_enter Tryz.func53,Tryz.ntmps53
     go_wp2_with (first | ((refine gate_dst (N := 2) rfl ?_);(try (refine gate_guard (by rfl) ?_;dsimp only));refine box_event rfl (N := 2) rfl (cs := #[.slice A0 l0.length c0,.int .i64 d]) (t := 24) ?hr ?_;(case hr => go_simp;try rfl);intro gt hg w1 hbox hb;replace HR := (cmv HR hb);replace HB := (bmv HB hb);replace HG := am (GV.below HG.out hb);clear hg;have BKgt := am hbox;clear hbox;(try clear hczgt_0 hfzgt_0);have hczgt_0 := cO1 BKgt.out;have hfzgt_0 := blk_frozen BKgt.out 0;(try clear hczgt_1 hfzgt_1);have hczgt_1 : w1.cell? ⟨gt,1,none⟩ = some (.int .i64 d) := (blk_cell BKgt.out 1).trans rfl;have hfzgt_1 := blk_frozen BKgt.out 1;clear hb) | ((refine gate_dst (N := 3) rfl ?_);(try (refine gate_guard (by rfl) ?_;dsimp only));refine box_event rfl (N := 3) rfl (cs := #[.string s]) (t := 9) ?hr ?_;(case hr => go_simp;try rfl);intro gs hg w2 hbox hb;replace HR := (cmv HR hb);replace HB := (bmv HB hb);replace HG := am (GV.below HG.out hb);replace BKgt := (kmv hb BKgt);clear hg;have BKgs := am hbox;clear hbox;(try clear hczgt_0 hfzgt_0);have hczgt_0 := cO1 BKgt.out;have hfzgt_0 := blk_frozen BKgt.out 0;(try clear hczgt_1 hfzgt_1);have hczgt_1 : w2.cell? ⟨gt,1,none⟩ = some (.int .i64 d) := (blk_cell BKgt.out 1).trans rfl;have hfzgt_1 := blk_frozen BKgt.out 1;(try clear hczgs_0 hfzgs_0);have hczgs_0 := cO1 BKgs.out;have hfzgs_0 := blk_frozen BKgs.out 0;clear hb) | ((refine gate_dst (N := 4) rfl ?_);(try (refine gate_guard (by rfl) ?_;dsimp only));refine box_event rfl (N := 4) rfl (cs := #[.slice none 0 0,.int .i64 0,.slice none 0 0,.int .i64 0,.int .i64 0]) (t := 27) ?hr ?_;(case hr => go_simp;try rfl);intro gr hg w3 hbox hb;have HNgt_gr := am (show gt ≠ gr by have := blk_lt BKgt.out;omega);have HNgs_gr := am (show gs ≠ gr by have := blk_lt BKgs.out;omega);have Ggr := am (show w.heap.size ≤ gr by have := HB.out.size;omega);replace HR := (cmv HR hb);replace HB := (bmv HB hb);replace HG := am (GV.below HG.out hb);replace BKgt := (kmv hb BKgt);replace BKgs := (kmv hb BKgs);clear hg;have BKgr := am hbox;clear hbox;(try clear hczgt_0 hfzgt_0);have hczgt_0 := cO1 BKgt.out;have hfzgt_0 := blk_frozen BKgt.out 0;(try clear hczgt_1 hfzgt_1);have hczgt_1 : w3.cell? ⟨gt,1,none⟩ = some (.int .i64 d) := (blk_cell BKgt.out 1).trans rfl;have hfzgt_1 := blk_frozen BKgt.out 1;(try clear hczgs_0 hfzgs_0);have hczgs_0 := cO1 BKgs.out;have hfzgs_0 := blk_frozen BKgs.out 0;(try clear hczgr_0 hfzgr_0);have hczgr_0 := cO1 BKgr.out;have hfzgr_0 := blk_frozen BKgr.out 0;(try clear hczgr_1 hfzgr_1);have hczgr_1 : w3.cell? ⟨gr,1,none⟩ = some (.int .i64 0) := (blk_cell BKgr.out 1).trans rfl;have hfzgr_1 := blk_frozen BKgr.out 1;(try clear hczgr_2 hfzgr_2);have hczgr_2 : w3.cell? ⟨gr,2,none⟩ = some (.slice none 0 0) := (blk_cell BKgr.out 2).trans rfl;have hfzgr_2 := blk_frozen BKgr.out 2;(try clear hczgr_3 hfzgr_3);have hczgr_3 : w3.cell? ⟨gr,3,none⟩ = some (.int .i64 0) := (blk_cell BKgr.out 3).trans rfl;have hfzgr_3 := blk_frozen BKgr.out 3;(try clear hczgr_4 hfzgr_4);have hczgr_4 : w3.cell? ⟨gr,4,none⟩ = some (.int .i64 0) := (blk_cell BKgr.out 4).trans rfl;have hfzgr_4 := blk_frozen BKgr.out 4;clear hb) | ((refine gate_dst (N := 6) rfl ?_);(try (refine gate_guard (by rfl) ?_;dsimp only));refine box_event rfl (N := 6) rfl (cs := #[.slice none 0 0,.int .i64 0,.slice none 0 0,.int .i64 0,.int .i64 0]) (t := 27) ?hr ?_;(case hr => go_simp;try rfl);intro gx hg w4 hbox hb;have HNgt_gx := am (show gt ≠ gx by have := blk_lt BKgt.out;omega);have HNgs_gx := am (show gs ≠ gx by have := blk_lt BKgs.out;omega);have HNgr_gx := am (show gr ≠ gx by have := blk_lt BKgr.out;omega);have Ggx := am (show w.heap.size ≤ gx by have := HB.out.size;omega);replace HR := (cmv HR hb);replace HB := (bmv HB hb);replace HG := am (GV.below HG.out hb);replace BKgt := (kmv hb BKgt);replace BKgs := (kmv hb BKgs);replace BKgr := (kmv hb BKgr);clear hg;have BKgx := am hbox;clear hbox;(try clear hczgt_0 hfzgt_0);have hczgt_0 := cO1 BKgt.out;have hfzgt_0 := blk_frozen BKgt.out 0;(try clear hczgt_1 hfzgt_1);have hczgt_1 : w4.cell? ⟨gt,1,none⟩ = some (.int .i64 d) := (blk_cell BKgt.out 1).trans rfl;have hfzgt_1 := blk_frozen BKgt.out 1;(try clear hczgs_0 hfzgs_0);have hczgs_0 := cO1 BKgs.out;have hfzgs_0 := blk_frozen BKgs.out 0;(try clear hczgr_0 hfzgr_0);have hczgr_0 := cO1 BKgr.out;have hfzgr_0 := blk_frozen BKgr.out 0;(try clear hczgr_1 hfzgr_1);have hczgr_1 : w4.cell? ⟨gr,1,none⟩ = some (.int .i64 0) := (blk_cell BKgr.out 1).trans rfl;have hfzgr_1 := blk_frozen BKgr.out 1;(try clear hczgr_2 hfzgr_2);have hczgr_2 : w4.cell? ⟨gr,2,none⟩ = some (.slice none 0 0) := (blk_cell BKgr.out 2).trans rfl;have hfzgr_2 := blk_frozen BKgr.out 2;(try clear hczgr_3 hfzgr_3);have hczgr_3 : w4.cell? ⟨gr,3,none⟩ = some (.int .i64 0) := (blk_cell BKgr.out 3).trans rfl;have hfzgr_3 := blk_frozen BKgr.out 3;(try clear hczgr_4 hfzgr_4);have hczgr_4 : w4.cell? ⟨gr,4,none⟩ = some (.int .i64 0) := (blk_cell BKgr.out 4).trans rfl;have hfzgr_4 := blk_frozen BKgr.out 4;(try clear hczgx_0 hfzgx_0);have hczgx_0 := cO1 BKgx.out;have hfzgx_0 := blk_frozen BKgx.out 0;(try clear hczgx_1 hfzgx_1);have hczgx_1 : w4.cell? ⟨gx,1,none⟩ = some (.int .i64 0) := (blk_cell BKgx.out 1).trans rfl;have hfzgx_1 := blk_frozen BKgx.out 1;(try clear hczgx_2 hfzgx_2);have hczgx_2 : w4.cell? ⟨gx,2,none⟩ = some (.slice none 0 0) := (blk_cell BKgx.out 2).trans rfl;have hfzgx_2 := blk_frozen BKgx.out 2;(try clear hczgx_3 hfzgx_3);have hczgx_3 : w4.cell? ⟨gx,3,none⟩ = some (.int .i64 0) := (blk_cell BKgx.out 3).trans rfl;have hfzgx_3 := blk_frozen BKgx.out 3;(try clear hczgx_4 hfzgx_4);have hczgx_4 : w4.cell? ⟨gx,4,none⟩ = some (.int .i64 0) := (blk_cell BKgx.out 4).trans rfl;have hfzgx_4 := blk_frozen BKgx.out 4;clear hb;have HNrx := am (show gr ≠ gx by have h1 := HNgr_gx.out;exact h1)) | (go_at_call 70;refine (attempt_Read_ok gt gs gx (ReadI w gx gr w4.heap.size l0 d x.2.2 x.1 x.2.1) w4 (Read1_ok w _ gt gs gx gr w4.heap.size A0 c0 l0 d s (below_alloc HB.out _) Ggx.out HNrx.out (blk_alloc BKgt.out _) (blk_alloc BKgs.out _) (blk_alloc BKgx.out _) (blk_alloc BKgr.out _) (blk_new w4 _) (Kd.C_alloc HR.out _) HC.out HL.out HSS.out (GV.below HG.out (below_alloc (Below.refl _ _) _)) x.1 x.2.1 x.2.2 HX.out) (fun W' hi => by obtain ⟨_,_,_,_,_,_,h3,_⟩ := hi;exact ⟨(blk_cell h3 0).trans rfl,blk_frozen h3 0⟩)).mono ?_;rintro e w5 ⟨rfl,W',hI,rfl⟩;obtain ⟨A1,c1,A2,c2,b1,b2,b3,R1_,R2_,hb⟩ := hI;have Ge := am (show w.heap.size ≤ w4.heap.size from HB.out.size);have m1 := am (blk_far (p := ⟨w4.heap.size,0,none⟩) b1 (blk_ne b1 b3 (by decide)) (.int .i64 0));have m2 := am (blk_far (p := ⟨w4.heap.size,0,none⟩) b2 (blk_ne b2 b3 (by decide)) (.int .i64 0));have m3 := am (Kd.R_set R1_ b3 (by decide) 0 (.int .i64 0));have m4 := am (Kd.R_set R2_ b3 (by decide) 0 (.int .i64 0));have m5 := am (below_set (j := 0) (v := .int .i64 0) hb Ge.out);clear b1 b2 b3 R1_ R2_ hb;generalize W'.setCell ⟨w4.heap.size,0,none⟩ (.int .i64 0) = w6 at m1 m2 m3 m4 m5 ⊢;(try clear hczgx_0 hfzgx_0 hczgx_1 hfzgx_1 hczgx_2 hfzgx_2 hczgx_3 hfzgx_3 hczgx_4 hfzgx_4);have hczgx_0 := cO1 m1.out;have hfzgx_0 := blk_frozen m1.out 0;have hczgx_1 : w6.cell? ⟨gx,1,none⟩ = some (.int .i64 d) := (blk_cell m1.out 1).trans rfl;have hfzgx_1 := blk_frozen m1.out 1;have hczgx_2 : w6.cell? ⟨gx,2,none⟩ = some (.slice A2 x.2.2.length c2) := (blk_cell m1.out 2).trans rfl;have hfzgx_2 := blk_frozen m1.out 2;have hczgx_3 : w6.cell? ⟨gx,3,none⟩ = some (.int .i64 x.1) := (blk_cell m1.out 3).trans rfl;have hfzgx_3 := blk_frozen m1.out 3;have hczgx_4 : w6.cell? ⟨gx,4,none⟩ = some (.int .i64 x.2.1) := (blk_cell m1.out 4).trans rfl;have hfzgx_4 := blk_frozen m1.out 4;(try clear hczgr_0 hfzgr_0 hczgr_1 hfzgr_1 hczgr_2 hfzgr_2 hczgr_3 hfzgr_3 hczgr_4 hfzgr_4);have hczgr_0 := cO1 m2.out;have hfzgr_0 := blk_frozen m2.out 0;have hczgr_1 : w6.cell? ⟨gr,1,none⟩ = some (.int .i64 0) := (blk_cell m2.out 1).trans rfl;have hfzgr_1 := blk_frozen m2.out 1;have hczgr_2 : w6.cell? ⟨gr,2,none⟩ = some (.slice none 0 0) := (blk_cell m2.out 2).trans rfl;have hfzgr_2 := blk_frozen m2.out 2;have hczgr_3 : w6.cell? ⟨gr,3,none⟩ = some (.int .i64 0) := (blk_cell m2.out 3).trans rfl;have hfzgr_3 := blk_frozen m2.out 3;have hczgr_4 : w6.cell? ⟨gr,4,none⟩ = some (.int .i64 0) := (blk_cell m2.out 4).trans rfl;have hfzgr_4 := blk_frozen m2.out 4) | (go_at_call 57;(with_reducible refine (ca_isBasin.calls A1 c1 l0 d A2 c2 x.2.2 x.1 x.2.1 true _ (Kd.R_reads' m3.out).2.2 (Kd.R_reads' m3.out).2.1 (Kd.R_reads' m4.out).2.2 (Kd.R_reads' m4.out).2.1 HT.out).mono ?_);rintro e w7 ⟨rfl,hb⟩;have n1 := (kmv hb m1);have n2 := (kmv hb m2);have n3 := am (Kd.R_below m3.out hb);have n4 := am (Kd.R_below m4.out hb);have n5 := am (below_then m5.out m5.out.size hb);clear hb m1 m2 m3 m4 m5;(try clear hczgx_0 hfzgx_0 hczgx_1 hfzgx_1 hczgx_2 hfzgx_2 hczgx_3 hfzgx_3 hczgx_4 hfzgx_4);have hczgx_0 := cO1 n1.out;have hfzgx_0 := blk_frozen n1.out 0;have hczgx_1 : w7.cell? ⟨gx,1,none⟩ = some (.int .i64 d) := (blk_cell n1.out 1).trans rfl;have hfzgx_1 := blk_frozen n1.out 1;have hczgx_2 : w7.cell? ⟨gx,2,none⟩ = some (.slice A2 x.2.2.length c2) := (blk_cell n1.out 2).trans rfl;have hfzgx_2 := blk_frozen n1.out 2;have hczgx_3 : w7.cell? ⟨gx,3,none⟩ = some (.int .i64 x.1) := (blk_cell n1.out 3).trans rfl;have hfzgx_3 := blk_frozen n1.out 3;have hczgx_4 : w7.cell? ⟨gx,4,none⟩ = some (.int .i64 x.2.1) := (blk_cell n1.out 4).trans rfl;have hfzgx_4 := blk_frozen n1.out 4;(try clear hczgr_0 hfzgr_0 hczgr_1 hfzgr_1 hczgr_2 hfzgr_2 hczgr_3 hfzgr_3 hczgr_4 hfzgr_4);have hczgr_0 := cO1 n2.out;have hfzgr_0 := blk_frozen n2.out 0;have hczgr_1 : w7.cell? ⟨gr,1,none⟩ = some (.int .i64 0) := (blk_cell n2.out 1).trans rfl;have hfzgr_1 := blk_frozen n2.out 1;have hczgr_2 : w7.cell? ⟨gr,2,none⟩ = some (.slice none 0 0) := (blk_cell n2.out 2).trans rfl;have hfzgr_2 := blk_frozen n2.out 2;have hczgr_3 : w7.cell? ⟨gr,3,none⟩ = some (.int .i64 0) := (blk_cell n2.out 3).trans rfl;have hfzgr_3 := blk_frozen n2.out 3;have hczgr_4 : w7.cell? ⟨gr,4,none⟩ = some (.int .i64 0) := (blk_cell n2.out 4).trans rfl;have hfzgr_4 := blk_frozen n2.out 4))
     refine bodyPost_ret (results_ct rfl _ _ gr 27 #[.slice A1 l0.length c1,.int .i64 d,.slice A2 x.2.2.length c2,.int .i64 x.1,.int .i64 x.2.1] (0,0) _ rfl ((blk_set (blk_set (blk_set (blk_set (blk_set n2.out 0 _) 1 _) 2 _) 3 _) 4 _).trans rfl) Tryz.underlying27 rfl (by kernel_rfl)) rfl ?_
     exact ⟨_,_,rfl,(Kd.R_set (Kd.R_set (Kd.R_set (Kd.R_set (Kd.R_set n3.out n2.out (by decide) 0 (.slice A1 l0.length c1)) (blk_set n2.out 0 (.slice A1 l0.length c1)) (by decide) 1 (.int .i64 d)) (blk_set (blk_set n2.out 0 (.slice A1 l0.length c1)) 1 (.int .i64 d)) (by decide) 2 (.slice A2 x.2.2.length c2)) (blk_set (blk_set (blk_set n2.out 0 (.slice A1 l0.length c1)) 1 (.int .i64 d)) 2 (.slice A2 x.2.2.length c2)) (by decide) 3 (.int .i64 x.1)) (blk_set (blk_set (blk_set (blk_set n2.out 0 (.slice A1 l0.length c1)) 1 (.int .i64 d)) 2 (.slice A2 x.2.2.length c2)) 3 (.int .i64 x.1)) (by decide) 4 (.int .i64 x.2.1)),(Kd.R_set (Kd.R_set (Kd.R_set (Kd.R_set (Kd.R_set n4.out n2.out (by decide) 0 (.slice A1 l0.length c1)) (blk_set n2.out 0 (.slice A1 l0.length c1)) (by decide) 1 (.int .i64 d)) (blk_set (blk_set n2.out 0 (.slice A1 l0.length c1)) 1 (.int .i64 d)) (by decide) 2 (.slice A2 x.2.2.length c2)) (blk_set (blk_set (blk_set n2.out 0 (.slice A1 l0.length c1)) 1 (.int .i64 d)) 2 (.slice A2 x.2.2.length c2)) (by decide) 3 (.int .i64 x.1)) (blk_set (blk_set (blk_set (blk_set n2.out 0 (.slice A1 l0.length c1)) 1 (.int .i64 d)) 2 (.slice A2 x.2.2.length c2)) 3 (.int .i64 x.1)) (by decide) 4 (.int .i64 x.2.1)),(below_set (below_set (below_set (below_set (below_set n5.out Ggr.out) Ggr.out) Ggr.out) Ggr.out) Ggr.out)⟩
def flowIn (l1 : List S123) (i cups : Int) (xs : List (List Int)) (ys : List Int) : Option Int :=
 if 0 < i then (if i - 1 < (l1.length : Int) then (if 0 ≤ (rd_T123 l1 (i - 1)).f0 then (if (rd_T123 l1 (i - 1)).f0 < (ys.length : Int) then (if 0 ≤ (rd_T123 l1 (i - 1)).f1 then (if (rd_T123 l1 (i - 1)).f0 < (xs.length : Int) then (if (rd_T123 l1 (i - 1)).f1 < ((rd_L3 xs (rd_T123 l1 (i - 1)).f0).length : Int) then some (rd (rd_L3 xs (rd_T123 l1 (i - 1)).f0) (rd_T123 l1 (i - 1)).f1) else none) else none) else some (rd ys (rd_T123 l1 (i - 1)).f0)) else none) else none) else none) else some cups
def flowGo (k : Nat) (l1 : List S123) : List S99 → Int → Int → List (List Int) → List Int → Option (List (List Int) × List Int)
 | [],_,_,xs,ys => some (xs,ys)
 | x :: rest,i,cups,xs,ys => (flowIn l1 i cups xs ys).bind fun c => (gf_shares.f k x.f0.f0.f0 x.f0.f0.f1 x.f0.f1 x.f0.f2 x.f0.f3 x.f1 c).bind fun t => if xs.length < 5864062014805 then (if ys.length < 17592186044416 then flowGo k l1 rest (i + 1) c (xs ++ [t.1]) (ys ++ [t.2]) else none) else none
def ca_flow.f (k : Nat) (l0 : List S99) (l1 : List S123) (a2 : Int) : Option (List (List Int) × List Int) := flowGo k l1 l0 0 a2 [] []
theorem infoInts : (Tryz.prog.info? 30).map (fun i => (i.zero,i.size,i.bytes)) = some (some (.slice none 0 0),1,24) := by kernel_rfl
theorem infoInt : (Tryz.prog.info? 3).map (fun i => (i.zero,i.size,i.bytes)) = some (some (.int .i64 0),1,8) := by kernel_rfl
theorem N_after9 {d : Kd (List Int)} {e base : Nat} {W w1 : World} {u v v1 : Value} {xs : List (List Int)} (h : Kd.N d e W base (fun k => some k ≠ v.ownBlock) u xs) (hg : W.grownBy w1 v.ownBlock) (hat : v1.ownBlock = v.ownBlock ∨ ∃ b,v1.ownBlock = some b ∧ W.heap.size ≤ b) : Kd.N d e w1 base (fun k => some k ≠ v1.ownBlock) u xs :=
 Kd.N_mono (Kd.N_afterv (ok := fun _ => True) (Kd.N_mono h (fun _ hk => ⟨trivial,hk⟩)) hg hat) (fun _ hk => hk.2)
theorem rowFK {wc : World} {n : Nat} {A5 : Option Addr} {c5 : Nat} {l : List Int} (hr : (Kd.int .i64).R 3 wc n (fun _ => True) (.slice A5 l.length c5) l) :
 Kd.FK (Kd.slice 3 (Kd.int .i64)) wc (fun k => n ≤ k) l [.slice A5 l.length c5] := fun W' hW => ⟨A5,c5,rfl,(Kd.R_reads' hr).2.1,Kd.R_F (Kd.R_mono (Kd.R_bound hr) (fun _ hk => hk.2.1)) W' hW⟩
theorem ca_flow.calls (k : Nat) (A0 : Option Addr) (c0 : Nat) (l0 : List S99) (A1 : Option Addr) (c1 : Nat) (l1 : List S123) (a2 : Int) (r1 : List (List Int)) (r2 : List Int) (w : World) (hr0 : Kd.C k99 w A0 l0.length l0) (hr1 : Kd.C k123 w A1 l1.length l1) (h : ca_flow.f k l0 l1 a2 = some (r1,r2)) :
 Calls Tryz.prog 87 #[.slice A0 l0.length c0,.slice A1 l1.length c1,.int .i64 a2] w fun e w' => ∃ v0_ v1_ : Value,e = .returned (.tuple #[v0_,v1_]) ∧ Kd.N (Kd.slice 3 (Kd.int .i64)) 30 w' w.heap.size (fun k_ => some k_ ≠ (v1_ : Value).ownBlock) v0_ r1 ∧ Kd.R (Kd.int .i64) 3 w' w.heap.size (fun _ => True) v1_ r2 ∧ Below w.heap.size w w' := by
 have huf := Tryz.underlying99
 have huF := Tryz.underlying123
 have HM := am (Kd.C_max hr0)
 have HR0 := am hr0
 have HR1 := am hr1
 have HB := am (Below.refl w.heap.size w)
 have HQ := am h
 clear hr0 hr1 h
 go_enter Tryz.func87,Tryz.ntmps87
 go_wp2
 go_loopw [2,8,9,17] (fun v2 v8 v9 v17 w' => ∃ (cups i : Int) (xs : List (List Int)) (ys : List Int),0 ≤ i ∧ i ≤ l0.length ∧ v2 = .int .i64 cups ∧ v17 = .int .i64 i ∧ Aside0 (flowGo k l1 (l0.drop i.toNat) i cups xs ys = some (r1,r2)) ∧ Aside0 (Kd.N (Kd.slice 3 (Kd.int .i64)) 30 w' w.heap.size (fun k_ => some k_ ≠ (v9 : Value).ownBlock) v8 xs) ∧ Aside0 (Kd.R (Kd.int .i64) 3 w' w.heap.size (fun _ => True) v9 ys) ∧ Aside0 (Below w.heap.size w w')) (fun _ _ _ v17 _ => l0.length - (intOf v17).toNat)
 case atStart => exact ⟨a2,0,[],[],by omega,by omega,rfl,rfl,HQ,⟨Kd.N_nil _ _ _ _ _⟩,⟨Kd.R_nil _ _ _ _ _⟩,HB⟩
 case round =>
  clear HQ HB
  obtain ⟨cups,i,xs,ys,p1,hi,rfl,rfl,HQ,HS,HO,HB⟩ := hrel
  have hm := HM.out
  by_cases hlt : i < (l0.length : Int)
  case neg =>
   go_wp2
   go_ret2
   have hq := HQ.out
   rw [List.drop_of_length_le (by omega)] at hq
   simp only [flowGo,Option.some.injEq,Prod.mk.injEq] at hq
   obtain ⟨rfl,rfl⟩ := hq
   exact ⟨_,_,rfl,HS.out,HO.out,HB.out⟩
  obtain ⟨ad,A0_,c0_,A2,c2,A5,c5,e1,hx0,hx1,hx2,hx3,hx4,hx5,hl0,hi0,hl2,hi2,hl5,hi5⟩ := at_T99 HR0.out i p1 hlt
  cases e1
  replace hx0 := (HB.out.cell (wbl hx0)).trans hx0
  replace hx1 := (HB.out.cell (wbl hx1)).trans hx1
  replace hx2 := (HB.out.cell (wbl hx2)).trans hx2
  replace hx3 := (HB.out.cell (wbl hx3)).trans hx3
  replace hx4 := (HB.out.cell (wbl hx4)).trans hx4
  replace hx5 := (HB.out.cell (wbl hx5)).trans hx5
  have hq := HQ.out
  rw [drop_at z99 l0 i p1 hlt,show l0.getD i.toNat z99 = rd_T99 l0 i from rfl] at hq
  simp only [flowGo] at hq
  generalize rd_T99 l0 i = x at *
  obtain ⟨c,hc,hq⟩ := obm hq
  obtain ⟨⟨t1,t2⟩,ht,hq⟩ := obm hq
  have HT := am ht
  clear ht HQ
  dsimp only at hq
  by_cases hn1 : xs.length < 5864062014805
  case neg => rw [if_neg hn1] at hq;cases hq
  rw [if_pos hn1] at hq
  by_cases hn2 : ys.length < 17592186044416
  case neg => rw [if_neg hn2] at hq;cases hq
  rw [if_pos hn2] at hq
  have HQ := am hq
  have HL1 := am hn1
  have HL2 := am hn2
  clear hq hn1 hn2
  have HI0 := am hi0
  have HI2 := am hi2
  have HI5 := am hi5
  have HL0_ := am hl0
  have HL2_ := am hl2
  have HL5_ := am hl5
  clear hi0 hi2 hi5 hl0 hl2 hl5
  obtain ⟨A8,c8,e8⟩ := Kd.N_slice HS.out
  subst e8
  obtain ⟨A9,c9,e9⟩ := Kd.R_slice HO.out
  subst e9
  unfold flowIn at hc
  by_cases hz0 : 0 < i
  case neg =>
   rw [if_neg hz0] at hc
   have hd0 : decide (0 < i) = false := decide_eq_false hz0
   obtain rfl := Option.some.inj hc
   clear hc
   go_wp2_with (first | ((refine gate_dst (N := 11) rfl ?_);refine box_event rfl (N := 11) rfl (cs := #[.slice none 0 0,.int .i64 0,.slice none 0 0,.int .i64 0,.int .i64 0,.slice none 0 0]) (t := 99) ?hr ?_;(case hr => go_simp;try rfl);intro ga hg w2 hbox hb;have GA := am (show w.heap.size ≤ ga by have := HB.out.size;omega);have GA2 := am (Nat.le_of_eq hg.symm);have NB := am hb;have n3 := (bmv HB hb);have BKga := am hbox;clear hg hb hbox HB;have HB := n3;clear n3;have hczga_0 := cO1 BKga.out;have hfzga_0 := blk_frozen BKga.out 0;have hczga_1 : w2.cell? ⟨ga,1,none⟩ = some (.int .i64 0) := (blk_cell BKga.out 1).trans rfl;have hfzga_1 := blk_frozen BKga.out 1;have hczga_2 : w2.cell? ⟨ga,2,none⟩ = some (.slice none 0 0) := (blk_cell BKga.out 2).trans rfl;have hfzga_2 := blk_frozen BKga.out 2;have hczga_3 : w2.cell? ⟨ga,3,none⟩ = some (.int .i64 0) := (blk_cell BKga.out 3).trans rfl;have hfzga_3 := blk_frozen BKga.out 3;have hczga_4 : w2.cell? ⟨ga,4,none⟩ = some (.int .i64 0) := (blk_cell BKga.out 4).trans rfl;have hfzga_4 := blk_frozen BKga.out 4;have hczga_5 : w2.cell? ⟨ga,5,none⟩ = some (.slice none 0 0) := (blk_cell BKga.out 5).trans rfl;have hfzga_5 := blk_frozen BKga.out 5) | ((with_reducible refine gate_store (t := 99) (p := 11) rfl ?_);refine skip_abs (fun W' => W'.heap[ga]? = some (.cells #[.slice A0_ x.f0.f0.f0.length c0_,.int .i64 x.f0.f0.f1,.slice A2 x.f0.f1.length c2,.int .i64 x.f0.f2,.int .i64 x.f0.f3,.slice A5 x.f1.length c5] 99 (0,0)) ∧ Below wr.heap.size wr W' ∧ Below w.heap.size w W') ?hg ?hd ?hr ⟨(blk_set (blk_set (blk_set (blk_set (blk_set (blk_set BKga.out 0 _) 1 _) 2 _) 3 _) 4 _) 5 _).trans rfl,(below_set (below_set (below_set (below_set (below_set (below_set NB.out GA2.out) GA2.out) GA2.out) GA2.out) GA2.out) GA2.out),(below_set (below_set (below_set (below_set (below_set (below_set HB.out GA.out) GA.out) GA.out) GA.out) GA.out) GA.out)⟩ ?_;(case hg => rfl);(case hd => rfl);(case hr => go_simp;try rfl);rintro w4 ⟨k1,k2,k3⟩;(try clear hczga_0 hczga_1 hczga_2 hczga_3 hczga_4 hczga_5);(try clear hfzga_0 hfzga_1 hfzga_2 hfzga_3 hfzga_4 hfzga_5);clear BKga NB HB;have BKga := am k1;have NB := am k2;have HB := am k3;clear k1 k2 k3;obtain ⟨hczga_0,hczga_1,hczga_2,hczga_3,hczga_4,hczga_5⟩ := cO6 BKga.out) | (go_at_call 60;(refine (gf_shares.calls k A0_ c0_ x.f0.f0.f0 x.f0.f0.f1 A2 c2 x.f0.f1 x.f0.f2 x.f0.f3 A5 c5 x.f1 cups t1 t2 _ (kC HI0.out HB.out) HL0_.out (kC HI2.out HB.out) HL2_.out (kC HI5.out HB.out) HL5_.out HT.out).mono ?_);rintro e wc ⟨v0_,rfl,hr,hb⟩;have n1 := (bmv HB hb);have n2 := am (below_then NB.out NB.out.size hb);have HV := am (Kd.R_lower hr NB.out.size);(try clear hczga_0 hczga_1 hczga_2 hczga_3 hczga_4 hczga_5);(try clear hfzga_0 hfzga_1 hfzga_2 hfzga_3 hfzga_4 hfzga_5);(try clear hczgb_0 hczgb_1);(try clear hfzgb_0 hfzgb_1);(try clear hy);(try clear hz);(try clear hz2);(try clear BKgb);clear HB NB hb hr BKga;have HB := n1;have NB := n2;clear n1 n2;obtain ⟨A6,c6,e6⟩ := Kd.R_slice HV.out;subst e6;have HS2 := am (Kd.N_below HS.out NB.out);have HO2 := am (Kd.R_below HO.out NB.out);have HLT := am (show ∀ k,(.slice A8 xs.length c8 : Value).ownBlock = some k ∨ (.slice A9 ys.length c9 : Value).ownBlock = some k → k < wr.heap.size from fun k hk => hk.elim (Kd.N_lt HS.out k) (Kd.R_lt HO.out k))) | ((with_reducible refine gate_builtin (b := .append) (xs := #[.tmp 52,.tmp 54]) rfl ?_);at_builtin;refine Kd.N_append (Kd.slice 3 (Kd.int .i64)) (w0 := w) w.heap.size rfl (.tmp 52) (.tmp 54) 83 30 (.slice none 0 0) 24 rfl Tryz.underlying83 infoInts rfl (by decide) (by omega) (.slice A8 xs.length c8) xs t1 [.slice A6 t1.length c6] (fun k_ => some k_ ≠ (.slice A9 ys.length c9 : Value).ownBlock) (fun k => wr.heap.size ≤ k) rfl rfl ?aP ?aK ?aF HS2.out HB.out HB.out.size ?aL ?_;(case aP => exact rowFK HV.out);(case aK => exact fun k hk => ⟨fun he => by have := HLT.out k (.inr he.symm);omega,fun he => by have := HLT.out k (.inl he.symm);omega⟩);(case aF => exact fun k hk he => by have := Kd.R_lt HO2.out k he.symm;omega);(case aL => have := HL1.out;omega);intro v1 w7 ho hb hg hat;have n1 := am ho;have n2 := am hb;have n3 := am (Kd.R_grown2 HO2.out rfl hg (fun k hk => HS2.out.1 k hk));clear ho hb hg hat HB HS2 HO2 HLT HV NB;have HS2 := n1;have HB := n2;have HO2 := n3;clear n1 n2 n3) | ((with_reducible refine gate_builtin (b := .append) (xs := #[.tmp 56,.tmp 58]) rfl ?_);at_builtin;refine Kd.R_append (Kd.int .i64) (w0 := w) w.heap.size rfl (.tmp 56) (.tmp 58) 30 3 (.int .i64 0) 8 rfl Tryz.underlying30 infoInt rfl (by decide) (by omega) (.slice A9 ys.length c9) ys t2 [.int .i64 t2] (fun _ => True) (fun _ => False) rfl rfl ?aP (fun _ hk => hk.elim) (fun _ _ => trivial) HO2.out HB.out HB.out.size ?aL ?_;(case aP => exact rfl);(case aL => have := HL2.out;omega);intro v2 w8 ho hb hg hat;have n1 := am ho;have n2 := am hb;have n3 := am (N_after9 HS2.out hg hat);clear ho hb hg hat HB HS2 HO2;have HO2 := n1;have HB := n2;have HS2 := n3;clear n1 n2 n3))
   go_roundw
   case rel => exact ⟨cups,i + 1,xs ++ [t1],ys ++ [t2],by omega,by omega,rfl,by go_num,HQ,HS2,HO2,HB⟩
   case measure => simp [intOf];omega
  rw [if_pos hz0] at hc
  have hd0 : decide (0 < i) = true := decide_eq_true hz0
  have hw1 : IntKind.i64.wrap (i - 1) = i - 1 := (i64_w _).trans (by unfold wrap64;omega)
  obtain ⟨j,hj⟩ : ∃ j : Int,i - 1 = j := ⟨_,rfl⟩
  rw [hj] at hw1 hc
  have hj0 : 0 ≤ j := by omega
  by_cases hj1 : j < (l1.length : Int)
  case neg => rw [if_neg hj1] at hc;cases hc
  rw [if_pos hj1] at hc
  obtain ⟨adf,ef,hf0,hf1⟩ := at_T123 HR1.out j hj0 hj1
  cases ef
  have HF0 := am hf0
  have HF1 := am hf1
  clear hf0 hf1
  generalize hfb : (rd_T123 l1 j).f0 = fb at *
  generalize hfn : (rd_T123 l1 j).f1 = fn at *
  clear hfb hfn
  by_cases h20 : 0 ≤ fb
  case neg => rw [if_neg h20] at hc;cases hc
  rw [if_pos h20] at hc
  by_cases h21 : fb < (ys.length : Int)
  case neg => rw [if_neg h21] at hc;cases hc
  rw [if_pos h21] at hc
  obtain ⟨ad9,e9,hy⟩ := Kd.at_int (Kd.R_reads' HO.out).2.2 fb h20 h21
  cases e9
  have HY := am hy
  clear hy
  by_cases h22 : 0 ≤ fn
  case neg =>
   rw [if_neg h22] at hc
   have hd1 : decide (0 ≤ fn) = false := decide_eq_false h22
   obtain rfl := Option.some.inj hc
   clear hc
   go_wp2_with (first | ((refine gate_dst (N := 11) rfl ?_);refine box_event rfl (N := 11) rfl (cs := #[.slice none 0 0,.int .i64 0,.slice none 0 0,.int .i64 0,.int .i64 0,.slice none 0 0]) (t := 99) ?hr ?_;(case hr => go_simp;try rfl);intro ga hg w2 hbox hb;have GA := am (show w.heap.size ≤ ga by have := HB.out.size;omega);have GA2 := am (Nat.le_of_eq hg.symm);have NB := am hb;have n3 := (bmv HB hb);have BKga := am hbox;clear hg hb hbox HB;have HB := n3;clear n3;have hczga_0 := cO1 BKga.out;have hfzga_0 := blk_frozen BKga.out 0;have hczga_1 : w2.cell? ⟨ga,1,none⟩ = some (.int .i64 0) := (blk_cell BKga.out 1).trans rfl;have hfzga_1 := blk_frozen BKga.out 1;have hczga_2 : w2.cell? ⟨ga,2,none⟩ = some (.slice none 0 0) := (blk_cell BKga.out 2).trans rfl;have hfzga_2 := blk_frozen BKga.out 2;have hczga_3 : w2.cell? ⟨ga,3,none⟩ = some (.int .i64 0) := (blk_cell BKga.out 3).trans rfl;have hfzga_3 := blk_frozen BKga.out 3;have hczga_4 : w2.cell? ⟨ga,4,none⟩ = some (.int .i64 0) := (blk_cell BKga.out 4).trans rfl;have hfzga_4 := blk_frozen BKga.out 4;have hczga_5 : w2.cell? ⟨ga,5,none⟩ = some (.slice none 0 0) := (blk_cell BKga.out 5).trans rfl;have hfzga_5 := blk_frozen BKga.out 5) | ((with_reducible refine gate_store (t := 99) (p := 11) rfl ?_);refine skip_abs (fun W' => W'.heap[ga]? = some (.cells #[.slice A0_ x.f0.f0.f0.length c0_,.int .i64 x.f0.f0.f1,.slice A2 x.f0.f1.length c2,.int .i64 x.f0.f2,.int .i64 x.f0.f3,.slice A5 x.f1.length c5] 99 (0,0)) ∧ Below wr.heap.size wr W' ∧ Below w.heap.size w W') ?hg ?hd ?hr ⟨(blk_set (blk_set (blk_set (blk_set (blk_set (blk_set BKga.out 0 _) 1 _) 2 _) 3 _) 4 _) 5 _).trans rfl,(below_set (below_set (below_set (below_set (below_set (below_set NB.out GA2.out) GA2.out) GA2.out) GA2.out) GA2.out) GA2.out),(below_set (below_set (below_set (below_set (below_set (below_set HB.out GA.out) GA.out) GA.out) GA.out) GA.out) GA.out)⟩ ?_;(case hg => rfl);(case hd => rfl);(case hr => go_simp;try rfl);rintro w4 ⟨k1,k2,k3⟩;(try clear hczga_0 hczga_1 hczga_2 hczga_3 hczga_4 hczga_5);(try clear hfzga_0 hfzga_1 hfzga_2 hfzga_3 hfzga_4 hfzga_5);clear BKga NB HB;have BKga := am k1;have NB := am k2;have HB := am k3;clear k1 k2 k3;obtain ⟨hczga_0,hczga_1,hczga_2,hczga_3,hczga_4,hczga_5⟩ := cO6 BKga.out;have hf0 : w4.cell? _ = _ := (HB.out.cell (wbl HF0.out)).trans HF0.out;have hf1 : w4.cell? _ = _ := (HB.out.cell (wbl HF1.out)).trans HF1.out) | ((refine gate_dst (N := 12) rfl ?_);refine box_event rfl (N := 12) rfl (cs := #[.int .i64 0,.int .i64 0]) (t := 123) ?hr ?_;(case hr => go_simp;try rfl);intro gb hg w5 hbox hb;have HNab := am (show ga ≠ gb by have := blk_lt BKga.out;omega);have GB := am (show w.heap.size ≤ gb by have := HB.out.size;omega);have GB2 := am (show wr.heap.size ≤ gb by have := NB.out.size;omega);have n1 := (kmv hb BKga);have n2 := am (below_then NB.out NB.out.size hb);have n3 := (bmv HB hb);have BKgb := am hbox;(try clear hczga_0 hczga_1 hczga_2 hczga_3 hczga_4 hczga_5);(try clear hfzga_0 hfzga_1 hfzga_2 hfzga_3 hfzga_4 hfzga_5);(try clear hf0 hf1);clear hg hb hbox HB NB BKga;have BKga := n1;have NB := n2;have HB := n3;clear n1 n2 n3;have hczgb_0 := cO1 BKgb.out;have hfzgb_0 := blk_frozen BKgb.out 0;have hczgb_1 : w5.cell? ⟨gb,1,none⟩ = some (.int .i64 0) := (blk_cell BKgb.out 1).trans rfl;have hfzgb_1 := blk_frozen BKgb.out 1;have hf0 : w5.cell? _ = _ := (HB.out.cell (wbl HF0.out)).trans HF0.out;have hf1 : w5.cell? _ = _ := (HB.out.cell (wbl HF1.out)).trans HF1.out) | ((with_reducible refine gate_store (t := 123) (p := 12) rfl ?_);refine skip_abs (fun W' => W'.heap[ga]? = some (.cells #[.slice A0_ x.f0.f0.f0.length c0_,.int .i64 x.f0.f0.f1,.slice A2 x.f0.f1.length c2,.int .i64 x.f0.f2,.int .i64 x.f0.f3,.slice A5 x.f1.length c5] 99 (0,0)) ∧ W'.heap[gb]? = some (.cells #[.int .i64 fb,.int .i64 fn] 123 (0,0)) ∧ Below wr.heap.size wr W' ∧ Below w.heap.size w W') ?hg ?hd ?hr ⟨(obj_far (p := ⟨gb,1,none⟩) (obj_far (p := ⟨gb,0,none⟩) BKga.out HNab.out (.int .i64 fb)) HNab.out (.int .i64 fn)),(blk_set (blk_set BKgb.out 0 _) 1 _).trans rfl,(below_set (below_set NB.out GB2.out) GB2.out),(below_set (below_set HB.out GB.out) GB.out)⟩ ?_;(case hg => rfl);(case hd => rfl);(case hr => go_simp;try rfl);rintro w6 ⟨k1,k4,k2,k3⟩;(try clear hczga_0 hczga_1 hczga_2 hczga_3 hczga_4 hczga_5);(try clear hfzga_0 hfzga_1 hfzga_2 hfzga_3 hfzga_4 hfzga_5);(try clear hczgb_0 hczgb_1);(try clear hfzgb_0 hfzgb_1);(try clear hf0 hf1);clear BKga BKgb NB HB;have BKga := am k1;have BKgb := am k4;have NB := am k2;have HB := am k3;clear k1 k2 k3 k4;obtain ⟨hczga_0,hczga_1,hczga_2,hczga_3,hczga_4,hczga_5⟩ := cO6 BKga.out;obtain ⟨hczgb_0,hczgb_1⟩ := cO2 BKgb.out;have hy := (NB.out.cell (World.block_lt_of_cell? wr _ HY.out)).trans HY.out) | (go_at_call 60;(refine (gf_shares.calls k A0_ c0_ x.f0.f0.f0 x.f0.f0.f1 A2 c2 x.f0.f1 x.f0.f2 x.f0.f3 A5 c5 x.f1 (rd ys fb) t1 t2 _ (kC HI0.out HB.out) HL0_.out (kC HI2.out HB.out) HL2_.out (kC HI5.out HB.out) HL5_.out HT.out).mono ?_);rintro e wc ⟨v0_,rfl,hr,hb⟩;have n1 := (bmv HB hb);have n2 := am (below_then NB.out NB.out.size hb);have HV := am (Kd.R_lower hr NB.out.size);(try clear hczga_0 hczga_1 hczga_2 hczga_3 hczga_4 hczga_5);(try clear hfzga_0 hfzga_1 hfzga_2 hfzga_3 hfzga_4 hfzga_5);(try clear hczgb_0 hczgb_1);(try clear hfzgb_0 hfzgb_1);(try clear hy);(try clear hz);(try clear hz2);(try clear BKgb);clear HB NB hb hr BKga;have HB := n1;have NB := n2;clear n1 n2;obtain ⟨A6,c6,e6⟩ := Kd.R_slice HV.out;subst e6;have HS2 := am (Kd.N_below HS.out NB.out);have HO2 := am (Kd.R_below HO.out NB.out);have HLT := am (show ∀ k,(.slice A8 xs.length c8 : Value).ownBlock = some k ∨ (.slice (some ad9) ys.length c9 : Value).ownBlock = some k → k < wr.heap.size from fun k hk => hk.elim (Kd.N_lt HS.out k) (Kd.R_lt HO.out k))) | ((with_reducible refine gate_builtin (b := .append) (xs := #[.tmp 52,.tmp 54]) rfl ?_);at_builtin;refine Kd.N_append (Kd.slice 3 (Kd.int .i64)) (w0 := w) w.heap.size rfl (.tmp 52) (.tmp 54) 83 30 (.slice none 0 0) 24 rfl Tryz.underlying83 infoInts rfl (by decide) (by omega) (.slice A8 xs.length c8) xs t1 [.slice A6 t1.length c6] (fun k_ => some k_ ≠ (.slice (some ad9) ys.length c9 : Value).ownBlock) (fun k => wr.heap.size ≤ k) rfl rfl ?aP ?aK ?aF HS2.out HB.out HB.out.size ?aL ?_;(case aP => exact rowFK HV.out);(case aK => exact fun k hk => ⟨fun he => by have := HLT.out k (.inr he.symm);omega,fun he => by have := HLT.out k (.inl he.symm);omega⟩);(case aF => exact fun k hk he => by have := Kd.R_lt HO2.out k he.symm;omega);(case aL => have := HL1.out;omega);intro v1 w7 ho hb hg hat;have n1 := am ho;have n2 := am hb;have n3 := am (Kd.R_grown2 HO2.out rfl hg (fun k hk => HS2.out.1 k hk));clear ho hb hg hat HB HS2 HO2 HLT HV NB;have HS2 := n1;have HB := n2;have HO2 := n3;clear n1 n2 n3) | ((with_reducible refine gate_builtin (b := .append) (xs := #[.tmp 56,.tmp 58]) rfl ?_);at_builtin;refine Kd.R_append (Kd.int .i64) (w0 := w) w.heap.size rfl (.tmp 56) (.tmp 58) 30 3 (.int .i64 0) 8 rfl Tryz.underlying30 infoInt rfl (by decide) (by omega) (.slice (some ad9) ys.length c9) ys t2 [.int .i64 t2] (fun _ => True) (fun _ => False) rfl rfl ?aP (fun _ hk => hk.elim) (fun _ _ => trivial) HO2.out HB.out HB.out.size ?aL ?_;(case aP => exact rfl);(case aL => have := HL2.out;omega);intro v2 w8 ho hb hg hat;have n1 := am ho;have n2 := am hb;have n3 := am (N_after9 HS2.out hg hat);clear ho hb hg hat HB HS2 HO2;have HO2 := n1;have HB := n2;have HS2 := n3;clear n1 n2 n3))
   go_roundw
   case rel => exact ⟨rd ys fb,i + 1,xs ++ [t1],ys ++ [t2],by omega,by omega,rfl,by go_num,HQ,HS2,HO2,HB⟩
   case measure => simp [intOf];omega
  rw [if_pos h22] at hc
  have hd1 : decide (0 ≤ fn) = true := decide_eq_true h22
  by_cases h23 : fb < (xs.length : Int)
  case neg => rw [if_neg h23] at hc;cases hc
  rw [if_pos h23] at hc
  obtain ⟨ad8,A7,c7,e8,hz,hz_,hzc⟩ := at_L3 (Kd.N_reads' HS.out).2.2 fb h20 h23
  cases e8
  have HZ := am hz
  clear hz
  generalize hrow : rd_L3 xs fb = row at *
  clear hrow
  by_cases h24 : fn < (row.length : Int)
  case neg => rw [if_neg h24] at hc;cases hc
  rw [if_pos h24] at hc
  obtain ⟨adz,ez,hz2⟩ := Kd.at_int hzc fn h22 h24
  cases ez
  have HZ2 := am hz2
  clear hz2 hzc hz_
  obtain rfl := Option.some.inj hc
  clear hc
  go_wp2_with (first | ((refine gate_dst (N := 11) rfl ?_);refine box_event rfl (N := 11) rfl (cs := #[.slice none 0 0,.int .i64 0,.slice none 0 0,.int .i64 0,.int .i64 0,.slice none 0 0]) (t := 99) ?hr ?_;(case hr => go_simp;try rfl);intro ga hg w2 hbox hb;have GA := am (show w.heap.size ≤ ga by have := HB.out.size;omega);have GA2 := am (Nat.le_of_eq hg.symm);have NB := am hb;have n3 := (bmv HB hb);have BKga := am hbox;clear hg hb hbox HB;have HB := n3;clear n3;have hczga_0 := cO1 BKga.out;have hfzga_0 := blk_frozen BKga.out 0;have hczga_1 : w2.cell? ⟨ga,1,none⟩ = some (.int .i64 0) := (blk_cell BKga.out 1).trans rfl;have hfzga_1 := blk_frozen BKga.out 1;have hczga_2 : w2.cell? ⟨ga,2,none⟩ = some (.slice none 0 0) := (blk_cell BKga.out 2).trans rfl;have hfzga_2 := blk_frozen BKga.out 2;have hczga_3 : w2.cell? ⟨ga,3,none⟩ = some (.int .i64 0) := (blk_cell BKga.out 3).trans rfl;have hfzga_3 := blk_frozen BKga.out 3;have hczga_4 : w2.cell? ⟨ga,4,none⟩ = some (.int .i64 0) := (blk_cell BKga.out 4).trans rfl;have hfzga_4 := blk_frozen BKga.out 4;have hczga_5 : w2.cell? ⟨ga,5,none⟩ = some (.slice none 0 0) := (blk_cell BKga.out 5).trans rfl;have hfzga_5 := blk_frozen BKga.out 5) | ((with_reducible refine gate_store (t := 99) (p := 11) rfl ?_);refine skip_abs (fun W' => W'.heap[ga]? = some (.cells #[.slice A0_ x.f0.f0.f0.length c0_,.int .i64 x.f0.f0.f1,.slice A2 x.f0.f1.length c2,.int .i64 x.f0.f2,.int .i64 x.f0.f3,.slice A5 x.f1.length c5] 99 (0,0)) ∧ Below wr.heap.size wr W' ∧ Below w.heap.size w W') ?hg ?hd ?hr ⟨(blk_set (blk_set (blk_set (blk_set (blk_set (blk_set BKga.out 0 _) 1 _) 2 _) 3 _) 4 _) 5 _).trans rfl,(below_set (below_set (below_set (below_set (below_set (below_set NB.out GA2.out) GA2.out) GA2.out) GA2.out) GA2.out) GA2.out),(below_set (below_set (below_set (below_set (below_set (below_set HB.out GA.out) GA.out) GA.out) GA.out) GA.out) GA.out)⟩ ?_;(case hg => rfl);(case hd => rfl);(case hr => go_simp;try rfl);rintro w4 ⟨k1,k2,k3⟩;(try clear hczga_0 hczga_1 hczga_2 hczga_3 hczga_4 hczga_5);(try clear hfzga_0 hfzga_1 hfzga_2 hfzga_3 hfzga_4 hfzga_5);clear BKga NB HB;have BKga := am k1;have NB := am k2;have HB := am k3;clear k1 k2 k3;obtain ⟨hczga_0,hczga_1,hczga_2,hczga_3,hczga_4,hczga_5⟩ := cO6 BKga.out;have hf0 : w4.cell? _ = _ := (HB.out.cell (wbl HF0.out)).trans HF0.out;have hf1 : w4.cell? _ = _ := (HB.out.cell (wbl HF1.out)).trans HF1.out) | ((refine gate_dst (N := 12) rfl ?_);refine box_event rfl (N := 12) rfl (cs := #[.int .i64 0,.int .i64 0]) (t := 123) ?hr ?_;(case hr => go_simp;try rfl);intro gb hg w5 hbox hb;have HNab := am (show ga ≠ gb by have := blk_lt BKga.out;omega);have GB := am (show w.heap.size ≤ gb by have := HB.out.size;omega);have GB2 := am (show wr.heap.size ≤ gb by have := NB.out.size;omega);have n1 := (kmv hb BKga);have n2 := am (below_then NB.out NB.out.size hb);have n3 := (bmv HB hb);have BKgb := am hbox;(try clear hczga_0 hczga_1 hczga_2 hczga_3 hczga_4 hczga_5);(try clear hfzga_0 hfzga_1 hfzga_2 hfzga_3 hfzga_4 hfzga_5);(try clear hf0 hf1);clear hg hb hbox HB NB BKga;have BKga := n1;have NB := n2;have HB := n3;clear n1 n2 n3;have hczgb_0 := cO1 BKgb.out;have hfzgb_0 := blk_frozen BKgb.out 0;have hczgb_1 : w5.cell? ⟨gb,1,none⟩ = some (.int .i64 0) := (blk_cell BKgb.out 1).trans rfl;have hfzgb_1 := blk_frozen BKgb.out 1;have hf0 : w5.cell? _ = _ := (HB.out.cell (wbl HF0.out)).trans HF0.out;have hf1 : w5.cell? _ = _ := (HB.out.cell (wbl HF1.out)).trans HF1.out) | ((with_reducible refine gate_store (t := 123) (p := 12) rfl ?_);refine skip_abs (fun W' => W'.heap[ga]? = some (.cells #[.slice A0_ x.f0.f0.f0.length c0_,.int .i64 x.f0.f0.f1,.slice A2 x.f0.f1.length c2,.int .i64 x.f0.f2,.int .i64 x.f0.f3,.slice A5 x.f1.length c5] 99 (0,0)) ∧ W'.heap[gb]? = some (.cells #[.int .i64 fb,.int .i64 fn] 123 (0,0)) ∧ Below wr.heap.size wr W' ∧ Below w.heap.size w W') ?hg ?hd ?hr ⟨(obj_far (p := ⟨gb,1,none⟩) (obj_far (p := ⟨gb,0,none⟩) BKga.out HNab.out (.int .i64 fb)) HNab.out (.int .i64 fn)),(blk_set (blk_set BKgb.out 0 _) 1 _).trans rfl,(below_set (below_set NB.out GB2.out) GB2.out),(below_set (below_set HB.out GB.out) GB.out)⟩ ?_;(case hg => rfl);(case hd => rfl);(case hr => go_simp;try rfl);rintro w6 ⟨k1,k4,k2,k3⟩;(try clear hczga_0 hczga_1 hczga_2 hczga_3 hczga_4 hczga_5);(try clear hfzga_0 hfzga_1 hfzga_2 hfzga_3 hfzga_4 hfzga_5);(try clear hczgb_0 hczgb_1);(try clear hfzgb_0 hfzgb_1);(try clear hf0 hf1);clear BKga BKgb NB HB;have BKga := am k1;have BKgb := am k4;have NB := am k2;have HB := am k3;clear k1 k2 k3 k4;obtain ⟨hczga_0,hczga_1,hczga_2,hczga_3,hczga_4,hczga_5⟩ := cO6 BKga.out;obtain ⟨hczgb_0,hczgb_1⟩ := cO2 BKgb.out;have hy := (NB.out.cell (World.block_lt_of_cell? wr _ HY.out)).trans HY.out;have hz := (NB.out.cell (World.block_lt_of_cell? wr _ HZ.out)).trans HZ.out;have hz2 := (NB.out.cell (World.block_lt_of_cell? wr _ HZ2.out)).trans HZ2.out))
  go_quiet (fail)
  go_wp2_with (first | (go_at_call 60;(refine (gf_shares.calls k A0_ c0_ x.f0.f0.f0 x.f0.f0.f1 A2 c2 x.f0.f1 x.f0.f2 x.f0.f3 A5 c5 x.f1 (rd row fn) t1 t2 _ (kC HI0.out (pw_below_drewN HB.out _)) HL0_.out (kC HI2.out (pw_below_drewN HB.out _)) HL2_.out (kC HI5.out (pw_below_drewN HB.out _)) HL5_.out HT.out).mono ?_);rintro e wc ⟨v0_,rfl,hr,hb⟩;have n1 := am (below_then (pw_below_drewN HB.out _) (pw_below_drewN HB.out _).size hb);have n2 := am (below_then (pw_below_drewN NB.out _) (pw_below_drewN NB.out _).size hb);have HV := am (Kd.R_lower hr (pw_below_drewN NB.out _).size);(try clear hczga_0 hczga_1 hczga_2 hczga_3 hczga_4 hczga_5);(try clear hfzga_0 hfzga_1 hfzga_2 hfzga_3 hfzga_4 hfzga_5);(try clear hczgb_0 hczgb_1);(try clear hfzgb_0 hfzgb_1);(try clear hy);(try clear hz);(try clear hz2);(try clear BKgb);clear HB NB hb hr BKga;have HB := n1;have NB := n2;clear n1 n2;obtain ⟨A6,c6,e6⟩ := Kd.R_slice HV.out;subst e6;have HS2 := am (Kd.N_below HS.out NB.out);have HO2 := am (Kd.R_below HO.out NB.out);have HLT := am (show ∀ k,(.slice (some ad8) xs.length c8 : Value).ownBlock = some k ∨ (.slice (some ad9) ys.length c9 : Value).ownBlock = some k → k < wr.heap.size from fun k hk => hk.elim (Kd.N_lt HS.out k) (Kd.R_lt HO.out k))) | ((with_reducible refine gate_builtin (b := .append) (xs := #[.tmp 52,.tmp 54]) rfl ?_);at_builtin;refine Kd.N_append (Kd.slice 3 (Kd.int .i64)) (w0 := w) w.heap.size rfl (.tmp 52) (.tmp 54) 83 30 (.slice none 0 0) 24 rfl Tryz.underlying83 infoInts rfl (by decide) (by omega) (.slice (some ad8) xs.length c8) xs t1 [.slice A6 t1.length c6] (fun k_ => some k_ ≠ (.slice (some ad9) ys.length c9 : Value).ownBlock) (fun k => wr.heap.size ≤ k) rfl rfl ?aP ?aK ?aF HS2.out HB.out HB.out.size ?aL ?_;(case aP => exact rowFK HV.out);(case aK => exact fun k hk => ⟨fun he => by have := HLT.out k (.inr he.symm);omega,fun he => by have := HLT.out k (.inl he.symm);omega⟩);(case aF => exact fun k hk he => by have := Kd.R_lt HO2.out k he.symm;omega);(case aL => have := HL1.out;omega);intro v1 w7 ho hb hg hat;have n1 := am ho;have n2 := am hb;have n3 := am (Kd.R_grown2 HO2.out rfl hg (fun k hk => HS2.out.1 k hk));clear ho hb hg hat HB HS2 HO2 HLT HV NB;have HS2 := n1;have HB := n2;have HO2 := n3;clear n1 n2 n3) | ((with_reducible refine gate_builtin (b := .append) (xs := #[.tmp 56,.tmp 58]) rfl ?_);at_builtin;refine Kd.R_append (Kd.int .i64) (w0 := w) w.heap.size rfl (.tmp 56) (.tmp 58) 30 3 (.int .i64 0) 8 rfl Tryz.underlying30 infoInt rfl (by decide) (by omega) (.slice (some ad9) ys.length c9) ys t2 [.int .i64 t2] (fun _ => True) (fun _ => False) rfl rfl ?aP (fun _ hk => hk.elim) (fun _ _ => trivial) HO2.out HB.out HB.out.size ?aL ?_;(case aP => exact rfl);(case aL => have := HL2.out;omega);intro v2 w8 ho hb hg hat;have n1 := am ho;have n2 := am hb;have n3 := am (N_after9 HS2.out hg hat);clear ho hb hg hat HB HS2 HO2;have HO2 := n1;have HB := n2;have HS2 := n3;clear n1 n2 n3))
  go_roundw
  case rel => exact ⟨rd row fn,i + 1,xs ++ [t1],ys ++ [t2],by omega,by omega,rfl,by go_num,HQ,HS2,HO2,HB⟩
  case measure => simp [intOf];omega
def filledOf (x : S27) (y : Int × Int × Int × List (List Int)) : S99 := ⟨⟨⟨x.f0.f0,y.1⟩,x.f1,y.2.1,y.2.2.1⟩,y.2.2.2⟩
def basinsGo : List S27 → List S99 → Option (List S99)
 | [],acc => some acc
 | x :: xs,acc => (ca_fill.f (fillK x.f1.length) x.f0.f0 x.f0.f1 x.f1 x.f2 x.f3).bind fun y => if acc.length < 1466015503701 then basinsGo xs (acc ++ [filledOf x y]) else none
def ca_basins.f (l0_0 : List S27) : Option (List S99) := basinsGo l0_0 []
theorem infoFilled : (Tryz.prog.info? 99).map (fun i => (i.zero,i.size,i.bytes)) = some (some (.agg #[(.slice none 0 0),(.int .i64 0),(.slice none 0 0),(.int .i64 0),(.int .i64 0),(.slice none 0 0)]),6,96) := by kernel_rfl
theorem leOf {a : Nat} {W wc : World} (_ : Below W.heap.size W wc) (h : a ≤ W.heap.size) : a ≤ W.heap.size := h
theorem basinsF {w wr wc : World} {u3 : Value} {acc : List S99} {A0 A2 A5 : Option Addr} {c0 c2 c5 : Nat} (HN : Kd.N k99 99 wr w.heap.size (fun _ => True) u3 acc) (HB : Below w.heap.size w wc) (NB : Below wr.heap.size wr wc) (x : S27) (y1 y2 y3 : Int) (y4 : List (List Int)) (hl0 : x.f0.f0.length ≤ c0) (hi0 : Kd.C k126 w A0 x.f0.f0.length x.f0.f0) (hl2 : x.f1.length ≤ c2) (hi2 : Kd.C k64 w A2 x.f1.length x.f1) {n : Nat} (hn : wr.heap.size ≤ n)
 (hs : Kd.S (Kd.slice 3 (Kd.int .i64)) 30 wc n (fun k => True ∧ n ≤ k ∧ k < wc.heap.size ∧ ∃ q,q ∈ 30 :: (Kd.slice 3 (Kd.int .i64)).E ∧ ∃ cells,wc.heap[k]? = some (.cells cells q (0,0))) (.slice A5 y4.length c5) y4) :
 Kd.FK k99 wc (fun k => some k ≠ u3.ownBlock) (filledOf x (y1,y2,y3,y4)) [.slice A0 x.f0.f0.length c0,.int .i64 y1,.slice A2 x.f1.length c2,.int .i64 y2,.int .i64 y3,.slice A5 y4.length c5] := by
 have h1 : ∀ k,k < w.heap.size → some k ≠ u3.ownBlock := fun k hk he => by have := Kd.N_base HN k he.symm;omega
 have h2 : ∀ k,n ≤ k → some k ≠ u3.ownBlock := fun k hk he => by have := Kd.N_lt HN k he.symm;omega
 have h5 : y4.length ≤ c5 := (Kd.R_reads' (Kd.S_R hs)).2.1
 exact k99_mkF _ _ (filledOf x (y1,y2,y3,y4)) hl0 (Kd.F_mono (Kd.F_below (Kd.C_F (Kd.heap_iso _ (Kd.heap_pair (Kd.heap_int _) (Kd.heap_pair (Kd.heap_int _) (Kd.heap_int _)))) hi0) HB) h1) hl2 (Kd.F_mono (Kd.F_below (Kd.C_F (Kd.heap_iso _ (Kd.heap_pair (Kd.heap_int _) (Kd.heap_int _))) hi2) HB) h1) h5 (Kd.F_mono (Kd.S_F hs) (fun k hk => h2 k hk.2.1))
theorem ca_basins.calls (A0_0 : Option Addr) (c0_0 : Nat) (l0_0 : List S27) (A0_1 : Option Addr) (n0_1 c0_1 : Nat) (r : List S99) (w : World) (hr0_0 : Kd.C k27 w A0_0 l0_0.length l0_0) (hc0_0 : l0_0.length ≤ c0_0) (h : ca_basins.f l0_0 = some r) :
 Calls Tryz.prog 88 #[.agg #[.slice A0_0 l0_0.length c0_0,.slice A0_1 n0_1 c0_1]] w fun e w' => ∃ (A : Option Addr) (c : Nat),e = .returned (.slice A r.length c) ∧ r.length ≤ c ∧ Kd.C k99 w' A r.length r ∧ Below w.heap.size w w' := by
 have hu := Tryz.underlying89
 have hub := Tryz.underlying27
 have HM := am (Kd.C_max hr0_0)
 have HR0 := am hr0_0
 have HB := am (Below.refl w.heap.size w)
 have HQ := am h
 clear hr0_0 hc0_0 h
 go_enter Tryz.func88,Tryz.ntmps88
 go_wp2_with ((refine gate_dst (N := 1) rfl ?_);(try (refine gate_guard (by rfl) ?_;dsimp only));refine box_event rfl (N := 1) rfl (cs := #[.slice A0_0 l0_0.length c0_0,.slice A0_1 n0_1 c0_1]) (t := 89) ?hr ?_;(case hr => go_simp;try rfl);intro gc hg w1 hbox hb;replace HB := (bmv HB hb);clear hg;have BKgc := am hbox;clear hbox;(try clear hczgc_0 hfzgc_0);have hczgc_0 := cO1 BKgc.out;have hfzgc_0 := blk_frozen BKgc.out 0;(try clear hczgc_1 hfzgc_1);have hczgc_1 : w1.cell? ⟨gc,1,none⟩ = some (.slice A0_1 n0_1 c0_1) := (blk_cell BKgc.out 1).trans rfl;have hfzgc_1 := blk_frozen BKgc.out 1;clear hb)
 go_loopw [3,9] (fun v3 v9 w' => ∃ (acc : List S99) (i : Int),0 ≤ i ∧ i ≤ l0_0.length ∧ v9 = .int .i64 i ∧ Aside0 (basinsGo (l0_0.drop i.toNat) acc = some r) ∧ Aside0 (Kd.N k99 99 w' w.heap.size (fun _ => True) v3 acc) ∧ Aside0 (Below w.heap.size w w')) (fun _ v9 _ => l0_0.length - (intOf v9).toNat)
 case atStart => exact ⟨[],0,by omega,by omega,rfl,HQ,⟨Kd.N_nil _ _ _ _ _⟩,HB⟩
 case round =>
  clear HQ HB BKgc hczgc_0 hfzgc_0 hczgc_1 hfzgc_1
  obtain ⟨acc,i,p1,hi,rfl,HQ,HN,HB⟩ := hrel
  have hm := HM.out
  by_cases hlt : i < (l0_0.length : Int)
  case neg =>
   go_wp2
   go_ret
   have hq := HQ.out
   rw [List.drop_of_length_le (by omega)] at hq
   obtain rfl := Option.some.inj hq
   obtain ⟨A,c,rfl,hl,hc⟩ := Kd.N_reads HN.out
   exact ⟨A,c,rfl,hl,hc,HB.out⟩
  obtain ⟨ad,A0,c0,A2,c2,e1,hx0,hx1,hx2,hx3,hx4,hl0,hi0,hl2,hi2⟩ := at_T27 HR0.out i p1 hlt
  cases e1
  replace hx0 := (HB.out.cell (wbl hx0)).trans hx0
  replace hx1 := (HB.out.cell (wbl hx1)).trans hx1
  replace hx2 := (HB.out.cell (wbl hx2)).trans hx2
  replace hx3 := (HB.out.cell (wbl hx3)).trans hx3
  replace hx4 := (HB.out.cell (wbl hx4)).trans hx4
  have hq := HQ.out
  rw [drop_at z27 l0_0 i p1 hlt,show l0_0.getD i.toNat z27 = rd_T27 l0_0 i from rfl] at hq
  simp only [basinsGo] at hq
  generalize rd_T27 l0_0 i = x at *
  obtain ⟨y,hy,hq⟩ := obm hq
  obtain ⟨y1,y2,y3,y4⟩ := y
  have HY := am hy
  clear hy HQ
  by_cases hl : acc.length < 1466015503701
  case neg =>
   rw [if_neg hl] at hq;cases hq
  rw [if_pos hl] at hq
  have HQ := am hq
  have HL := am hl
  clear hq hl
  have HI0 := am hi0
  have HL0 := am hl0
  have HI2 := am hi2
  have HL2 := am hl2
  clear hi0 hl0 hi2 hl2
  go_wp2_with (first | ((refine gate_dst (N := 5) rfl ?_);refine box_event rfl (N := 5) rfl (cs := #[.slice none 0 0,.int .i64 0,.slice none 0 0,.int .i64 0,.int .i64 0]) (t := 27) ?hr ?_;(case hr => go_simp;try rfl);intro gb hg w2 hbox hb;have GB := am (show w.heap.size ≤ gb by have := HB.out.size;omega);have GB2 := am (Nat.le_of_eq hg.symm);have NB := am hb;have n3 := (bmv HB hb);have BKgb := am hbox;clear hg hb hbox HB;have HB := n3;clear n3;have hczgb_0 := cO1 BKgb.out;have hfzgb_0 := blk_frozen BKgb.out 0;have hczgb_1 : w2.cell? ⟨gb,1,none⟩ = some (.int .i64 0) := (blk_cell BKgb.out 1).trans rfl;have hfzgb_1 := blk_frozen BKgb.out 1;have hczgb_2 : w2.cell? ⟨gb,2,none⟩ = some (.slice none 0 0) := (blk_cell BKgb.out 2).trans rfl;have hfzgb_2 := blk_frozen BKgb.out 2;have hczgb_3 : w2.cell? ⟨gb,3,none⟩ = some (.int .i64 0) := (blk_cell BKgb.out 3).trans rfl;have hfzgb_3 := blk_frozen BKgb.out 3;have hczgb_4 : w2.cell? ⟨gb,4,none⟩ = some (.int .i64 0) := (blk_cell BKgb.out 4).trans rfl;have hfzgb_4 := blk_frozen BKgb.out 4) | (go_at_call 59;(with_reducible refine (ca_fill.calls (fillK x.f1.length) A0 c0 x.f0.f0 x.f0.f1 A2 c2 x.f1 x.f2 x.f3 y1 y2 y3 y4 _ (kC HI0.out (below_set (below_set (below_set (below_set (below_set HB.out GB.out) GB.out) GB.out) GB.out) GB.out)) HL0.out (kC HI2.out (below_set (below_set (below_set (below_set (below_set HB.out GB.out) GB.out) GB.out) GB.out) GB.out)) HL2.out HY.out).mono ?_);rintro e wc ⟨v3_,rfl,hs,hb⟩;have n1 := am (below_then (below_set (below_set (below_set (below_set (below_set HB.out GB.out) GB.out) GB.out) GB.out) GB.out) ((below_set (below_set (below_set (below_set (below_set HB.out GB.out) GB.out) GB.out) GB.out) GB.out)).size hb);have n2 := am (below_then (below_set (below_set (below_set (below_set (below_set NB.out GB2.out) GB2.out) GB2.out) GB2.out) GB2.out) ((below_set (below_set (below_set (below_set (below_set NB.out GB2.out) GB2.out) GB2.out) GB2.out) GB2.out)).size hb);have NL := am (leOf hb ((below_set (below_set (below_set (below_set (below_set NB.out GB2.out) GB2.out) GB2.out) GB2.out) GB2.out)).size);have n4 := am (Kd.S_bound hs);clear HB NB hb hs BKgb;(try clear hczgb_0 hczgb_1 hczgb_2 hczgb_3 hczgb_4 hfzgb_0 hfzgb_1 hfzgb_2 hfzgb_3 hfzgb_4);have HB := n1;have NB := n2;have HS := n4;clear n1 n2 n4;obtain ⟨A5,c5,e5⟩ := Kd.S_slice HS.out;subst e5) | ((with_reducible refine gate_builtin (b := .append) (xs := #[.tmp 13,.tmp 16]) rfl ?_);at_builtin;refine Kd.N_append k99 (w0 := w) w.heap.size rfl (.tmp 13) (.tmp 16) 120 99 (.agg #[(.slice none 0 0),(.int .i64 0),(.slice none 0 0),(.int .i64 0),(.int .i64 0),(.slice none 0 0)]) 96 rfl Tryz.underlying120 infoFilled rfl (by decide) (by omega) u3 acc (filledOf x (y1,y2,y3,y4)) [.slice A0 x.f0.f0.length c0,.int .i64 y1,.slice A2 x.f1.length c2,.int .i64 y2,.int .i64 y3,.slice A5 y4.length c5] (fun _ => True) (fun k => some k ≠ (u3 : Value).ownBlock) rfl rfl ?aP (fun _ hk => ⟨trivial,hk⟩) (fun _ _ => trivial) ?aO HB.out HB.out.size ?aL ?_;(case aP => exact basinsF HN.out HB.out NB.out x y1 y2 y3 y4 HL0.out HI0.out HL2.out HI2.out (NL.out) HS.out);(case aO => exact Kd.N_below HN.out NB.out);(case aL => have := HL.out;omega);intro v1 w3 ho hb hg hat;have n1 := am ho;have n2 := am hb;clear ho hb hg hat HB NB HS HN;have HN := n1;have HB := n2;clear n1 n2))
  go_roundw
  case rel => exact ⟨acc ++ [filledOf x (y1,y2,y3,y4)],i + 1,by omega,by omega,by go_num,HQ,HN,HB⟩
  case measure => simp [intOf];omega
def ca_Flow.f (k : Nat) (l0_0 : List S27) (l0_1 : List S123) (a1 : Int) : Option (List (List Int) × List Int × Int) :=
 (ca_isChain.f l0_0 l0_1).bind fun t => if t = true then (ca_isFlow.f a1).bind fun u => (if u = true then (ca_basins.f l0_0).bind fun fs => (ca_flow.f k fs l0_1 a1).bind fun x => some (x.1,x.2,0) else some ([],[],2)) else some ([],[],2)
theorem ca_Flow.calls (k : Nat) (A0_0 : Option Addr) (c0_0 : Nat) (l0_0 : List S27) (A0_1 : Option Addr) (c0_1 : Nat) (l0_1 : List S123) (a1 : Int) (r1 : List (List Int)) (r2 : List Int) (r3 : Int) (w : World) (hr0_0 : Kd.C k27 w A0_0 l0_0.length l0_0) (hc0_0 : l0_0.length ≤ c0_0) (hr0_1 : Kd.C k123 w A0_1 l0_1.length l0_1) (hc0_1 : l0_1.length ≤ c0_1) (h : ca_Flow.f k l0_0 l0_1 a1 = some (r1,r2,r3)) (hz : r3 = 0) :
 Calls Tryz.prog 50 #[.agg #[.slice A0_0 l0_0.length c0_0,.slice A0_1 l0_1.length c0_1],.int .i64 a1] w fun e w' => ∃ v0_ v1_ : Value,e = .returned (.tuple #[v0_,v1_,.int .i64 r3]) ∧ Kd.N (Kd.slice 3 (Kd.int .i64)) 30 w' w.heap.size (fun k_ => some k_ ≠ (v1_ : Value).ownBlock) v0_ r1 ∧ Kd.R (Kd.int .i64) 3 w' w.heap.size (fun _ => True) v1_ r2 ∧ Below w.heap.size w w' := by
 have hu := Tryz.underlying89
 have HR0 := am hr0_0
 have HC0 := am hc0_0
 have HR1 := am hr0_1
 have HC1 := am hc0_1
 have HB := am (Below.refl w.heap.size w)
 clear hr0_0 hc0_0 hr0_1 hc0_1
 unfold ca_Flow.f at h
 obtain ⟨t,ht,h⟩ := obm h
 have H1 := am ht
 clear ht
 cases t with
 | false =>
  rw [if_neg (by decide)] at h
  subst hz
  simp at h
 | true =>
  rw [if_pos rfl] at h
  obtain ⟨u,hu2,h⟩ := obm h
  have H2 := am hu2
  clear hu2
  cases u with
  | false =>
   rw [if_neg (by decide)] at h
   subst hz
   simp at h
  | true =>
   rw [if_pos rfl] at h
   obtain ⟨fs,hf,h⟩ := obm h
   obtain ⟨⟨x1,x2⟩,hx,h⟩ := obm h
   have H3 := am hf
   have H4 := am hx
   clear hf hx
   simp only [Option.some.injEq,Prod.mk.injEq] at h
   obtain ⟨rfl,rfl,rfl⟩ := h
   go_enter Tryz.func50,Tryz.ntmps50
   go_wp2_with (first | ((refine gate_dst (N := 2) rfl ?_);(try (refine gate_guard (by rfl) ?_;dsimp only));refine box_event rfl (N := 2) rfl (cs := #[.slice A0_0 l0_0.length c0_0,.slice A0_1 l0_1.length c0_1]) (t := 89) ?hr ?_;(case hr => go_simp;try rfl);intro gc hg w1 hbox hb;replace HB := (bmv HB hb);clear hg;have BKgc := am hbox;clear hbox;(try clear hczgc_0 hczgc_1);obtain ⟨hczgc_0,hczgc_1⟩ := cO2 BKgc.out;clear hb) | (go_at_call 86;(with_reducible refine (ca_isChain.calls A0_0 c0_0 l0_0 A0_1 c0_1 l0_1 true _ (kC HR0.out HB.out) HC0.out (kC HR1.out HB.out) HC1.out H1.out rfl).mono ?_);rintro e w1 ⟨rfl,hb⟩;replace HB := (bmv HB hb);replace BKgc := (kmv hb BKgc);(try clear hczgc_0 hczgc_1);obtain ⟨hczgc_0,hczgc_1⟩ := cO2 BKgc.out;clear hb) | (go_at_call 58;(with_reducible refine (ca_isFlow.calls a1 true _ H2.out).mono ?_);rintro e w1 ⟨rfl,hd⟩;have hb := hd.below;clear hd;replace HB := (bmv HB hb);replace BKgc := (kmv hb BKgc);(try clear hczgc_0 hczgc_1);obtain ⟨hczgc_0,hczgc_1⟩ := cO2 BKgc.out;clear hb))
   go_region_held3 (fun W => W.cell? ⟨gc,0,none⟩ = some (.slice A0_0 l0_0.length c0_0) ∧ W.cell? ⟨gc,1,none⟩ = some (.slice A0_1 l0_1.length c0_1)) (first | go_keep | (exact ⟨(blk_cell BKgc.out 0).trans rfl,(blk_cell BKgc.out 1).trans rfl⟩)) ((first | (go_at_call 88;refine (ca_basins.calls A0_0 c0_0 l0_0 A0_1 l0_1.length c0_1 fs _ (kC HR0.out (below_drew HB.out)) HC0.out H3.out).mono ?_;rintro e wb ⟨Af,cf,rfl,hlf,hcf,hb⟩;have n1 := am (below_then (below_drew HB.out) (below_drew HB.out).size hb);have n2 := am (blk_below (blk_drew BKgc.out) hb);have HCF := am hcf;clear HB BKgc hb hcf;have HB := n1;have BKgc := n2;clear n1 n2;(try clear hczgc_0 hczgc_1);obtain ⟨hczgc_0,hczgc_1⟩ := cO2 BKgc.out) | (go_at_call 87;refine (ca_flow.calls k Af cf fs A0_1 c0_1 l0_1 a1 x1 x2 _ HCF.out (kC HR1.out HB.out) H4.out).mono ?_;rintro e wf ⟨v0_,v1_,rfl,hn,hr,hb⟩;have n1 := (bmv HB hb);have n2 := (kmv hb BKgc);have HN := am (Kd.N_lower hn HB.out.size);have HR := am (Kd.R_lower hr HB.out.size);clear HB BKgc hb hn hr;have HB := n1;have BKgc := n2;clear n1 n2;(try clear hczgc_0 hczgc_1);obtain ⟨hczgc_0,hczgc_1⟩ := cO2 BKgc.out)))
   go_wp2
   go_ret3
   exact ⟨_,_,rfl,HN.out,HR.out,HB.out⟩
def enough.f (k : Nat) (fs : List S99) (l0_1 : List S123) (a1 a2 a3 cups : Int) : Option Bool :=
 (ca_flow.f k fs l0_1 cups).bind fun x => if 0 ≤ a1 then (if a1 < (x.1.length : Int) then (if 0 ≤ a2 then (if a2 < ((rd_L3 x.1 a1).length : Int) then some (decide (a3 ≤ rd (rd_L3 x.1 a1) a2)) else none) else none) else none) else none
theorem ca_Least_1.calls (k : Nat) (ga gc g1 g2 g3 : Nat) (Af : Option Addr) (cf : Nat) (fs : List S99) (A0_0 : Option Addr) (c0_0 : Nat) (l0_0 : List S27) (A0_1 : Option Addr) (c0_1 : Nat) (l0_1 : List S123) (a1 a2 a3 cups : Int) (r : Bool) (w : World)
 (ba : w.heap[ga]? = some (.cells #[.slice Af fs.length cf] 120 (0,0))) (bc : w.heap[gc]? = some (.cells #[.slice A0_0 l0_0.length c0_0,.slice A0_1 l0_1.length c0_1] 89 (0,0))) (b1 : w.heap[g1]? = some (.cells #[.int .i64 a1] 3 (0,0))) (b2 : w.heap[g2]? = some (.cells #[.int .i64 a2] 3 (0,0))) (b3 : w.heap[g3]? = some (.cells #[.int .i64 a3] 3 (0,0)))
 (hf : Kd.C k99 w Af fs.length fs) (h1 : Kd.C k123 w A0_1 l0_1.length l0_1) (h : enough.f k fs l0_1 a1 a2 a3 cups = some r) :
 Calls Tryz.prog 90 #[.int .i64 cups,.pointer (some ⟨ga,0,none⟩),.pointer (some ⟨gc,0,none⟩),.pointer (some ⟨g1,0,none⟩),.pointer (some ⟨g2,0,none⟩),.pointer (some ⟨g3,0,none⟩)] w fun e w' => e = .returned (.bool r) ∧ Below w.heap.size w w' := by
 have hu := Tryz.underlying89
 have HF := am hf
 have HR1 := am h1
 unfold enough.f at h
 obtain ⟨⟨x1,x2⟩,hx,h⟩ := obm h
 have HX := am hx
 dsimp only at h
 clear hf h1 hx
 by_cases p1 : 0 ≤ a1
 case neg => rw [if_neg p1] at h;cases h
 rw [if_pos p1] at h
 by_cases p2 : a1 < (x1.length : Int)
 case neg => rw [if_neg p2] at h;cases h
 rw [if_pos p2] at h
 by_cases p3 : 0 ≤ a2
 case neg => rw [if_neg p3] at h;cases h
 rw [if_pos p3] at h
 by_cases p4 : a2 < ((rd_L3 x1 a1).length : Int)
 case neg => rw [if_neg p4] at h;cases h
 rw [if_pos p4] at h
 obtain rfl := Option.some.inj h
 clear h
 have HB := am (Below.refl w.heap.size w)
 have BKga := am ba
 have BKgc := am bc
 have BKg1 := am b1
 have BKg2 := am b2
 have BKg3 := am b3
 clear ba bc b1 b2 b3
 have hczga_0 := cO1 BKga.out
 obtain ⟨hczgc_0,hczgc_1⟩ := cO2 BKgc.out
 have hczg1_0 := cO1 BKg1.out
 have hczg2_0 := cO1 BKg2.out
 have hczg3_0 := cO1 BKg3.out
 go_enter Tryz.func90,Tryz.ntmps90
 go_wp2_with (go_at_call 87;(with_reducible refine (ca_flow.calls k Af cf fs A0_1 c0_1 l0_1 cups x1 x2 _ (kC HF.out HB.out) (kC HR1.out HB.out) HX.out).mono ?_);rintro e wf ⟨v0_,v1_,rfl,hn,hr,hb⟩;(try clear hczga_0 hczgc_0 hczgc_1 hczg1_0 hczg2_0 hczg3_0);have n1 := (bmv HB hb);have nga := (kmv hb BKga);have ngc := (kmv hb BKgc);have ng1 := (kmv hb BKg1);have ng2 := (kmv hb BKg2);have ng3 := (kmv hb BKg3);clear HB hr BKga BKgc BKg1 BKg2 BKg3;have HB := n1;clear n1;have BKga := nga;clear nga;have BKgc := ngc;clear ngc;have BKg1 := ng1;clear ng1;have BKg2 := ng2;clear ng2;have BKg3 := ng3;clear ng3;obtain ⟨A8,c8,e8⟩ := Kd.N_slice hn;subst e8;obtain ⟨ad8,A7,c7,e8,hz,hz_,hzc⟩ := at_L3 (Kd.N_reads' hn).2.2 a1 p1 p2;cases e8;obtain ⟨adz,ez,hz2⟩ := Kd.at_int hzc a2 p3 p4;cases ez;have hczga_0 := cO1 BKga.out;obtain ⟨hczgc_0,hczgc_1⟩ := cO2 BKgc.out;have hczg1_0 := cO1 BKg1.out;have hczg2_0 := cO1 BKg2.out;have hczg3_0 := cO1 BKg3.out;clear hn hb hz_ hzc)
 go_quiet (fail)
 go_wp2
 go_ret
 exact ⟨rfl,pw_below_drewN HB.out _⟩
def bisGo (q : Int → Option Bool) : Nat → Int → Int → Option Int
 | 0,_,_ => none
 | n + 1,lo,hi => if lo < hi then (q (wrap64 (Int.tdiv (wrap64 (lo + hi)) 2))).bind fun b => if b = true then bisGo q n lo (wrap64 (Int.tdiv (wrap64 (lo + hi)) 2)) else bisGo q n (wrap64 ((wrap64 (Int.tdiv (wrap64 (lo + hi)) 2)) + 1)) hi else some lo
def ca_Least.f (k : Nat) (l0_0 : List S27) (l0_1 : List S123) (a1 a2 a3 : Int) : Option (Int × Int) :=
 (ca_isChain.f l0_0 l0_1).bind fun t => if t = true then (ca_in.f a1 0 (wrap64 ((l0_0.length : Int) - 1))).bind fun u => (if u = true then (if 0 ≤ a1 then (if a1 < (l0_0.length : Int) then (ca_in.f a2 0 (wrap64 (((rd_T27 l0_0 a1).f1.length : Int) - 1))).bind fun v => (if v = true then (ca_isFlow.f a3).bind fun y => (if y = true then (ca_basins.f l0_0).bind fun fs => (enough.f k fs l0_1 a1 a2 a3 10000).bind fun z => (if z = true then (bisGo (enough.f k fs l0_1 a1 a2 a3) k 0 10000).bind fun q => some (q,0) else some (0,5)) else some (0,2)) else some (0,2)) else none) else none) else some (0,2)) else some (0,2)
theorem skip_abs2 {P : Program} {ops : Array Oper} {o : Oper} {a : Act} {Q : Exit → Act → World → Prop} {rest : List Oper} {W W1 : World} (Rr : World → Prop) (hgd : o.guard = none) (hN : o.dst = none)
 (hrun : (execOp a.eval o).run P W = .ok .skip W1) (hR : Rr W1) (h : ∀ W',Rr W' → wpList P ops Q rest a W') : wpList P ops Q (o :: rest) a W := skip_abs Rr hgd hN hrun hR h
theorem ca_Least.calls (k : Nat) (A0_0 : Option Addr) (c0_0 : Nat) (l0_0 : List S27) (A0_1 : Option Addr) (c0_1 : Nat) (l0_1 : List S123) (a1 a2 a3 : Int) (r1 r2 : Int) (w : World) (hr0_0 : Kd.C k27 w A0_0 l0_0.length l0_0) (hc0_0 : l0_0.length ≤ c0_0) (hr0_1 : Kd.C k123 w A0_1 l0_1.length l0_1) (hc0_1 : l0_1.length ≤ c0_1) (h : ca_Least.f k l0_0 l0_1 a1 a2 a3 = some (r1,r2)) (hz : r2 = 0) :
 Calls Tryz.prog 52 #[.agg #[.slice A0_0 l0_0.length c0_0,.slice A0_1 l0_1.length c0_1],.int .i64 a1,.int .i64 a2,.int .i64 a3] w fun e w' => e = .returned (.tuple #[.int .i64 r1,.int .i64 r2]) ∧ Below w.heap.size w w' := by
 have hu := Tryz.underlying89
 have hub := Tryz.underlying27
 have hmf : ∀ (fn : Fn) (first cap : Array Value) (w : World),(Instr.makeFunc fn first cap).run Tryz.prog w = .ok (.func fn first cap) w := fun _ _ _ _ => rfl
 have HR0 := am hr0_0
 have HC0 := am hc0_0
 have HR1 := am hr0_1
 have HC1 := am hc0_1
 have HB := am (Below.refl w.heap.size w)
 clear hr0_0 hc0_0 hr0_1 hc0_1
 unfold ca_Least.f at h
 obtain ⟨t,ht,h⟩ := obm h
 have H1 := am ht
 clear ht
 cases t with
 | false =>
  rw [if_neg (by decide)] at h
  subst hz
  simp at h
 | true =>
  rw [if_pos rfl] at h
  obtain ⟨u,hu2,h⟩ := obm h
  have H2 := am hu2
  clear hu2
  cases u with
  | false =>
   rw [if_neg (by decide)] at h
   subst hz
   simp at h
  | true =>
   rw [if_pos rfl] at h
   by_cases q0 : 0 ≤ a1
   case neg => rw [if_neg q0] at h;cases h
   rw [if_pos q0] at h
   by_cases q1 : a1 < (l0_0.length : Int)
   case neg => rw [if_neg q1] at h;cases h
   rw [if_pos q1] at h
   obtain ⟨adb,A0,c0,A2,c2,eb,hy0,hy1,hy2,hy3,hy4,g1,g2,g3,g4⟩ := at_T27 HR0.out a1 q0 q1
   cases eb
   have HY := am hy2
   clear hy0 hy1 hy2 hy3 hy4 g1 g2 g3 g4
   obtain ⟨v,hv,h⟩ := obm h
   have H3 := am hv
   clear hv
   cases v with
   | false =>
    rw [if_neg (by decide)] at h
    subst hz
    simp at h
   | true =>
    rw [if_pos rfl] at h
    obtain ⟨y,hy_,h⟩ := obm h
    have H4 := am hy_
    clear hy_
    cases y with
    | false =>
     rw [if_neg (by decide)] at h
     subst hz
     simp at h
    | true =>
     rw [if_pos rfl] at h
     obtain ⟨fs,hf,h⟩ := obm h
     have H5 := am hf
     clear hf
     obtain ⟨z,hz,h⟩ := obm h
     have H6 := am hz
     clear hz
     cases z with
     | false =>
      rw [if_neg (by decide)] at h
      subst hz
      simp at h
     | true =>
      rw [if_pos rfl] at h
      obtain ⟨q,hq,h⟩ := obm h
      simp only [Option.some.injEq,Prod.mk.injEq] at h
      obtain ⟨rfl,rfl⟩ := h
      have HQ := am hq
      clear hq
      go_enter Tryz.func52,Tryz.ntmps52
      go_wp2_with (first | ((refine gate_dst (N := 4) rfl ?_);(try (refine gate_guard (by rfl) ?_;dsimp only));refine box_event rfl (N := 4) rfl (cs := #[.slice (some adb) l0_0.length c0_0,.slice A0_1 l0_1.length c0_1]) (t := 89) ?hr ?_;(case hr => go_simp;try rfl);intro gc hg w1 hbox hb;replace HB := (bmv HB hb);clear hg;have BKgc := am hbox;clear hbox;(try clear hczgc_0 hfzgc_0);have hczgc_0 := cO1 BKgc.out;(try clear hczgc_1 hfzgc_1);have hczgc_1 : w1.cell? ⟨gc,1,none⟩ = some (.slice A0_1 l0_1.length c0_1) := (blk_cell BKgc.out 1).trans rfl;clear hb) | ((refine gate_dst (N := 5) rfl ?_);(try (refine gate_guard (by rfl) ?_;dsimp only));refine box_event rfl (N := 5) rfl (cs := #[.int .i64 a1]) (t := 3) ?hr ?_;(case hr => go_simp;try rfl);intro g1 hg w2 hbox hb;replace HB := (bmv HB hb);replace BKgc := (kmv hb BKgc);clear hg;have BKg1 := am hbox;clear hbox;(try clear hczgc_0 hfzgc_0);have hczgc_0 := cO1 BKgc.out;(try clear hczgc_1 hfzgc_1);have hczgc_1 : w2.cell? ⟨gc,1,none⟩ = some (.slice A0_1 l0_1.length c0_1) := (blk_cell BKgc.out 1).trans rfl;(try clear hczg1_0 hfzg1_0);have hczg1_0 := cO1 BKg1.out;clear hb) | ((refine gate_dst (N := 6) rfl ?_);(try (refine gate_guard (by rfl) ?_;dsimp only));refine box_event rfl (N := 6) rfl (cs := #[.int .i64 a2]) (t := 3) ?hr ?_;(case hr => go_simp;try rfl);intro g2 hg w3 hbox hb;replace HB := (bmv HB hb);replace BKgc := (kmv hb BKgc);replace BKg1 := (kmv hb BKg1);clear hg;have BKg2 := am hbox;clear hbox;(try clear hczgc_0 hfzgc_0);have hczgc_0 := cO1 BKgc.out;(try clear hczgc_1 hfzgc_1);have hczgc_1 : w3.cell? ⟨gc,1,none⟩ = some (.slice A0_1 l0_1.length c0_1) := (blk_cell BKgc.out 1).trans rfl;(try clear hczg1_0 hfzg1_0);have hczg1_0 := cO1 BKg1.out;(try clear hczg2_0 hfzg2_0);have hczg2_0 := cO1 BKg2.out;clear hb) | ((refine gate_dst (N := 7) rfl ?_);(try (refine gate_guard (by rfl) ?_;dsimp only));refine box_event rfl (N := 7) rfl (cs := #[.int .i64 a3]) (t := 3) ?hr ?_;(case hr => go_simp;try rfl);intro g3 hg w4 hbox hb;replace HB := (bmv HB hb);replace BKgc := (kmv hb BKgc);replace BKg1 := (kmv hb BKg1);replace BKg2 := (kmv hb BKg2);clear hg;have BKg3 := am hbox;clear hbox;(try clear hczgc_0 hfzgc_0);have hczgc_0 := cO1 BKgc.out;(try clear hczgc_1 hfzgc_1);have hczgc_1 : w4.cell? ⟨gc,1,none⟩ = some (.slice A0_1 l0_1.length c0_1) := (blk_cell BKgc.out 1).trans rfl;(try clear hczg1_0 hfzg1_0);have hczg1_0 := cO1 BKg1.out;(try clear hczg2_0 hfzg2_0);have hczg2_0 := cO1 BKg2.out;(try clear hczg3_0 hfzg3_0);have hczg3_0 := cO1 BKg3.out;clear hb))
      refine start_ (n := 30) (S := fun W => W.cell? ⟨gc,0,none⟩ = some (.slice (some adb) l0_0.length c0_0) ∧ W.cell? ⟨gc,1,none⟩ = some (.slice A0_1 l0_1.length c0_1) ∧ W.cell? ⟨g1,0,none⟩ = some (.int .i64 a1) ∧ W.cell? ⟨g2,0,none⟩ = some (.int .i64 a2) ∧ W.cell? ⟨g3,0,none⟩ = some (.int .i64 a3) ∧ W.cell? ⟨(adb.add (a1.toNat * 5)).block,(adb.add (a1.toNat * 5)).off + 2,none⟩ = some (.slice A2 (rd_T27 l0_0 a1).f1.length c2)) (ds := []) (ba 30 0) (by kernel_rfl) rfl rfl ⟨(blk_cell (blk_drew BKgc.out) 0).trans rfl,(blk_cell (blk_drew BKgc.out) 1).trans rfl,(blk_cell (blk_drew BKg1.out) 0).trans rfl,(blk_cell (blk_drew BKg2.out) 0).trans rfl,(blk_cell (blk_drew BKg3.out) 0).trans rfl,((below_drew1 HB.out).cell (wbl HY.out)).trans HY.out⟩ (fun hHeld => ?_)
      replace BKgc := am (blk_drew BKgc.out)
      replace BKg1 := am (blk_drew BKg1.out)
      replace BKg2 := am (blk_drew BKg2.out)
      replace BKg3 := am (blk_drew BKg3.out)
      replace HB := am (below_drew1 HB.out)
      (try clear hczgc_0 hczgc_1 hczg1_0 hczg2_0 hczg3_0)
      (try clear hfzgc_0 hfzgc_1 hfzg1_0 hfzg2_0 hfzg3_0)
      generalize w4.drew = wd at BKgc BKg1 BKg2 BKg3 HB hHeld ⊢
      refine take_ (i := 0) (N := some 15) (v := ?_) (a' := ?_) (ba 30 1) rfl rfl (by kernel_rfl) (fun _ _ _ h => h) (Or.inl ⟨by rfl,?_⟩) hHeld ?_ ?_
      rotate_left
      · rintro w' ⟨s0,s1,s2,s3,s4,s5⟩
        go_simp
        with_reducible rfl
      rotate_left
      · simp only [Act.put,NRM]
        rfl
      refine one_ (i := 1) (N := some 16) (ba 30 3) rfl rfl (by kernel_rfl) (by decide) (fun K hK => ?_)
      refine goes_ Tryz.func86 (by kernel_rfl) rfl #[.agg #[.slice (some adb) l0_0.length c0_0,.slice A0_1 l0_1.length c0_1]] (by rfl) rfl rfl (by (try simp only [List.map_toArray,List.map_cons,List.map_nil]);first | done | rfl) ?_
      refine (ca_isChain.calls (some adb) c0_0 l0_0 A0_1 c0_1 l0_1 true _ (kC HR0.out HB.out) HC0.out (kC HR1.out HB.out) HC1.out H1.out rfl).mono ?_
      rintro e wc ⟨rfl,hb⟩
      replace HB := (bmv HB hb)
      replace BKgc := (kmv hb BKgc)
      replace BKg1 := (kmv hb BKg1)
      replace BKg2 := (kmv hb BKg2)
      replace BKg3 := (kmv hb BKg3)
      clear hb
      refine ⟨_,rfl,?_⟩
      refine hK.out _ _ ⟨(blk_cell BKgc.out 0).trans rfl,(blk_cell BKgc.out 1).trans rfl,(blk_cell BKg1.out 0).trans rfl,(blk_cell BKg2.out 0).trans rfl,(blk_cell BKg3.out 0).trans rfl,(HB.out.cell (wbl HY.out)).trans HY.out⟩ (fun hHeld => ?_)
      clear hK K
      refine norm_ (a' := ?_) ?_ ?_
      rotate_left
      · show Act.put _ (some 16) _ = _
        simp only [Act.put,NRM]
        rfl
      refine pure_ (i := 2) (N := some 17) (v := ?_) (a' := ?_) (ba 30 7) rfl rfl (by kernel_rfl) (fun _ _ _ h => h) (Or.inl ⟨by rfl,?_⟩) ?_ ?_
      rotate_left
      · intro w'
        go_simp
        with_reducible rfl
      rotate_left
      · simp only [Act.put,NRM]
        rfl
      refine pure_ (i := 3) (N := some 18) (v := ?_) (a' := ?_) (ba 30 15) rfl rfl (by kernel_rfl) (fun _ _ _ h => h) (Or.inl ⟨by rfl,?_⟩) ?_ ?_
      rotate_left
      · intro w'
        go_simp
        with_reducible rfl
      rotate_left
      · simp only [Act.put,NRM]
        rfl
      refine pure_ (i := 5) (N := some 20) (v := ?_) (a' := ?_) (ba 30 47) rfl rfl (by kernel_rfl) (fun _ _ _ h => h) (Or.inl ⟨by rfl,?_⟩) ?_ ?_
      rotate_left
      · intro w'
        go_simp
        with_reducible rfl
      rotate_left
      · simp only [Act.put,NRM]
        rfl
      refine take_ (i := 4) (N := some 19) (v := ?_) (a' := ?_) (ba 30 63) rfl rfl (by kernel_rfl) (fun _ _ _ h => h) (Or.inl ⟨by rfl,?_⟩) hHeld ?_ ?_
      rotate_left
      · rintro w' ⟨s0,s1,s2,s3,s4,s5⟩
        go_simp
        with_reducible rfl
      rotate_left
      · simp only [Act.put,NRM]
        rfl
      refine take_ (i := 6) (N := some 21) (v := ?_) (a' := ?_) (ba 30 127) rfl rfl (by kernel_rfl) (fun _ _ _ h => h) (Or.inl ⟨by rfl,?_⟩) hHeld ?_ ?_
      rotate_left
      · rintro w' ⟨s0,s1,s2,s3,s4,s5⟩
        go_simp
        with_reducible rfl
      rotate_left
      · simp only [Act.put,NRM]
        rfl
      refine pure_ (i := 7) (N := some 22) (v := ?_) (a' := ?_) (ba 30 255) rfl rfl (by kernel_rfl) (fun _ _ _ h => h) (Or.inl ⟨by rfl,?_⟩) ?_ ?_
      rotate_left
      · intro w'
        go_simp
        with_reducible rfl
      rotate_left
      · simp only [Act.put,NRM]
        rfl
      refine pure_ (i := 8) (N := some 23) (v := ?_) (a' := ?_) (ba 30 511) rfl rfl (by kernel_rfl) (fun _ _ _ h => h) (Or.inl ⟨by rfl,?_⟩) ?_ ?_
      rotate_left
      · intro w'
        go_simp
        with_reducible rfl
      rotate_left
      · simp only [Act.put,NRM]
        rfl
      refine one_ (i := 9) (N := some 24) (ba 30 1023) rfl rfl (by kernel_rfl) (by decide) (fun K hK => ?_)
      refine goes_ Tryz.func73 (by kernel_rfl) rfl #[.int .i64 a1,.int .i64 0,.int .i64 (wrap64 ((l0_0.length : Int) - 1))] (by rfl) rfl rfl (by (try simp only [List.map_toArray,List.map_cons,List.map_nil]);first | done | rfl) ?_
      refine (ca_in.calls a1 0 (wrap64 ((l0_0.length : Int) - 1)) true _ H2.out).mono ?_
      rintro e wi ⟨rfl,hd⟩
      have hb := hd.below
      clear hd
      replace HB := (bmv HB hb)
      replace BKgc := (kmv hb BKgc)
      replace BKg1 := (kmv hb BKg1)
      replace BKg2 := (kmv hb BKg2)
      replace BKg3 := (kmv hb BKg3)
      clear hb
      refine ⟨_,rfl,?_⟩
      refine hK.out _ _ ⟨(blk_cell BKgc.out 0).trans rfl,(blk_cell BKgc.out 1).trans rfl,(blk_cell BKg1.out 0).trans rfl,(blk_cell BKg2.out 0).trans rfl,(blk_cell BKg3.out 0).trans rfl,(HB.out.cell (wbl HY.out)).trans HY.out⟩ (fun hHeld => ?_)
      clear hK K
      refine norm_ (a' := ?_) ?_ ?_
      rotate_left
      · show Act.put _ (some 24) _ = _
        simp only [Act.put,NRM]
        rfl
      refine pure_ (i := 10) (N := some 25) (v := ?_) (a' := ?_) (ba 30 2047) rfl rfl (by kernel_rfl) (fun _ _ _ h => h) (Or.inl ⟨by rfl,?_⟩) ?_ ?_
      rotate_left
      · intro w'
        go_simp
        with_reducible rfl
      rotate_left
      · simp only [Act.put,NRM]
        rfl
      refine pure_ (i := 11) (N := some 26) (v := ?_) (a' := ?_) (ba 30 4095) rfl rfl (by kernel_rfl) (fun _ _ _ h => h) (Or.inl ⟨by rfl,?_⟩) ?_ ?_
      rotate_left
      · intro w'
        go_simp
        with_reducible rfl
      rotate_left
      · simp only [Act.put,NRM]
        rfl
      refine pure_ (i := 12) (N := some 27) (v := ?_) (a' := ?_) (ba 30 8191) rfl rfl (by kernel_rfl) (fun _ _ _ h => h) (Or.inl ⟨by rfl,?_⟩) ?_ ?_
      rotate_left
      · intro w'
        go_simp
        with_reducible rfl
      rotate_left
      · simp only [Act.put,NRM]
        rfl
      refine pure_ (i := 14) (N := some 29) (v := ?_) (a' := ?_) (ba 30 24575) rfl rfl (by kernel_rfl) (fun _ _ _ h => h) (Or.inl ⟨by rfl,?_⟩) ?_ ?_
      rotate_left
      · intro w'
        go_simp
        with_reducible rfl
      rotate_left
      · simp only [Act.put,NRM]
        rfl
      refine take_ (i := 13) (N := some 28) (v := ?_) (a' := ?_) (ba 30 32767) rfl rfl (by kernel_rfl) (fun _ _ _ h => h) (Or.inl ⟨by rfl,?_⟩) hHeld ?_ ?_
      rotate_left
      · rintro w' ⟨s0,s1,s2,s3,s4,s5⟩
        go_simp
        with_reducible rfl
      rotate_left
      · simp only [Act.put,NRM]
        rfl
      refine take_ (i := 15) (N := some 30) (v := ?_) (a' := ?_) (ba 30 65535) rfl rfl (by kernel_rfl) (fun _ _ _ h => h) (Or.inl ⟨by rfl,?_⟩) hHeld ?_ ?_
      rotate_left
      · rintro w' ⟨s0,s1,s2,s3,s4,s5⟩
        go_simp
        with_reducible rfl
      rotate_left
      · simp only [Act.put,NRM]
        rfl
      refine take_ (i := 16) (N := some 31) (v := ?_) (a' := ?_) (ba 30 131071) rfl rfl (by kernel_rfl) (fun _ _ _ h => h) (Or.inl ⟨by rfl,?_⟩) hHeld ?_ ?_
      rotate_left
      · rintro w' ⟨s0,s1,s2,s3,s4,s5⟩
        go_simp
        with_reducible rfl
      rotate_left
      · simp only [Act.put,NRM]
        rfl
      refine pure_ (i := 17) (N := some 32) (v := ?_) (a' := ?_) (ba 30 262143) rfl rfl (by kernel_rfl) (fun _ _ _ h => h) (Or.inl ⟨by rfl,?_⟩) ?_ ?_
      rotate_left
      · intro w'
        go_simp
        with_reducible rfl
      rotate_left
      · simp only [Act.put,NRM]
        rfl
      refine pure_ (i := 18) (N := some 33) (v := ?_) (a' := ?_) (ba 30 524287) rfl rfl (by kernel_rfl) (fun _ _ _ h => h) (Or.inl ⟨by rfl,?_⟩) ?_ ?_
      rotate_left
      · intro w'
        go_simp
        with_reducible rfl
      rotate_left
      · simp only [Act.put,NRM]
        rfl
      refine take_ (i := 19) (N := some 34) (v := ?_) (a' := ?_) (ba 30 1048575) rfl rfl (by kernel_rfl) (fun _ _ _ h => h) (Or.inl ⟨by rfl,?_⟩) hHeld ?_ ?_
      rotate_left
      · rintro w' ⟨s0,s1,s2,s3,s4,s5⟩
        go_simp
        with_reducible rfl
      rotate_left
      · simp only [Act.put,NRM]
        rfl
      refine pure_ (i := 20) (N := some 35) (v := ?_) (a' := ?_) (ba 30 2097151) rfl rfl (by kernel_rfl) (fun _ _ _ h => h) (Or.inl ⟨by rfl,?_⟩) ?_ ?_
      rotate_left
      · intro w'
        go_simp
        with_reducible rfl
      rotate_left
      · simp only [Act.put,NRM]
        rfl
      refine pure_ (i := 21) (N := some 36) (v := ?_) (a' := ?_) (ba 30 4194303) rfl rfl (by kernel_rfl) (fun _ _ _ h => h) (Or.inl ⟨by rfl,?_⟩) ?_ ?_
      rotate_left
      · intro w'
        go_simp
        with_reducible rfl
      rotate_left
      · simp only [Act.put,NRM]
        rfl
      refine one_ (i := 22) (N := some 37) (ba 30 8388607) rfl rfl (by kernel_rfl) (by decide) (fun K hK => ?_)
      refine goes_ Tryz.func73 (by kernel_rfl) rfl #[.int .i64 a2,.int .i64 0,.int .i64 (wrap64 (((rd_T27 l0_0 a1).f1.length : Int) - 1))] (by rfl) rfl rfl (by (try simp only [List.map_toArray,List.map_cons,List.map_nil]);first | done | rfl) ?_
      refine (ca_in.calls a2 0 (wrap64 (((rd_T27 l0_0 a1).f1.length : Int) - 1)) true _ H3.out).mono ?_
      rintro e wj ⟨rfl,hd⟩
      have hb := hd.below
      clear hd
      replace HB := (bmv HB hb)
      replace BKgc := (kmv hb BKgc)
      replace BKg1 := (kmv hb BKg1)
      replace BKg2 := (kmv hb BKg2)
      replace BKg3 := (kmv hb BKg3)
      clear hb
      refine ⟨_,rfl,?_⟩
      refine hK.out _ _ ⟨(blk_cell BKgc.out 0).trans rfl,(blk_cell BKgc.out 1).trans rfl,(blk_cell BKg1.out 0).trans rfl,(blk_cell BKg2.out 0).trans rfl,(blk_cell BKg3.out 0).trans rfl,(HB.out.cell (wbl HY.out)).trans HY.out⟩ (fun hHeld => ?_)
      clear hK K
      refine norm_ (a' := ?_) ?_ ?_
      rotate_left
      · show Act.put _ (some 37) _ = _
        simp only [Act.put,NRM]
        rfl
      refine pure_ (i := 23) (N := some 38) (v := ?_) (a' := ?_) (ba 30 16777215) rfl rfl (by kernel_rfl) (fun _ _ _ h => h) (Or.inl ⟨by rfl,?_⟩) ?_ ?_
      rotate_left
      · intro w'
        go_simp
        with_reducible rfl
      rotate_left
      · simp only [Act.put,NRM]
        rfl
      refine pure_ (i := 24) (N := some 39) (v := ?_) (a' := ?_) (ba 30 33554431) rfl rfl (by kernel_rfl) (fun _ _ _ h => h) (Or.inl ⟨by rfl,?_⟩) ?_ ?_
      rotate_left
      · intro w'
        go_simp
        with_reducible rfl
      rotate_left
      · simp only [Act.put,NRM]
        rfl
      refine pure_ (i := 25) (N := some 40) (v := ?_) (a' := ?_) (ba 30 67108863) rfl rfl (by kernel_rfl) (fun _ _ _ h => h) (Or.inl ⟨by rfl,?_⟩) ?_ ?_
      rotate_left
      · intro w'
        go_simp
        with_reducible rfl
      rotate_left
      · simp only [Act.put,NRM]
        rfl
      refine take_ (i := 26) (N := some 41) (v := ?_) (a' := ?_) (ba 30 134217727) rfl rfl (by kernel_rfl) (fun _ _ _ h => h) (Or.inl ⟨by rfl,?_⟩) hHeld ?_ ?_
      rotate_left
      · rintro w' ⟨s0,s1,s2,s3,s4,s5⟩
        go_simp
        with_reducible rfl
      rotate_left
      · simp only [Act.put,NRM]
        rfl
      refine one_ (i := 27) (N := some 42) (ba 30 268435455) rfl rfl (by kernel_rfl) (by decide) (fun K hK => ?_)
      refine goes_ Tryz.func58 (by kernel_rfl) rfl #[.int .i64 a3] (by rfl) rfl rfl (by (try simp only [List.map_toArray,List.map_cons,List.map_nil]);first | done | rfl) ?_
      refine (ca_isFlow.calls a3 true _ H4.out).mono ?_
      rintro e wk ⟨rfl,hd⟩
      have hb := hd.below
      clear hd
      replace HB := (bmv HB hb)
      replace BKgc := (kmv hb BKgc)
      replace BKg1 := (kmv hb BKg1)
      replace BKg2 := (kmv hb BKg2)
      replace BKg3 := (kmv hb BKg3)
      clear hb
      refine ⟨_,rfl,?_⟩
      refine hK.out _ _ ⟨(blk_cell BKgc.out 0).trans rfl,(blk_cell BKgc.out 1).trans rfl,(blk_cell BKg1.out 0).trans rfl,(blk_cell BKg2.out 0).trans rfl,(blk_cell BKg3.out 0).trans rfl,(HB.out.cell (wbl HY.out)).trans HY.out⟩ (fun hHeld => ?_)
      clear hK K
      refine norm_ (a' := ?_) ?_ ?_
      rotate_left
      · show Act.put _ (some 42) _ = _
        simp only [Act.put,NRM]
        rfl
      refine pure_ (i := 28) (N := some 43) (v := ?_) (a' := ?_) (ba 30 536870911) rfl rfl (by kernel_rfl) (fun _ _ _ h => h) (Or.inl ⟨by rfl,?_⟩) ?_ ?_
      rotate_left
      · intro w'
        go_simp
        with_reducible rfl
      rotate_left
      · simp only [Act.put,NRM]
        rfl
      refine pure_ (i := 29) (N := some 44) (v := ?_) (a' := ?_) (ba 30 1073741823) rfl rfl (by kernel_rfl) (fun _ _ _ h => h) (Or.inl ⟨by rfl,?_⟩) ?_ ?_
      rotate_left
      · intro w'
        go_simp
        with_reducible rfl
      rotate_left
      · simp only [Act.put,NRM]
        rfl
      refine done_ (by kernel_rfl) ?_
      (try clear hczgc_0 hfzgc_0);have hczgc_0 : wk.cell? ⟨gc,0,none⟩ = some (.slice (some adb) l0_0.length c0_0) := (blk_cell BKgc.out 0).trans rfl;have hfzgc_0 := blk_frozen BKgc.out 0
      (try clear hczgc_1 hfzgc_1);have hczgc_1 : wk.cell? ⟨gc,1,none⟩ = some (.slice A0_1 l0_1.length c0_1) := (blk_cell BKgc.out 1).trans rfl;have hfzgc_1 := blk_frozen BKgc.out 1
      (try clear hczg1_0 hfzg1_0);have hczg1_0 : wk.cell? ⟨g1,0,none⟩ = some (.int .i64 a1) := (blk_cell BKg1.out 0).trans rfl;have hfzg1_0 := blk_frozen BKg1.out 0
      (try clear hczg2_0 hfzg2_0);have hczg2_0 : wk.cell? ⟨g2,0,none⟩ = some (.int .i64 a2) := (blk_cell BKg2.out 0).trans rfl;have hfzg2_0 := blk_frozen BKg2.out 0
      (try clear hczg3_0 hfzg3_0);have hczg3_0 : wk.cell? ⟨g3,0,none⟩ = some (.int .i64 a3) := (blk_cell BKg3.out 0).trans rfl;have hfzg3_0 := blk_frozen BKg3.out 0
      go_wp2_with (first | (go_at_call 88;refine (ca_basins.calls (some adb) c0_0 l0_0 A0_1 l0_1.length c0_1 fs _ (kC HR0.out HB.out) HC0.out H5.out).mono ?_;rintro e wb ⟨Af,cf,rfl,hlf,hcf,hb⟩;replace HB := (bmv HB hb);replace BKgc := (kmv hb BKgc);replace BKg1 := (kmv hb BKg1);replace BKg2 := (kmv hb BKg2);replace BKg3 := (kmv hb BKg3);(try clear hczgc_0 hfzgc_0);have hczgc_0 := cO1 BKgc.out;(try clear hczgc_1 hfzgc_1);have hczgc_1 : wb.cell? ⟨gc,1,none⟩ = some (.slice A0_1 l0_1.length c0_1) := (blk_cell BKgc.out 1).trans rfl;(try clear hczg1_0 hfzg1_0);have hczg1_0 := cO1 BKg1.out;(try clear hczg2_0 hfzg2_0);have hczg2_0 := cO1 BKg2.out;(try clear hczg3_0 hfzg3_0);have hczg3_0 := cO1 BKg3.out;have HCF := am hcf;clear hcf;(try clear hy);clear hb) | ((refine gate_dst (N := 10) rfl ?_);(try (refine gate_guard (by rfl) ?_;dsimp only));refine box_event rfl (N := 10) rfl (cs := #[.slice none 0 0]) (t := 120) ?hr ?_;(case hr => go_simp;try rfl);intro ga hg wa hbox hb;have HNgc_ga := am (show gc ≠ ga by have := blk_lt BKgc.out;omega);have HNg1_ga := am (show g1 ≠ ga by have := blk_lt BKg1.out;omega);have HNg2_ga := am (show g2 ≠ ga by have := blk_lt BKg2.out;omega);have HNg3_ga := am (show g3 ≠ ga by have := blk_lt BKg3.out;omega);have GA := am (show w.heap.size ≤ ga by have := HB.out.size;omega);have GC_ := am (show gc ≠ ga by have := blk_lt BKgc.out;omega);have G1_ := am (show g1 ≠ ga by have := blk_lt BKg1.out;omega);have G2_ := am (show g2 ≠ ga by have := blk_lt BKg2.out;omega);have G3_ := am (show g3 ≠ ga by have := blk_lt BKg3.out;omega);have GS_ := am (Nat.le_of_eq hg.symm);have GB_ := am hb;replace HB := (bmv HB hb);replace BKgc := (kmv hb BKgc);replace BKg1 := (kmv hb BKg1);replace BKg2 := (kmv hb BKg2);replace BKg3 := (kmv hb BKg3);have HCF0 := HCF;replace HCF := (cmv HCF hb);clear hg;have BKga := am hbox;clear hbox;(try clear hczgc_0 hfzgc_0);have hczgc_0 := cO1 BKgc.out;(try clear hczgc_1 hfzgc_1);have hczgc_1 : wa.cell? ⟨gc,1,none⟩ = some (.slice A0_1 l0_1.length c0_1) := (blk_cell BKgc.out 1).trans rfl;(try clear hczg1_0 hfzg1_0);have hczg1_0 := cO1 BKg1.out;(try clear hczg2_0 hfzg2_0);have hczg2_0 := cO1 BKg2.out;(try clear hczg3_0 hfzg3_0);have hczg3_0 := cO1 BKg3.out;(try clear hczga_0 hfzga_0);have hczga_0 := cO1 BKga.out;have hfzga_0 := blk_frozen BKga.out 0;clear hb) | ((with_reducible refine gate_store (t := 120) (p := 10) rfl ?_);refine skip_abs2 (fun W' => W'.heap[ga]? = some (.cells #[.slice Af fs.length cf] 120 (0,0)) ∧ W'.heap[gc]? = some (.cells #[.slice (some adb) l0_0.length c0_0,.slice A0_1 l0_1.length c0_1] 89 (0,0)) ∧ W'.heap[g1]? = some (.cells #[.int .i64 a1] 3 (0,0)) ∧ W'.heap[g2]? = some (.cells #[.int .i64 a2] 3 (0,0)) ∧ W'.heap[g3]? = some (.cells #[.int .i64 a3] 3 (0,0)) ∧ Kd.C k99 W' Af fs.length fs ∧ Below w.heap.size w W') ?hg ?hd ?hr ⟨(blk_set BKga.out 0 _).trans rfl,obj_far (p := ⟨ga,0,none⟩) BKgc.out GC_.out _,obj_far (p := ⟨ga,0,none⟩) BKg1.out G1_.out _,obj_far (p := ⟨ga,0,none⟩) BKg2.out G2_.out _,obj_far (p := ⟨ga,0,none⟩) BKg3.out G3_.out _,kC HCF0.out (below_set GB_.out GS_.out),below_set HB.out GA.out⟩ ?_;(case hg => rfl);(case hd => rfl);(case hr => go_simp;try rfl);rintro ws ⟨k1,k2,k3,k4,k5,k6,k7⟩;(try clear hczgc_0 hczgc_1 hczg1_0 hczg2_0 hczg3_0 hczga_0);(try clear hfzgc_0 hfzgc_1 hfzg1_0 hfzg2_0 hfzg3_0 hfzga_0);clear BKga BKgc BKg1 BKg2 BKg3 HCF HCF0 HB GB_ GS_;have BKga := am k1;have BKgc := am k2;have BKg1 := am k3;have BKg2 := am k4;have BKg3 := am k5;have HCF := am k6;have HB := am k7;clear k1 k2 k3 k4 k5 k6 k7) | (go_at_call 90;refine (ca_Least_1.calls k ga gc g1 g2 g3 Af cf fs (some adb) c0_0 l0_0 A0_1 c0_1 l0_1 a1 a2 a3 10000 true _ BKga.out BKgc.out BKg1.out BKg2.out BKg3.out HCF.out (kC HR1.out HB.out) H6.out).mono ?_;rintro e we ⟨rfl,hb⟩;replace HB := (bmv HB hb);replace BKgc := (kmv hb BKgc);replace BKg1 := (kmv hb BKg1);replace BKg2 := (kmv hb BKg2);replace BKg3 := (kmv hb BKg3);replace HCF := (cmv HCF hb);replace BKga := (kmv hb BKga);(try clear hczgc_0 hfzgc_0);have hczgc_0 := cO1 BKgc.out;(try clear hczgc_1 hfzgc_1);have hczgc_1 : we.cell? ⟨gc,1,none⟩ = some (.slice A0_1 l0_1.length c0_1) := (blk_cell BKgc.out 1).trans rfl;(try clear hczg1_0 hfzg1_0);have hczg1_0 := cO1 BKg1.out;(try clear hczg2_0 hfzg2_0);have hczg2_0 := cO1 BKg2.out;(try clear hczg3_0 hfzg3_0);have hczg3_0 := cO1 BKg3.out;(try clear hczga_0 hfzga_0);have hczga_0 := cO1 BKga.out;have hfzga_0 := blk_frozen BKga.out 0;clear hb))
      go_loopg [12,13] k (fun kq v12 v13 w' => ∃ (lo hi : Int),v12 = .int .i64 lo ∧ v13 = .int .i64 hi ∧ Aside0 (bisGo (enough.f k fs l0_1 a1 a2 a3) kq lo hi = some q) ∧ Aside0 (w'.heap[ga]? = some (.cells #[.slice Af fs.length cf] 120 (0,0))) ∧ Aside0 (w'.heap[gc]? = some (.cells #[.slice (some adb) l0_0.length c0_0,.slice A0_1 l0_1.length c0_1] 89 (0,0))) ∧ Aside0 (w'.heap[g1]? = some (.cells #[.int .i64 a1] 3 (0,0))) ∧ Aside0 (w'.heap[g2]? = some (.cells #[.int .i64 a2] 3 (0,0))) ∧ Aside0 (w'.heap[g3]? = some (.cells #[.int .i64 a3] 3 (0,0))) ∧ Aside0 (Kd.C k99 w' Af fs.length fs) ∧ Aside0 (Below w.heap.size w w'))
      case atStart => exact ⟨0,10000,rfl,rfl,HQ,BKga,BKgc,BKg1,BKg2,BKg3,HCF,HB⟩
      case round =>
       clear HQ BKga BKgc BKg1 BKg2 BKg3 HCF HB
       (try clear hczgc_0 hczgc_1 hczg1_0 hczg2_0 hczg3_0 hczga_0)
       (try clear hfzgc_0 hfzgc_1 hfzg1_0 hfzg2_0 hfzg3_0 hfzga_0)
       obtain ⟨lo,hi,rfl,rfl,HQ,BKga,BKgc,BKg1,BKg2,BKg3,HCF,HB⟩ := hrel
       cases gk with
       | zero => exact absurd HQ.out (by simp [bisGo])
       | succ k1 =>
        have hq := HQ.out
        clear HQ
        simp only [bisGo] at hq
        by_cases hlt : lo < hi
        case neg =>
         rw [if_neg hlt] at hq
         have hd0 : decide (lo < hi) = false := decide_eq_false hlt
         obtain rfl := Option.some.inj hq
         clear hq hlt
         go_wp2
         go_ret2
         exact ⟨rfl,HB.out⟩
        rw [if_pos hlt] at hq
        have hd0 : decide (lo < hi) = true := decide_eq_true hlt
        clear hlt
        obtain ⟨b,hb,hq⟩ := obm hq
        have H7 := am hb
        have HQ := am hq
        clear hb hq
        cases b with
        | false =>
         have hq := HQ.out
         rw [if_neg (by decide)] at hq
         have HQ2 := am hq
         clear hq HQ
         go_wp2_with (go_at_call 90;refine (ca_Least_1.calls k ga gc g1 g2 g3 Af cf fs (some adb) c0_0 l0_0 A0_1 c0_1 l0_1 a1 a2 a3 (wrap64 (Int.tdiv (wrap64 (lo + hi)) 2)) false _ BKga.out BKgc.out BKg1.out BKg2.out BKg3.out HCF.out (kC HR1.out HB.out) H7.out).mono ?_;rintro e we ⟨rfl,hb⟩;replace HB := (bmv HB hb);replace HCF := (cmv HCF hb);replace BKga := (kmv hb BKga);replace BKgc := (kmv hb BKgc);replace BKg1 := (kmv hb BKg1);replace BKg2 := (kmv hb BKg2);replace BKg3 := (kmv hb BKg3);clear hb)
         go_roundg k1
         case rel => exact ⟨(wrap64 ((wrap64 (Int.tdiv (wrap64 (lo + hi)) 2)) + 1)),hi,rfl,rfl,HQ2,BKga,BKgc,BKg1,BKg2,BKg3,HCF,HB⟩
         case measure => omega
        | true =>
         have hq := HQ.out
         rw [if_pos rfl] at hq
         have HQ2 := am hq
         clear hq HQ
         go_wp2_with (go_at_call 90;refine (ca_Least_1.calls k ga gc g1 g2 g3 Af cf fs (some adb) c0_0 l0_0 A0_1 c0_1 l0_1 a1 a2 a3 (wrap64 (Int.tdiv (wrap64 (lo + hi)) 2)) true _ BKga.out BKgc.out BKg1.out BKg2.out BKg3.out HCF.out (kC HR1.out HB.out) H7.out).mono ?_;rintro e we ⟨rfl,hb⟩;replace HB := (bmv HB hb);replace HCF := (cmv HCF hb);replace BKga := (kmv hb BKga);replace BKgc := (kmv hb BKgc);replace BKg1 := (kmv hb BKg1);replace BKg2 := (kmv hb BKg2);replace BKg3 := (kmv hb BKg3);clear hb)
         go_roundg k1
         case rel => exact ⟨lo,(wrap64 (Int.tdiv (wrap64 (lo + hi)) 2)),rfl,rfl,HQ2,BKga,BKgc,BKg1,BKg2,BKg3,HCF,HB⟩
         case measure => omega
end Go.Proofs.YticlelgmmonloaaGreatDoor.C

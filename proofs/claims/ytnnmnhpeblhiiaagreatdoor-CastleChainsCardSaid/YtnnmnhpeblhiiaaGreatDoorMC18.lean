/- A part of the proof: the walks of the functions that it reaches. TIGHT. -/
import Derived.Test.YtnnmnhpeblhiiaaGreatDoorMC17
import Derived.BigQuiet
import Derived.WalkSpells
import Derived.Lib.SliceRun
set_option linter.unusedVariables false
set_option linter.unusedSimpArgs false
namespace Go.Proofs.YtnnmnhpeblhiiaaGreatDoor.C
open Go.RowKit Go.Proofs.YtnnmnhpeblhiiaaGreatDoorW.PrintWords Go.Proofs.YtnnmnhpeblhiiaaGreatDoorW.PrintLast Go.Proofs.YtnnmnhpeblhiiaaGreatDoorW.PrintMore
set_option linter.unusedVariables false
set_option linter.unusedSimpArgs false
set_option maxHeartbeats 16000000
set_option maxRecDepth 100000
theorem event_abs {P : Program} {ops : Array Oper} {o : Oper} {a : Act} {Q : Exit → Act → World → Prop} {rest : List Oper} {W : World} {v : Value} (Rr : World → Prop) (hgd : o.guard = none)
 (hrun : (execOp a.eval o).run P W = .ok (.value v) W) (hR : Rr W) (h : ∀ W',Rr W' → wpList P ops Q rest (a.put o.dst v) W') : wpList P ops Q (o :: rest) a W := Kd.event_run hgd hrun (h W hR)
theorem mkmap_event {P : Program} {ops : Array Oper} {o : Oper} {a : Act} {Q : Exit → Act → World → Prop} {rest : List Oper} {W : World} (hgd : o.guard = none)
 (hrun : (execOp a.eval o).run P W = .ok (.value (.map (some W.heap.size))) (W.alloc (.map #[] 0)))
 (h : ∀ g,g = W.heap.size → ∀ w1,w1.heap[g]? = some (.map #[] 0) → Below W.heap.size W w1 → wpList P ops Q rest (a.put o.dst (.map (some g))) w1) : wpList P ops Q (o :: rest) a W := Kd.event_run hgd hrun (h _ rfl _ (blk_new W _) (below_alloc (Below.refl _ _) _))
def chainGo (l0_0 : List S27) : List S66 → Int → List S66 → Option Bool
 | [],_,_ => some true
 | x :: rest,i,met => if hasFeed met x = true then some false else (ca_in.f x.f0 0 i).bind fun t => if t = true then (if 0 ≤ x.f0 then (if x.f0 < (l0_0.length : Int) then (ca_in.f x.f1 (-1) (wrap64 (((rd_T27 l0_0 x.f0).f1.length : Int) - 1))).bind fun u => if u = true then chainGo l0_0 rest (i + 1) (met ++ [x]) else some false else none) else none) else some false
def ca_isChain.f (l0_0 : List S27) (l0_1 : List S66) : Option Bool :=
 (ca_in.f (l0_0.length : Int) 1 4).bind fun t => if t = true then (if (l0_1.length : Int) = (l0_0.length : Int) - 1 then (cf_isChain.f l0_0).bind fun u => if u = true then some false else chainGo l0_0 l0_1 0 [] else some false) else some false
theorem ca_isChain.calls (A0_0 : Option Addr) (c0_0 : Nat) (l0_0 : List S27) (A0_1 : Option Addr) (c0_1 : Nat) (l0_1 : List S66) (r : Bool) (w : World) (hr0_0 : Kd.C k27 w A0_0 l0_0.length l0_0) (hc0_0 : l0_0.length ≤ c0_0) (hr0_1 : Kd.C k66 w A0_1 l0_1.length l0_1) (hc0_1 : l0_1.length ≤ c0_1) (h : ca_isChain.f l0_0 l0_1 = some r) :
 Calls Tryz.prog 80 #[.agg #[.slice A0_0 l0_0.length c0_0,.slice A0_1 l0_1.length c0_1]] w fun e w' => e = .returned (.bool r) ∧ Below w.heap.size w w' := by
 have hu := Tryz.underlying59
 have huf := Tryz.underlying66
 have hub := Tryz.underlying27
 have hmm := @run_makeMap Tryz.prog
 have hm0 : l0_0.length ≤ 9223372036854775807 := Kd.C_max hr0_0
 have hm1 : l0_1.length ≤ 9223372036854775807 := Kd.C_max hr0_1
 have HR0 := Aside0.mk hr0_0
 have HC0 := Aside0.mk hc0_0
 have HR1 := Aside0.mk hr0_1
 have HC1 := Aside0.mk hc0_1
 have HB := Aside0.mk (Below.refl w.heap.size w)
 clear hr0_0 hc0_0 hr0_1 hc0_1
 unfold ca_isChain.f at h
 obtain ⟨t,ht,h⟩ := obm h
 have H1 := Aside0.mk ht
 clear ht
 cases t with
 | false =>
  rw [if_neg (by decide)] at h
  obtain rfl := Option.some.inj h
  clear h
  go_enter Tryz.func80,Tryz.ntmps80
  go_wp2_with (first | ((with_reducible refine gate_dst (N := 1) rfl ?_);(try (refine gate_guard (by rfl) ?_;dsimp only));refine box_event ?hg (N := 1) ?hd (cs := #[.slice A0_0 l0_0.length c0_0,.slice A0_1 l0_1.length c0_1]) (t := 59) ?hr ?_;(case hd => rfl);(case hg => rfl);(case hr => go_simp;try rfl);intro gc hg w1 hbox hb;have n_ := Aside0.mk (below_then HB.out HB.out.size hb);clear HB;have HB := n_;clear n_;clear hg;have BKgc := Aside0.mk hbox;clear hbox;(try clear hczgc_0 hfzgc_0);have hczgc_0 : w1.cell? ⟨gc,0,none⟩ = some (.slice A0_0 l0_0.length c0_0) := (blk_cell BKgc.out 0).trans rfl;have hfzgc_0 := blk_frozen BKgc.out 0;(try clear hczgc_1 hfzgc_1);have hczgc_1 : w1.cell? ⟨gc,1,none⟩ = some (.slice A0_1 l0_1.length c0_1) := (blk_cell BKgc.out 1).trans rfl;have hfzgc_1 := blk_frozen BKgc.out 1;clear hb) | (go_at_call 79;(with_reducible refine (ca_in.calls (l0_0.length : Int) 1 4 false _ H1.out).mono ?_);rintro e w1 ⟨rfl,hd⟩;have hb := hd.below;clear hd;have n_ := Aside0.mk (below_then HB.out HB.out.size hb);clear HB;have HB := n_;clear n_;have n_ := Aside0.mk (blk_below BKgc.out hb);clear BKgc;have BKgc := n_;clear n_;(try clear hczgc_0 hfzgc_0);have hczgc_0 : w1.cell? ⟨gc,0,none⟩ = some (.slice A0_0 l0_0.length c0_0) := (blk_cell BKgc.out 0).trans rfl;have hfzgc_0 := blk_frozen BKgc.out 0;(try clear hczgc_1 hfzgc_1);have hczgc_1 : w1.cell? ⟨gc,1,none⟩ = some (.slice A0_1 l0_1.length c0_1) := (blk_cell BKgc.out 1).trans rfl;have hfzgc_1 := blk_frozen BKgc.out 1;clear hb))
  go_ret
  exact ⟨rfl,HB.out⟩
 | true =>
  rw [if_pos rfl] at h
  by_cases hl : (l0_1.length : Int) = ((l0_0.length : Int) - 1)
  · rw [if_pos hl] at h
    have b1 : ((l0_1.length : Int) != ((l0_0.length : Int) - 1)) = false := by rw [← hl];simp
    have b2 : ((l0_1.length : Int) == ((l0_0.length : Int) - 1)) = true := by rw [← hl];simp
    have HL := Aside0.mk hl
    clear hl
    obtain ⟨u,hu2,h⟩ := obm h
    have H2 := Aside0.mk hu2
    clear hu2
    cases u with
    | true =>
     rw [if_pos rfl] at h
     obtain rfl := Option.some.inj h
     clear h
     go_enter Tryz.func80,Tryz.ntmps80
     go_wp2_with (first | ((with_reducible refine gate_dst (N := 1) rfl ?_);(try (refine gate_guard (by rfl) ?_;dsimp only));refine box_event ?hg (N := 1) ?hd (cs := #[.slice A0_0 l0_0.length c0_0,.slice A0_1 l0_1.length c0_1]) (t := 59) ?hr ?_;(case hd => rfl);(case hg => rfl);(case hr => go_simp;try rfl);intro gc hg w1 hbox hb;have n_ := Aside0.mk (below_then HB.out HB.out.size hb);clear HB;have HB := n_;clear n_;clear hg;have BKgc := Aside0.mk hbox;clear hbox;(try clear hczgc_0 hfzgc_0);have hczgc_0 : w1.cell? ⟨gc,0,none⟩ = some (.slice A0_0 l0_0.length c0_0) := (blk_cell BKgc.out 0).trans rfl;have hfzgc_0 := blk_frozen BKgc.out 0;(try clear hczgc_1 hfzgc_1);have hczgc_1 : w1.cell? ⟨gc,1,none⟩ = some (.slice A0_1 l0_1.length c0_1) := (blk_cell BKgc.out 1).trans rfl;have hfzgc_1 := blk_frozen BKgc.out 1;clear hb) | (go_at_call 79;(with_reducible refine (ca_in.calls (l0_0.length : Int) 1 4 true _ H1.out).mono ?_);rintro e w1 ⟨rfl,hd⟩;have hb := hd.below;clear hd;have n_ := Aside0.mk (below_then HB.out HB.out.size hb);clear HB;have HB := n_;clear n_;have n_ := Aside0.mk (blk_below BKgc.out hb);clear BKgc;have BKgc := n_;clear n_;(try clear hczgc_0 hfzgc_0);have hczgc_0 : w1.cell? ⟨gc,0,none⟩ = some (.slice A0_0 l0_0.length c0_0) := (blk_cell BKgc.out 0).trans rfl;have hfzgc_0 := blk_frozen BKgc.out 0;(try clear hczgc_1 hfzgc_1);have hczgc_1 : w1.cell? ⟨gc,1,none⟩ = some (.slice A0_1 l0_1.length c0_1) := (blk_cell BKgc.out 1).trans rfl;have hfzgc_1 := blk_frozen BKgc.out 1;clear hb) | (go_at_call 116;(with_reducible refine (cf_isChain.calls A0_0 c0_0 l0_0 true _ (kC HR0.out HB.out) HC0.out H2.out).mono ?_);rintro e wc ⟨rfl,hb⟩;have n_ := Aside0.mk (below_then HB.out HB.out.size hb);clear HB;have HB := n_;clear n_;have n_ := Aside0.mk (blk_below BKgc.out hb);clear BKgc;have BKgc := n_;clear n_;(try clear hczgc_0 hfzgc_0);have hczgc_0 : wc.cell? ⟨gc,0,none⟩ = some (.slice A0_0 l0_0.length c0_0) := (blk_cell BKgc.out 0).trans rfl;have hfzgc_0 := blk_frozen BKgc.out 0;(try clear hczgc_1 hfzgc_1);have hczgc_1 : wc.cell? ⟨gc,1,none⟩ = some (.slice A0_1 l0_1.length c0_1) := (blk_cell BKgc.out 1).trans rfl;have hfzgc_1 := blk_frozen BKgc.out 1;clear hb))
     go_ret
     exact ⟨rfl,HB.out⟩
    | false =>
     rw [if_neg (by decide)] at h
     have HQ := Aside0.mk h
     clear h
     go_enter Tryz.func80,Tryz.ntmps80
     go_wp2_with (first | ((with_reducible refine gate_dst (N := 1) rfl ?_);(try (refine gate_guard (by rfl) ?_;dsimp only));refine box_event ?hg (N := 1) ?hd (cs := #[.slice A0_0 l0_0.length c0_0,.slice A0_1 l0_1.length c0_1]) (t := 59) ?hr ?_;(case hd => rfl);(case hg => rfl);(case hr => go_simp;try rfl);intro gc hg w1 hbox hb;have n_ := Aside0.mk (below_then HB.out HB.out.size hb);clear HB;have HB := n_;clear n_;clear hg;have BKgc := Aside0.mk hbox;clear hbox;(try clear hczgc_0 hfzgc_0);have hczgc_0 : w1.cell? ⟨gc,0,none⟩ = some (.slice A0_0 l0_0.length c0_0) := (blk_cell BKgc.out 0).trans rfl;have hfzgc_0 := blk_frozen BKgc.out 0;(try clear hczgc_1 hfzgc_1);have hczgc_1 : w1.cell? ⟨gc,1,none⟩ = some (.slice A0_1 l0_1.length c0_1) := (blk_cell BKgc.out 1).trans rfl;have hfzgc_1 := blk_frozen BKgc.out 1;clear hb) | (go_at_call 79;(with_reducible refine (ca_in.calls (l0_0.length : Int) 1 4 true _ H1.out).mono ?_);rintro e w1 ⟨rfl,hd⟩;have hb := hd.below;clear hd;have n_ := Aside0.mk (below_then HB.out HB.out.size hb);clear HB;have HB := n_;clear n_;have n_ := Aside0.mk (blk_below BKgc.out hb);clear BKgc;have BKgc := n_;clear n_;(try clear hczgc_0 hfzgc_0);have hczgc_0 : w1.cell? ⟨gc,0,none⟩ = some (.slice A0_0 l0_0.length c0_0) := (blk_cell BKgc.out 0).trans rfl;have hfzgc_0 := blk_frozen BKgc.out 0;(try clear hczgc_1 hfzgc_1);have hczgc_1 : w1.cell? ⟨gc,1,none⟩ = some (.slice A0_1 l0_1.length c0_1) := (blk_cell BKgc.out 1).trans rfl;have hfzgc_1 := blk_frozen BKgc.out 1;clear hb) | (go_at_call 116;(with_reducible refine (cf_isChain.calls A0_0 c0_0 l0_0 false _ (kC HR0.out HB.out) HC0.out H2.out).mono ?_);rintro e wc ⟨rfl,hb⟩;have n_ := Aside0.mk (below_then HB.out HB.out.size hb);clear HB;have HB := n_;clear n_;have n_ := Aside0.mk (blk_below BKgc.out hb);clear BKgc;have BKgc := n_;clear n_;(try clear hczgc_0 hfzgc_0);have hczgc_0 : wc.cell? ⟨gc,0,none⟩ = some (.slice A0_0 l0_0.length c0_0) := (blk_cell BKgc.out 0).trans rfl;have hfzgc_0 := blk_frozen BKgc.out 0;(try clear hczgc_1 hfzgc_1);have hczgc_1 : wc.cell? ⟨gc,1,none⟩ = some (.slice A0_1 l0_1.length c0_1) := (blk_cell BKgc.out 1).trans rfl;have hfzgc_1 := blk_frozen BKgc.out 1;clear hb) | ((with_reducible refine gate_dst (N := 28) rfl ?_);refine mkmap_event ?hg ?hr ?_;(case hg => rfl);(case hr => go_simp;try rfl);intro gm hgm wm hmap hb;have HNgc_gm := Aside0.mk (show gc ≠ gm by have := blk_lt BKgc.out;omega);have HGm := Aside0.mk (show w.heap.size ≤ gm by have := HB.out.size;omega);have n_ := Aside0.mk (blk_below BKgc.out hb);have m_ := Aside0.mk (below_then HB.out HB.out.size hb);(try clear hczgc_0 hczgc_1 hfzgc_0 hfzgc_1);(try clear hczgf_0 hczgf_1 hfzgf_0 hfzgf_1);clear hgm hb BKgc HB;have BKgc := n_;have HB := m_;clear n_ m_;have BKm := Aside0.mk hmap;clear hmap;have hczgc_0 : wm.cell? ⟨gc,0,none⟩ = some (.slice A0_0 l0_0.length c0_0) := (blk_cell BKgc.out 0).trans rfl;have hczgc_1 : wm.cell? ⟨gc,1,none⟩ = some (.slice A0_1 l0_1.length c0_1) := (blk_cell BKgc.out 1).trans rfl))
     go_loopw [32] (fun v32 w' => ∃ i : Int,0 ≤ i ∧ i ≤ l0_1.length ∧ v32 = .int .i64 i ∧ Aside0 (chainGo l0_0 (l0_1.drop i.toNat) i (l0_1.take i.toNat) = some r) ∧ Aside0 (Below w.heap.size w w') ∧ Aside0 (w'.heap[gc]? = some (.cells #[.slice A0_0 l0_0.length c0_0,.slice A0_1 l0_1.length c0_1] 59 (0,0))) ∧ Aside0 (w'.heap[gm]? = some (.map (ents (l0_1.take i.toNat)).toArray (l0_1.take i.toNat).length))) (fun v32 _ => l0_1.length - (intOf v32).toNat)
     case atStart => exact ⟨0,by omega,by omega,rfl,HQ,HB,BKgc,BKm⟩
     case round =>
      clear HQ HB BKgc BKm
      obtain ⟨i,p1,hi,rfl,HQ,HB,BKgc,BKm⟩ := hrel
      by_cases hlt : i < (l0_1.length : Int)
      · obtain ⟨ad,e1,hx0,hx1⟩ := at_T66 HR1.out i p1 hlt
        cases e1
        replace hx0 := (HB.out.cell (wbl hx0)).trans hx0
        replace hx1 := (HB.out.cell (wbl hx1)).trans hx1
        have hq := HQ.out
        rw [drop_at z66 l0_1 i p1 hlt,show l0_1.getD i.toNat z66 = rd_T66 l0_1 i from rfl] at hq
        simp only [chainGo] at hq
        have HT := Aside0.mk (show l0_1.take (i + 1).toNat = l0_1.take i.toNat ++ [rd_T66 l0_1 i] by rw [show (i + 1).toNat = i.toNat + 1 by omega,List.take_succ_eq_append_getElem (by omega)];unfold rd_T66;rw [List.getD_eq_getElem?_getD,List.getElem?_eq_getElem (show i.toNat < l0_1.length by omega)];rfl)
        generalize rd_T66 l0_1 i = fx at *
        generalize hmet : l0_1.take i.toNat = met at *
        have HM := Aside0.mk hmet
        clear hmet HQ
        have hczgc_0 : wr.cell? ⟨gc,0,none⟩ = some (.slice A0_0 l0_0.length c0_0) := (blk_cell BKgc.out 0).trans rfl
        have hczgc_1 : wr.cell? ⟨gc,1,none⟩ = some (.slice (some ad) l0_1.length c0_1) := (blk_cell BKgc.out 1).trans rfl
        cases hhas : hasFeed met fx with
        | true =>
         rw [hhas,if_pos rfl] at hq
         obtain rfl := Option.some.inj hq
         have H3 := Aside0.mk hhas
         clear hq hhas
         go_wp2_with (first | ((with_reducible refine gate_dst (N := 5) rfl ?_);refine box_event ?hg (N := 5) ?hd (cs := #[.int .i64 0,.int .i64 0]) (t := 66) ?hr ?_;(case hd => rfl);(case hg => rfl);(case hr => go_simp;try rfl);intro gf hg w2 hbox hb;have HNgf := Aside0.mk (show gm ≠ gf by have := blk_lt BKm.out;omega);have HNgc := Aside0.mk (show gc ≠ gf by have := blk_lt BKgc.out;omega);have HGf := Aside0.mk (show w.heap.size ≤ gf by have := HB.out.size;omega);have n1 := Aside0.mk (blk_below BKgc.out hb);have n2 := Aside0.mk (blk_below BKm.out hb);have n3 := Aside0.mk (below_then HB.out HB.out.size hb);(try clear hczgc_0 hczgc_1 hfzgc_0 hfzgc_1);(try clear hczgf_0 hczgf_1 hfzgf_0 hfzgf_1);clear hg hb BKgc BKm HB;have BKgc := n1;have BKm := n2;have HB := n3;clear n1 n2 n3;have BKgf := Aside0.mk hbox;clear hbox;have hczgc_0 : w2.cell? ⟨gc,0,none⟩ = some (.slice A0_0 l0_0.length c0_0) := (blk_cell BKgc.out 0).trans rfl;have hczgc_1 : w2.cell? ⟨gc,1,none⟩ = some (.slice (some ad) l0_1.length c0_1) := (blk_cell BKgc.out 1).trans rfl;have hczgf_0 : w2.cell? ⟨gf,0,none⟩ = some (.int .i64 0) := (blk_cell BKgf.out 0).trans rfl;have hczgf_1 : w2.cell? ⟨gf,1,none⟩ = some (.int .i64 0) := (blk_cell BKgf.out 1).trans rfl;have hfzgf_0 := blk_frozen BKgf.out 0;have hfzgf_1 := blk_frozen BKgf.out 1) | ((with_reducible refine gate_dst (N := 40) rfl ?_);refine event_abs (v := .tuple #[.agg #[],.bool true]) (fun W' => W'.heap[gf]? = some (.cells #[.int .i64 fx.f0,.int .i64 fx.f1] 66 (0,0)) ∧ W'.heap[gc]? = some (.cells #[.slice A0_0 l0_0.length c0_0,.slice (some ad) l0_1.length c0_1] 59 (0,0)) ∧ W'.heap[gm]? = some (.map (ents met).toArray met.length) ∧ Below w.heap.size w W') ?hg ?hr ⟨(blk_set (blk_set BKgf.out 0 _) 1 _).trans rfl,(obj_far (p := ⟨gf,1,none⟩) (obj_far (p := ⟨gf,0,none⟩) BKgc.out HNgc.out (.int .i64 fx.f0)) HNgc.out (.int .i64 fx.f1)),(obj_far (p := ⟨gf,1,none⟩) (obj_far (p := ⟨gf,0,none⟩) BKm.out HNgf.out (.int .i64 fx.f0)) HNgf.out (.int .i64 fx.f1)),below_set (below_set HB.out HGf.out) HGf.out⟩ ?_;(case hg => rfl);(case hr => (have hl := lookE _ gm met _ fx (obj_far (p := ⟨gf,1,none⟩) (obj_far (p := ⟨gf,0,none⟩) BKm.out HNgf.out (.int .i64 fx.f0)) HNgf.out (.int .i64 fx.f1)));(try rw [H3.out] at hl);first | (go_simp;done) | (go_simp;rfl));rintro w4 ⟨k1,k2,k3,k4⟩;(try clear hczgc_0 hczgc_1 hfzgc_0 hfzgc_1);(try clear hczgf_0 hczgf_1 hfzgf_0 hfzgf_1);clear BKgf BKgc BKm HB;have BKgf := Aside0.mk k1;have BKgc := Aside0.mk k2;have BKm := Aside0.mk k3;have HB := Aside0.mk k4;clear k1 k2 k3 k4;have hczgc_0 : w4.cell? ⟨gc,0,none⟩ = some (.slice A0_0 l0_0.length c0_0) := (blk_cell BKgc.out 0).trans rfl;have hczgc_1 : w4.cell? ⟨gc,1,none⟩ = some (.slice (some ad) l0_1.length c0_1) := (blk_cell BKgc.out 1).trans rfl;have hczgf_0 : w4.cell? ⟨gf,0,none⟩ = some (.int .i64 fx.f0) := (blk_cell BKgf.out 0).trans rfl;have hczgf_1 : w4.cell? ⟨gf,1,none⟩ = some (.int .i64 fx.f1) := (blk_cell BKgf.out 1).trans rfl) | ((with_reducible refine gate_dst (N := 6) rfl ?_);refine box_event ?hg (N := 6) ?hd (cs := #[]) (t := 149) ?hr ?_;(case hd => rfl);(case hg => rfl);(case hr => go_simp;try rfl);intro gu hg w5 hbox hb;have n1 := Aside0.mk (blk_below BKgc.out hb);have n2 := Aside0.mk (blk_below BKm.out hb);have n3 := Aside0.mk (below_then HB.out HB.out.size hb);have n4 := Aside0.mk (blk_below BKgf.out hb);(try clear hczgc_0 hczgc_1 hfzgc_0 hfzgc_1);(try clear hczgf_0 hczgf_1 hfzgf_0 hfzgf_1);clear hg hb hbox BKgc BKm HB BKgf;have BKgc := n1;have BKm := n2;have HB := n3;have BKgf := n4;clear n1 n2 n3 n4;have hczgc_0 : w5.cell? ⟨gc,0,none⟩ = some (.slice A0_0 l0_0.length c0_0) := (blk_cell BKgc.out 0).trans rfl;have hczgc_1 : w5.cell? ⟨gc,1,none⟩ = some (.slice (some ad) l0_1.length c0_1) := (blk_cell BKgc.out 1).trans rfl;have hczgf_0 : w5.cell? ⟨gf,0,none⟩ = some (.int .i64 fx.f0) := (blk_cell BKgf.out 0).trans rfl;have hczgf_1 : w5.cell? ⟨gf,1,none⟩ = some (.int .i64 fx.f1) := (blk_cell BKgf.out 1).trans rfl;skip))
         go_quiet (fail)
         try go_wp2_with (first | ((with_reducible refine gate_dst (N := 5) rfl ?_);refine box_event ?hg (N := 5) ?hd (cs := #[.int .i64 0,.int .i64 0]) (t := 66) ?hr ?_;(case hd => rfl);(case hg => rfl);(case hr => go_simp;try rfl);intro gf hg w2 hbox hb;have HNgf := Aside0.mk (show gm ≠ gf by have := blk_lt BKm.out;omega);have HNgc := Aside0.mk (show gc ≠ gf by have := blk_lt BKgc.out;omega);have HGf := Aside0.mk (show w.heap.size ≤ gf by have := HB.out.size;omega);have n1 := Aside0.mk (blk_below BKgc.out hb);have n2 := Aside0.mk (blk_below BKm.out hb);have n3 := Aside0.mk (below_then HB.out HB.out.size hb);(try clear hczgc_0 hczgc_1 hfzgc_0 hfzgc_1);(try clear hczgf_0 hczgf_1 hfzgf_0 hfzgf_1);clear hg hb BKgc BKm HB;have BKgc := n1;have BKm := n2;have HB := n3;clear n1 n2 n3;have BKgf := Aside0.mk hbox;clear hbox;have hczgc_0 : w2.cell? ⟨gc,0,none⟩ = some (.slice A0_0 l0_0.length c0_0) := (blk_cell BKgc.out 0).trans rfl;have hczgc_1 : w2.cell? ⟨gc,1,none⟩ = some (.slice (some ad) l0_1.length c0_1) := (blk_cell BKgc.out 1).trans rfl;have hczgf_0 : w2.cell? ⟨gf,0,none⟩ = some (.int .i64 0) := (blk_cell BKgf.out 0).trans rfl;have hczgf_1 : w2.cell? ⟨gf,1,none⟩ = some (.int .i64 0) := (blk_cell BKgf.out 1).trans rfl;have hfzgf_0 := blk_frozen BKgf.out 0;have hfzgf_1 := blk_frozen BKgf.out 1) | ((with_reducible refine gate_dst (N := 40) rfl ?_);refine event_abs (v := .tuple #[.agg #[],.bool true]) (fun W' => W'.heap[gf]? = some (.cells #[.int .i64 fx.f0,.int .i64 fx.f1] 66 (0,0)) ∧ W'.heap[gc]? = some (.cells #[.slice A0_0 l0_0.length c0_0,.slice (some ad) l0_1.length c0_1] 59 (0,0)) ∧ W'.heap[gm]? = some (.map (ents met).toArray met.length) ∧ Below w.heap.size w W') ?hg ?hr ⟨(blk_set (blk_set BKgf.out 0 _) 1 _).trans rfl,(obj_far (p := ⟨gf,1,none⟩) (obj_far (p := ⟨gf,0,none⟩) BKgc.out HNgc.out (.int .i64 fx.f0)) HNgc.out (.int .i64 fx.f1)),(obj_far (p := ⟨gf,1,none⟩) (obj_far (p := ⟨gf,0,none⟩) BKm.out HNgf.out (.int .i64 fx.f0)) HNgf.out (.int .i64 fx.f1)),below_set (below_set HB.out HGf.out) HGf.out⟩ ?_;(case hg => rfl);(case hr => (have hl := lookE _ gm met _ fx (obj_far (p := ⟨gf,1,none⟩) (obj_far (p := ⟨gf,0,none⟩) BKm.out HNgf.out (.int .i64 fx.f0)) HNgf.out (.int .i64 fx.f1)));(try rw [H3.out] at hl);first | (go_simp;done) | (go_simp;rfl));rintro w4 ⟨k1,k2,k3,k4⟩;(try clear hczgc_0 hczgc_1 hfzgc_0 hfzgc_1);(try clear hczgf_0 hczgf_1 hfzgf_0 hfzgf_1);clear BKgf BKgc BKm HB;have BKgf := Aside0.mk k1;have BKgc := Aside0.mk k2;have BKm := Aside0.mk k3;have HB := Aside0.mk k4;clear k1 k2 k3 k4;have hczgc_0 : w4.cell? ⟨gc,0,none⟩ = some (.slice A0_0 l0_0.length c0_0) := (blk_cell BKgc.out 0).trans rfl;have hczgc_1 : w4.cell? ⟨gc,1,none⟩ = some (.slice (some ad) l0_1.length c0_1) := (blk_cell BKgc.out 1).trans rfl;have hczgf_0 : w4.cell? ⟨gf,0,none⟩ = some (.int .i64 fx.f0) := (blk_cell BKgf.out 0).trans rfl;have hczgf_1 : w4.cell? ⟨gf,1,none⟩ = some (.int .i64 fx.f1) := (blk_cell BKgf.out 1).trans rfl) | ((with_reducible refine gate_dst (N := 6) rfl ?_);refine box_event ?hg (N := 6) ?hd (cs := #[]) (t := 149) ?hr ?_;(case hd => rfl);(case hg => rfl);(case hr => go_simp;try rfl);intro gu hg w5 hbox hb;have n1 := Aside0.mk (blk_below BKgc.out hb);have n2 := Aside0.mk (blk_below BKm.out hb);have n3 := Aside0.mk (below_then HB.out HB.out.size hb);have n4 := Aside0.mk (blk_below BKgf.out hb);(try clear hczgc_0 hczgc_1 hfzgc_0 hfzgc_1);(try clear hczgf_0 hczgf_1 hfzgf_0 hfzgf_1);clear hg hb hbox BKgc BKm HB BKgf;have BKgc := n1;have BKm := n2;have HB := n3;have BKgf := n4;clear n1 n2 n3 n4;have hczgc_0 : w5.cell? ⟨gc,0,none⟩ = some (.slice A0_0 l0_0.length c0_0) := (blk_cell BKgc.out 0).trans rfl;have hczgc_1 : w5.cell? ⟨gc,1,none⟩ = some (.slice (some ad) l0_1.length c0_1) := (blk_cell BKgc.out 1).trans rfl;have hczgf_0 : w5.cell? ⟨gf,0,none⟩ = some (.int .i64 fx.f0) := (blk_cell BKgf.out 0).trans rfl;have hczgf_1 : w5.cell? ⟨gf,1,none⟩ = some (.int .i64 fx.f1) := (blk_cell BKgf.out 1).trans rfl;skip))
         go_ret
         exact ⟨rfl,pw_below_drewN HB.out _⟩
        | false =>
         rw [hhas,if_neg (by decide)] at hq
         have H3 := Aside0.mk hhas
         clear hhas
         obtain ⟨t4,ht,hq⟩ := obm hq
         have H4 := Aside0.mk ht
         clear ht
         cases t4 with
         | false =>
          rw [if_neg (by decide)] at hq
          obtain rfl := Option.some.inj hq
          clear hq
          go_wp2_with (first | ((with_reducible refine gate_dst (N := 5) rfl ?_);refine box_event ?hg (N := 5) ?hd (cs := #[.int .i64 0,.int .i64 0]) (t := 66) ?hr ?_;(case hd => rfl);(case hg => rfl);(case hr => go_simp;try rfl);intro gf hg w2 hbox hb;have HNgf := Aside0.mk (show gm ≠ gf by have := blk_lt BKm.out;omega);have HNgc := Aside0.mk (show gc ≠ gf by have := blk_lt BKgc.out;omega);have HGf := Aside0.mk (show w.heap.size ≤ gf by have := HB.out.size;omega);have n1 := Aside0.mk (blk_below BKgc.out hb);have n2 := Aside0.mk (blk_below BKm.out hb);have n3 := Aside0.mk (below_then HB.out HB.out.size hb);(try clear hczgc_0 hczgc_1 hfzgc_0 hfzgc_1);(try clear hczgf_0 hczgf_1 hfzgf_0 hfzgf_1);clear hg hb BKgc BKm HB;have BKgc := n1;have BKm := n2;have HB := n3;clear n1 n2 n3;have BKgf := Aside0.mk hbox;clear hbox;have hczgc_0 : w2.cell? ⟨gc,0,none⟩ = some (.slice A0_0 l0_0.length c0_0) := (blk_cell BKgc.out 0).trans rfl;have hczgc_1 : w2.cell? ⟨gc,1,none⟩ = some (.slice (some ad) l0_1.length c0_1) := (blk_cell BKgc.out 1).trans rfl;have hczgf_0 : w2.cell? ⟨gf,0,none⟩ = some (.int .i64 0) := (blk_cell BKgf.out 0).trans rfl;have hczgf_1 : w2.cell? ⟨gf,1,none⟩ = some (.int .i64 0) := (blk_cell BKgf.out 1).trans rfl;have hfzgf_0 := blk_frozen BKgf.out 0;have hfzgf_1 := blk_frozen BKgf.out 1) | ((with_reducible refine gate_dst (N := 40) rfl ?_);refine event_abs (v := .tuple #[.agg #[],.bool false]) (fun W' => W'.heap[gf]? = some (.cells #[.int .i64 fx.f0,.int .i64 fx.f1] 66 (0,0)) ∧ W'.heap[gc]? = some (.cells #[.slice A0_0 l0_0.length c0_0,.slice (some ad) l0_1.length c0_1] 59 (0,0)) ∧ W'.heap[gm]? = some (.map (ents met).toArray met.length) ∧ Below w.heap.size w W') ?hg ?hr ⟨(blk_set (blk_set BKgf.out 0 _) 1 _).trans rfl,(obj_far (p := ⟨gf,1,none⟩) (obj_far (p := ⟨gf,0,none⟩) BKgc.out HNgc.out (.int .i64 fx.f0)) HNgc.out (.int .i64 fx.f1)),(obj_far (p := ⟨gf,1,none⟩) (obj_far (p := ⟨gf,0,none⟩) BKm.out HNgf.out (.int .i64 fx.f0)) HNgf.out (.int .i64 fx.f1)),below_set (below_set HB.out HGf.out) HGf.out⟩ ?_;(case hg => rfl);(case hr => (have hl := lookE _ gm met _ fx (obj_far (p := ⟨gf,1,none⟩) (obj_far (p := ⟨gf,0,none⟩) BKm.out HNgf.out (.int .i64 fx.f0)) HNgf.out (.int .i64 fx.f1)));(try rw [H3.out] at hl);first | (go_simp;done) | (go_simp;rfl));rintro w4 ⟨k1,k2,k3,k4⟩;(try clear hczgc_0 hczgc_1 hfzgc_0 hfzgc_1);(try clear hczgf_0 hczgf_1 hfzgf_0 hfzgf_1);clear BKgf BKgc BKm HB;have BKgf := Aside0.mk k1;have BKgc := Aside0.mk k2;have BKm := Aside0.mk k3;have HB := Aside0.mk k4;clear k1 k2 k3 k4;have hczgc_0 : w4.cell? ⟨gc,0,none⟩ = some (.slice A0_0 l0_0.length c0_0) := (blk_cell BKgc.out 0).trans rfl;have hczgc_1 : w4.cell? ⟨gc,1,none⟩ = some (.slice (some ad) l0_1.length c0_1) := (blk_cell BKgc.out 1).trans rfl;have hczgf_0 : w4.cell? ⟨gf,0,none⟩ = some (.int .i64 fx.f0) := (blk_cell BKgf.out 0).trans rfl;have hczgf_1 : w4.cell? ⟨gf,1,none⟩ = some (.int .i64 fx.f1) := (blk_cell BKgf.out 1).trans rfl) | ((with_reducible refine gate_dst (N := 6) rfl ?_);refine box_event ?hg (N := 6) ?hd (cs := #[]) (t := 149) ?hr ?_;(case hd => rfl);(case hg => rfl);(case hr => go_simp;try rfl);intro gu hg w5 hbox hb;have n1 := Aside0.mk (blk_below BKgc.out hb);have n2 := Aside0.mk (blk_below BKm.out hb);have n3 := Aside0.mk (below_then HB.out HB.out.size hb);have n4 := Aside0.mk (blk_below BKgf.out hb);(try clear hczgc_0 hczgc_1 hfzgc_0 hfzgc_1);(try clear hczgf_0 hczgf_1 hfzgf_0 hfzgf_1);clear hg hb hbox BKgc BKm HB BKgf;have BKgc := n1;have BKm := n2;have HB := n3;have BKgf := n4;clear n1 n2 n3 n4;have hczgc_0 : w5.cell? ⟨gc,0,none⟩ = some (.slice A0_0 l0_0.length c0_0) := (blk_cell BKgc.out 0).trans rfl;have hczgc_1 : w5.cell? ⟨gc,1,none⟩ = some (.slice (some ad) l0_1.length c0_1) := (blk_cell BKgc.out 1).trans rfl;have hczgf_0 : w5.cell? ⟨gf,0,none⟩ = some (.int .i64 fx.f0) := (blk_cell BKgf.out 0).trans rfl;have hczgf_1 : w5.cell? ⟨gf,1,none⟩ = some (.int .i64 fx.f1) := (blk_cell BKgf.out 1).trans rfl;skip) | (go_at_call 79;(with_reducible refine (ca_in.calls fx.f0 0 i false _ H4.out).mono ?_);rintro e w' ⟨rfl,⟨nd,rfl⟩⟩;(try first | exact ⟨rfl,_,World.drewN_drewN _ _ _⟩ | exact ⟨rfl,_,Eq.trans (World.drewN_drewN _ _ _) (congrArg (World.drewN _) (Nat.add_assoc _ _ _))⟩)))
          go_quiet ((go_at_call 79;(with_reducible refine (ca_in.calls fx.f0 0 i false _ H4.out).mono ?_);rintro e w' ⟨rfl,⟨nd,rfl⟩⟩;(try first | exact ⟨rfl,_,World.drewN_drewN _ _ _⟩ | exact ⟨rfl,_,Eq.trans (World.drewN_drewN _ _ _) (congrArg (World.drewN _) (Nat.add_assoc _ _ _))⟩)))
          try go_wp2_with (first | ((with_reducible refine gate_dst (N := 5) rfl ?_);refine box_event ?hg (N := 5) ?hd (cs := #[.int .i64 0,.int .i64 0]) (t := 66) ?hr ?_;(case hd => rfl);(case hg => rfl);(case hr => go_simp;try rfl);intro gf hg w2 hbox hb;have HNgf := Aside0.mk (show gm ≠ gf by have := blk_lt BKm.out;omega);have HNgc := Aside0.mk (show gc ≠ gf by have := blk_lt BKgc.out;omega);have HGf := Aside0.mk (show w.heap.size ≤ gf by have := HB.out.size;omega);have n1 := Aside0.mk (blk_below BKgc.out hb);have n2 := Aside0.mk (blk_below BKm.out hb);have n3 := Aside0.mk (below_then HB.out HB.out.size hb);(try clear hczgc_0 hczgc_1 hfzgc_0 hfzgc_1);(try clear hczgf_0 hczgf_1 hfzgf_0 hfzgf_1);clear hg hb BKgc BKm HB;have BKgc := n1;have BKm := n2;have HB := n3;clear n1 n2 n3;have BKgf := Aside0.mk hbox;clear hbox;have hczgc_0 : w2.cell? ⟨gc,0,none⟩ = some (.slice A0_0 l0_0.length c0_0) := (blk_cell BKgc.out 0).trans rfl;have hczgc_1 : w2.cell? ⟨gc,1,none⟩ = some (.slice (some ad) l0_1.length c0_1) := (blk_cell BKgc.out 1).trans rfl;have hczgf_0 : w2.cell? ⟨gf,0,none⟩ = some (.int .i64 0) := (blk_cell BKgf.out 0).trans rfl;have hczgf_1 : w2.cell? ⟨gf,1,none⟩ = some (.int .i64 0) := (blk_cell BKgf.out 1).trans rfl;have hfzgf_0 := blk_frozen BKgf.out 0;have hfzgf_1 := blk_frozen BKgf.out 1) | ((with_reducible refine gate_dst (N := 40) rfl ?_);refine event_abs (v := .tuple #[.agg #[],.bool false]) (fun W' => W'.heap[gf]? = some (.cells #[.int .i64 fx.f0,.int .i64 fx.f1] 66 (0,0)) ∧ W'.heap[gc]? = some (.cells #[.slice A0_0 l0_0.length c0_0,.slice (some ad) l0_1.length c0_1] 59 (0,0)) ∧ W'.heap[gm]? = some (.map (ents met).toArray met.length) ∧ Below w.heap.size w W') ?hg ?hr ⟨(blk_set (blk_set BKgf.out 0 _) 1 _).trans rfl,(obj_far (p := ⟨gf,1,none⟩) (obj_far (p := ⟨gf,0,none⟩) BKgc.out HNgc.out (.int .i64 fx.f0)) HNgc.out (.int .i64 fx.f1)),(obj_far (p := ⟨gf,1,none⟩) (obj_far (p := ⟨gf,0,none⟩) BKm.out HNgf.out (.int .i64 fx.f0)) HNgf.out (.int .i64 fx.f1)),below_set (below_set HB.out HGf.out) HGf.out⟩ ?_;(case hg => rfl);(case hr => (have hl := lookE _ gm met _ fx (obj_far (p := ⟨gf,1,none⟩) (obj_far (p := ⟨gf,0,none⟩) BKm.out HNgf.out (.int .i64 fx.f0)) HNgf.out (.int .i64 fx.f1)));(try rw [H3.out] at hl);first | (go_simp;done) | (go_simp;rfl));rintro w4 ⟨k1,k2,k3,k4⟩;(try clear hczgc_0 hczgc_1 hfzgc_0 hfzgc_1);(try clear hczgf_0 hczgf_1 hfzgf_0 hfzgf_1);clear BKgf BKgc BKm HB;have BKgf := Aside0.mk k1;have BKgc := Aside0.mk k2;have BKm := Aside0.mk k3;have HB := Aside0.mk k4;clear k1 k2 k3 k4;have hczgc_0 : w4.cell? ⟨gc,0,none⟩ = some (.slice A0_0 l0_0.length c0_0) := (blk_cell BKgc.out 0).trans rfl;have hczgc_1 : w4.cell? ⟨gc,1,none⟩ = some (.slice (some ad) l0_1.length c0_1) := (blk_cell BKgc.out 1).trans rfl;have hczgf_0 : w4.cell? ⟨gf,0,none⟩ = some (.int .i64 fx.f0) := (blk_cell BKgf.out 0).trans rfl;have hczgf_1 : w4.cell? ⟨gf,1,none⟩ = some (.int .i64 fx.f1) := (blk_cell BKgf.out 1).trans rfl) | ((with_reducible refine gate_dst (N := 6) rfl ?_);refine box_event ?hg (N := 6) ?hd (cs := #[]) (t := 149) ?hr ?_;(case hd => rfl);(case hg => rfl);(case hr => go_simp;try rfl);intro gu hg w5 hbox hb;have n1 := Aside0.mk (blk_below BKgc.out hb);have n2 := Aside0.mk (blk_below BKm.out hb);have n3 := Aside0.mk (below_then HB.out HB.out.size hb);have n4 := Aside0.mk (blk_below BKgf.out hb);(try clear hczgc_0 hczgc_1 hfzgc_0 hfzgc_1);(try clear hczgf_0 hczgf_1 hfzgf_0 hfzgf_1);clear hg hb hbox BKgc BKm HB BKgf;have BKgc := n1;have BKm := n2;have HB := n3;have BKgf := n4;clear n1 n2 n3 n4;have hczgc_0 : w5.cell? ⟨gc,0,none⟩ = some (.slice A0_0 l0_0.length c0_0) := (blk_cell BKgc.out 0).trans rfl;have hczgc_1 : w5.cell? ⟨gc,1,none⟩ = some (.slice (some ad) l0_1.length c0_1) := (blk_cell BKgc.out 1).trans rfl;have hczgf_0 : w5.cell? ⟨gf,0,none⟩ = some (.int .i64 fx.f0) := (blk_cell BKgf.out 0).trans rfl;have hczgf_1 : w5.cell? ⟨gf,1,none⟩ = some (.int .i64 fx.f1) := (blk_cell BKgf.out 1).trans rfl;skip) | (go_at_call 79;(with_reducible refine (ca_in.calls fx.f0 0 i false _ H4.out).mono ?_);rintro e w' ⟨rfl,⟨nd,rfl⟩⟩;(try first | exact ⟨rfl,_,World.drewN_drewN _ _ _⟩ | exact ⟨rfl,_,Eq.trans (World.drewN_drewN _ _ _) (congrArg (World.drewN _) (Nat.add_assoc _ _ _))⟩)))
          go_ret
          exact ⟨rfl,pw_below_drewN HB.out _⟩
         | true =>
          rw [if_pos rfl] at hq
          by_cases q0 : 0 ≤ fx.f0
          · rw [if_pos q0] at hq
            by_cases q1 : fx.f0 < (l0_0.length : Int)
            · rw [if_pos q1] at hq
              obtain ⟨adb,A0,c0,A2,c2,eb,hy0,hy1,hy2,hy3,hy4,g1,g2,g3,g4⟩ := at_T27 HR0.out fx.f0 q0 q1
              cases eb
              have HY := Aside0.mk hy2
              clear hy0 hy1 hy2 hy3 hy4 g1 g2 g3 g4
              obtain ⟨t5,ht,hq⟩ := obm hq
              have H5 := Aside0.mk ht
              clear ht
              cases t5 with
              | false =>
               rw [if_neg (by decide)] at hq
               obtain rfl := Option.some.inj hq
               clear hq
               go_wp2_with (first | ((with_reducible refine gate_dst (N := 5) rfl ?_);refine box_event ?hg (N := 5) ?hd (cs := #[.int .i64 0,.int .i64 0]) (t := 66) ?hr ?_;(case hd => rfl);(case hg => rfl);(case hr => go_simp;try rfl);intro gf hg w2 hbox hb;have HNgf := Aside0.mk (show gm ≠ gf by have := blk_lt BKm.out;omega);have HNgc := Aside0.mk (show gc ≠ gf by have := blk_lt BKgc.out;omega);have HGf := Aside0.mk (show w.heap.size ≤ gf by have := HB.out.size;omega);have n1 := Aside0.mk (blk_below BKgc.out hb);have n2 := Aside0.mk (blk_below BKm.out hb);have n3 := Aside0.mk (below_then HB.out HB.out.size hb);(try clear hczgc_0 hczgc_1 hfzgc_0 hfzgc_1);(try clear hczgf_0 hczgf_1 hfzgf_0 hfzgf_1);clear hg hb BKgc BKm HB;have BKgc := n1;have BKm := n2;have HB := n3;clear n1 n2 n3;have BKgf := Aside0.mk hbox;clear hbox;have hczgc_0 : w2.cell? ⟨gc,0,none⟩ = some (.slice (some adb) l0_0.length c0_0) := (blk_cell BKgc.out 0).trans rfl;have hczgc_1 : w2.cell? ⟨gc,1,none⟩ = some (.slice (some ad) l0_1.length c0_1) := (blk_cell BKgc.out 1).trans rfl;have hczgf_0 : w2.cell? ⟨gf,0,none⟩ = some (.int .i64 0) := (blk_cell BKgf.out 0).trans rfl;have hczgf_1 : w2.cell? ⟨gf,1,none⟩ = some (.int .i64 0) := (blk_cell BKgf.out 1).trans rfl;have hfzgf_0 := blk_frozen BKgf.out 0;have hfzgf_1 := blk_frozen BKgf.out 1) | ((with_reducible refine gate_dst (N := 40) rfl ?_);refine event_abs (v := .tuple #[.agg #[],.bool false]) (fun W' => W'.heap[gf]? = some (.cells #[.int .i64 fx.f0,.int .i64 fx.f1] 66 (0,0)) ∧ W'.heap[gc]? = some (.cells #[.slice (some adb) l0_0.length c0_0,.slice (some ad) l0_1.length c0_1] 59 (0,0)) ∧ W'.heap[gm]? = some (.map (ents met).toArray met.length) ∧ Below w.heap.size w W') ?hg ?hr ⟨(blk_set (blk_set BKgf.out 0 _) 1 _).trans rfl,(obj_far (p := ⟨gf,1,none⟩) (obj_far (p := ⟨gf,0,none⟩) BKgc.out HNgc.out (.int .i64 fx.f0)) HNgc.out (.int .i64 fx.f1)),(obj_far (p := ⟨gf,1,none⟩) (obj_far (p := ⟨gf,0,none⟩) BKm.out HNgf.out (.int .i64 fx.f0)) HNgf.out (.int .i64 fx.f1)),below_set (below_set HB.out HGf.out) HGf.out⟩ ?_;(case hg => rfl);(case hr => (have hl := lookE _ gm met _ fx (obj_far (p := ⟨gf,1,none⟩) (obj_far (p := ⟨gf,0,none⟩) BKm.out HNgf.out (.int .i64 fx.f0)) HNgf.out (.int .i64 fx.f1)));(try rw [H3.out] at hl);first | (go_simp;done) | (go_simp;rfl));rintro w4 ⟨k1,k2,k3,k4⟩;(try clear hczgc_0 hczgc_1 hfzgc_0 hfzgc_1);(try clear hczgf_0 hczgf_1 hfzgf_0 hfzgf_1);clear BKgf BKgc BKm HB;have BKgf := Aside0.mk k1;have BKgc := Aside0.mk k2;have BKm := Aside0.mk k3;have HB := Aside0.mk k4;clear k1 k2 k3 k4;have hczgc_0 : w4.cell? ⟨gc,0,none⟩ = some (.slice (some adb) l0_0.length c0_0) := (blk_cell BKgc.out 0).trans rfl;have hczgc_1 : w4.cell? ⟨gc,1,none⟩ = some (.slice (some ad) l0_1.length c0_1) := (blk_cell BKgc.out 1).trans rfl;have hczgf_0 : w4.cell? ⟨gf,0,none⟩ = some (.int .i64 fx.f0) := (blk_cell BKgf.out 0).trans rfl;have hczgf_1 : w4.cell? ⟨gf,1,none⟩ = some (.int .i64 fx.f1) := (blk_cell BKgf.out 1).trans rfl) | ((with_reducible refine gate_dst (N := 6) rfl ?_);refine box_event ?hg (N := 6) ?hd (cs := #[]) (t := 149) ?hr ?_;(case hd => rfl);(case hg => rfl);(case hr => go_simp;try rfl);intro gu hg w5 hbox hb;have n1 := Aside0.mk (blk_below BKgc.out hb);have n2 := Aside0.mk (blk_below BKm.out hb);have n3 := Aside0.mk (below_then HB.out HB.out.size hb);have n4 := Aside0.mk (blk_below BKgf.out hb);(try clear hczgc_0 hczgc_1 hfzgc_0 hfzgc_1);(try clear hczgf_0 hczgf_1 hfzgf_0 hfzgf_1);clear hg hb hbox BKgc BKm HB BKgf;have BKgc := n1;have BKm := n2;have HB := n3;have BKgf := n4;clear n1 n2 n3 n4;have hczgc_0 : w5.cell? ⟨gc,0,none⟩ = some (.slice (some adb) l0_0.length c0_0) := (blk_cell BKgc.out 0).trans rfl;have hczgc_1 : w5.cell? ⟨gc,1,none⟩ = some (.slice (some ad) l0_1.length c0_1) := (blk_cell BKgc.out 1).trans rfl;have hczgf_0 : w5.cell? ⟨gf,0,none⟩ = some (.int .i64 fx.f0) := (blk_cell BKgf.out 0).trans rfl;have hczgf_1 : w5.cell? ⟨gf,1,none⟩ = some (.int .i64 fx.f1) := (blk_cell BKgf.out 1).trans rfl;have hy3 := (HB.out.cell (wbl HY.out)).trans HY.out) | (go_at_call 79;(with_reducible refine (ca_in.calls fx.f0 0 i true _ H4.out).mono ?_);rintro e w' ⟨rfl,⟨nd,rfl⟩⟩;(try first | exact ⟨rfl,_,World.drewN_drewN _ _ _⟩ | exact ⟨rfl,_,Eq.trans (World.drewN_drewN _ _ _) (congrArg (World.drewN _) (Nat.add_assoc _ _ _))⟩)) | (go_at_call 79;(with_reducible refine (ca_in.calls fx.f1 (-1) (wrap64 (((rd_T27 l0_0 fx.f0).f1.length : Int) - 1)) false _ H5.out).mono ?_);rintro e w' ⟨rfl,⟨nd,rfl⟩⟩;(try first | exact ⟨rfl,_,World.drewN_drewN _ _ _⟩ | exact ⟨rfl,_,Eq.trans (World.drewN_drewN _ _ _) (congrArg (World.drewN _) (Nat.add_assoc _ _ _))⟩)))
               go_quiet ((first | (go_at_call 79;(with_reducible refine (ca_in.calls fx.f0 0 i true _ H4.out).mono ?_);rintro e w' ⟨rfl,⟨nd,rfl⟩⟩;(try first | exact ⟨rfl,_,World.drewN_drewN _ _ _⟩ | exact ⟨rfl,_,Eq.trans (World.drewN_drewN _ _ _) (congrArg (World.drewN _) (Nat.add_assoc _ _ _))⟩)) | (go_at_call 79;(with_reducible refine (ca_in.calls fx.f1 (-1) (wrap64 (((rd_T27 l0_0 fx.f0).f1.length : Int) - 1)) false _ H5.out).mono ?_);rintro e w' ⟨rfl,⟨nd,rfl⟩⟩;(try first | exact ⟨rfl,_,World.drewN_drewN _ _ _⟩ | exact ⟨rfl,_,Eq.trans (World.drewN_drewN _ _ _) (congrArg (World.drewN _) (Nat.add_assoc _ _ _))⟩))))
               try go_wp2_with (first | ((with_reducible refine gate_dst (N := 5) rfl ?_);refine box_event ?hg (N := 5) ?hd (cs := #[.int .i64 0,.int .i64 0]) (t := 66) ?hr ?_;(case hd => rfl);(case hg => rfl);(case hr => go_simp;try rfl);intro gf hg w2 hbox hb;have HNgf := Aside0.mk (show gm ≠ gf by have := blk_lt BKm.out;omega);have HNgc := Aside0.mk (show gc ≠ gf by have := blk_lt BKgc.out;omega);have HGf := Aside0.mk (show w.heap.size ≤ gf by have := HB.out.size;omega);have n1 := Aside0.mk (blk_below BKgc.out hb);have n2 := Aside0.mk (blk_below BKm.out hb);have n3 := Aside0.mk (below_then HB.out HB.out.size hb);(try clear hczgc_0 hczgc_1 hfzgc_0 hfzgc_1);(try clear hczgf_0 hczgf_1 hfzgf_0 hfzgf_1);clear hg hb BKgc BKm HB;have BKgc := n1;have BKm := n2;have HB := n3;clear n1 n2 n3;have BKgf := Aside0.mk hbox;clear hbox;have hczgc_0 : w2.cell? ⟨gc,0,none⟩ = some (.slice (some adb) l0_0.length c0_0) := (blk_cell BKgc.out 0).trans rfl;have hczgc_1 : w2.cell? ⟨gc,1,none⟩ = some (.slice (some ad) l0_1.length c0_1) := (blk_cell BKgc.out 1).trans rfl;have hczgf_0 : w2.cell? ⟨gf,0,none⟩ = some (.int .i64 0) := (blk_cell BKgf.out 0).trans rfl;have hczgf_1 : w2.cell? ⟨gf,1,none⟩ = some (.int .i64 0) := (blk_cell BKgf.out 1).trans rfl;have hfzgf_0 := blk_frozen BKgf.out 0;have hfzgf_1 := blk_frozen BKgf.out 1) | ((with_reducible refine gate_dst (N := 40) rfl ?_);refine event_abs (v := .tuple #[.agg #[],.bool false]) (fun W' => W'.heap[gf]? = some (.cells #[.int .i64 fx.f0,.int .i64 fx.f1] 66 (0,0)) ∧ W'.heap[gc]? = some (.cells #[.slice (some adb) l0_0.length c0_0,.slice (some ad) l0_1.length c0_1] 59 (0,0)) ∧ W'.heap[gm]? = some (.map (ents met).toArray met.length) ∧ Below w.heap.size w W') ?hg ?hr ⟨(blk_set (blk_set BKgf.out 0 _) 1 _).trans rfl,(obj_far (p := ⟨gf,1,none⟩) (obj_far (p := ⟨gf,0,none⟩) BKgc.out HNgc.out (.int .i64 fx.f0)) HNgc.out (.int .i64 fx.f1)),(obj_far (p := ⟨gf,1,none⟩) (obj_far (p := ⟨gf,0,none⟩) BKm.out HNgf.out (.int .i64 fx.f0)) HNgf.out (.int .i64 fx.f1)),below_set (below_set HB.out HGf.out) HGf.out⟩ ?_;(case hg => rfl);(case hr => (have hl := lookE _ gm met _ fx (obj_far (p := ⟨gf,1,none⟩) (obj_far (p := ⟨gf,0,none⟩) BKm.out HNgf.out (.int .i64 fx.f0)) HNgf.out (.int .i64 fx.f1)));(try rw [H3.out] at hl);first | (go_simp;done) | (go_simp;rfl));rintro w4 ⟨k1,k2,k3,k4⟩;(try clear hczgc_0 hczgc_1 hfzgc_0 hfzgc_1);(try clear hczgf_0 hczgf_1 hfzgf_0 hfzgf_1);clear BKgf BKgc BKm HB;have BKgf := Aside0.mk k1;have BKgc := Aside0.mk k2;have BKm := Aside0.mk k3;have HB := Aside0.mk k4;clear k1 k2 k3 k4;have hczgc_0 : w4.cell? ⟨gc,0,none⟩ = some (.slice (some adb) l0_0.length c0_0) := (blk_cell BKgc.out 0).trans rfl;have hczgc_1 : w4.cell? ⟨gc,1,none⟩ = some (.slice (some ad) l0_1.length c0_1) := (blk_cell BKgc.out 1).trans rfl;have hczgf_0 : w4.cell? ⟨gf,0,none⟩ = some (.int .i64 fx.f0) := (blk_cell BKgf.out 0).trans rfl;have hczgf_1 : w4.cell? ⟨gf,1,none⟩ = some (.int .i64 fx.f1) := (blk_cell BKgf.out 1).trans rfl) | ((with_reducible refine gate_dst (N := 6) rfl ?_);refine box_event ?hg (N := 6) ?hd (cs := #[]) (t := 149) ?hr ?_;(case hd => rfl);(case hg => rfl);(case hr => go_simp;try rfl);intro gu hg w5 hbox hb;have n1 := Aside0.mk (blk_below BKgc.out hb);have n2 := Aside0.mk (blk_below BKm.out hb);have n3 := Aside0.mk (below_then HB.out HB.out.size hb);have n4 := Aside0.mk (blk_below BKgf.out hb);(try clear hczgc_0 hczgc_1 hfzgc_0 hfzgc_1);(try clear hczgf_0 hczgf_1 hfzgf_0 hfzgf_1);clear hg hb hbox BKgc BKm HB BKgf;have BKgc := n1;have BKm := n2;have HB := n3;have BKgf := n4;clear n1 n2 n3 n4;have hczgc_0 : w5.cell? ⟨gc,0,none⟩ = some (.slice (some adb) l0_0.length c0_0) := (blk_cell BKgc.out 0).trans rfl;have hczgc_1 : w5.cell? ⟨gc,1,none⟩ = some (.slice (some ad) l0_1.length c0_1) := (blk_cell BKgc.out 1).trans rfl;have hczgf_0 : w5.cell? ⟨gf,0,none⟩ = some (.int .i64 fx.f0) := (blk_cell BKgf.out 0).trans rfl;have hczgf_1 : w5.cell? ⟨gf,1,none⟩ = some (.int .i64 fx.f1) := (blk_cell BKgf.out 1).trans rfl;have hy3 := (HB.out.cell (wbl HY.out)).trans HY.out) | (go_at_call 79;(with_reducible refine (ca_in.calls fx.f0 0 i true _ H4.out).mono ?_);rintro e w' ⟨rfl,⟨nd,rfl⟩⟩;(try first | exact ⟨rfl,_,World.drewN_drewN _ _ _⟩ | exact ⟨rfl,_,Eq.trans (World.drewN_drewN _ _ _) (congrArg (World.drewN _) (Nat.add_assoc _ _ _))⟩)) | (go_at_call 79;(with_reducible refine (ca_in.calls fx.f1 (-1) (wrap64 (((rd_T27 l0_0 fx.f0).f1.length : Int) - 1)) false _ H5.out).mono ?_);rintro e w' ⟨rfl,⟨nd,rfl⟩⟩;(try first | exact ⟨rfl,_,World.drewN_drewN _ _ _⟩ | exact ⟨rfl,_,Eq.trans (World.drewN_drewN _ _ _) (congrArg (World.drewN _) (Nat.add_assoc _ _ _))⟩)))
               go_ret
               exact ⟨rfl,pw_below_drewN HB.out _⟩
              | true =>
               rw [if_pos rfl] at hq
               have H6 := Aside0.mk hq
               clear hq
               go_wp2_with (first | ((with_reducible refine gate_dst (N := 5) rfl ?_);refine box_event ?hg (N := 5) ?hd (cs := #[.int .i64 0,.int .i64 0]) (t := 66) ?hr ?_;(case hd => rfl);(case hg => rfl);(case hr => go_simp;try rfl);intro gf hg w2 hbox hb;have HNgf := Aside0.mk (show gm ≠ gf by have := blk_lt BKm.out;omega);have HNgc := Aside0.mk (show gc ≠ gf by have := blk_lt BKgc.out;omega);have HGf := Aside0.mk (show w.heap.size ≤ gf by have := HB.out.size;omega);have n1 := Aside0.mk (blk_below BKgc.out hb);have n2 := Aside0.mk (blk_below BKm.out hb);have n3 := Aside0.mk (below_then HB.out HB.out.size hb);(try clear hczgc_0 hczgc_1 hfzgc_0 hfzgc_1);(try clear hczgf_0 hczgf_1 hfzgf_0 hfzgf_1);clear hg hb BKgc BKm HB;have BKgc := n1;have BKm := n2;have HB := n3;clear n1 n2 n3;have BKgf := Aside0.mk hbox;clear hbox;have hczgc_0 : w2.cell? ⟨gc,0,none⟩ = some (.slice (some adb) l0_0.length c0_0) := (blk_cell BKgc.out 0).trans rfl;have hczgc_1 : w2.cell? ⟨gc,1,none⟩ = some (.slice (some ad) l0_1.length c0_1) := (blk_cell BKgc.out 1).trans rfl;have hczgf_0 : w2.cell? ⟨gf,0,none⟩ = some (.int .i64 0) := (blk_cell BKgf.out 0).trans rfl;have hczgf_1 : w2.cell? ⟨gf,1,none⟩ = some (.int .i64 0) := (blk_cell BKgf.out 1).trans rfl;have hfzgf_0 := blk_frozen BKgf.out 0;have hfzgf_1 := blk_frozen BKgf.out 1) | ((with_reducible refine gate_dst (N := 40) rfl ?_);refine event_abs (v := .tuple #[.agg #[],.bool false]) (fun W' => W'.heap[gf]? = some (.cells #[.int .i64 fx.f0,.int .i64 fx.f1] 66 (0,0)) ∧ W'.heap[gc]? = some (.cells #[.slice (some adb) l0_0.length c0_0,.slice (some ad) l0_1.length c0_1] 59 (0,0)) ∧ W'.heap[gm]? = some (.map (ents met).toArray met.length) ∧ Below w.heap.size w W') ?hg ?hr ⟨(blk_set (blk_set BKgf.out 0 _) 1 _).trans rfl,(obj_far (p := ⟨gf,1,none⟩) (obj_far (p := ⟨gf,0,none⟩) BKgc.out HNgc.out (.int .i64 fx.f0)) HNgc.out (.int .i64 fx.f1)),(obj_far (p := ⟨gf,1,none⟩) (obj_far (p := ⟨gf,0,none⟩) BKm.out HNgf.out (.int .i64 fx.f0)) HNgf.out (.int .i64 fx.f1)),below_set (below_set HB.out HGf.out) HGf.out⟩ ?_;(case hg => rfl);(case hr => (have hl := lookE _ gm met _ fx (obj_far (p := ⟨gf,1,none⟩) (obj_far (p := ⟨gf,0,none⟩) BKm.out HNgf.out (.int .i64 fx.f0)) HNgf.out (.int .i64 fx.f1)));(try rw [H3.out] at hl);first | (go_simp;done) | (go_simp;rfl));rintro w4 ⟨k1,k2,k3,k4⟩;(try clear hczgc_0 hczgc_1 hfzgc_0 hfzgc_1);(try clear hczgf_0 hczgf_1 hfzgf_0 hfzgf_1);clear BKgf BKgc BKm HB;have BKgf := Aside0.mk k1;have BKgc := Aside0.mk k2;have BKm := Aside0.mk k3;have HB := Aside0.mk k4;clear k1 k2 k3 k4;have hczgc_0 : w4.cell? ⟨gc,0,none⟩ = some (.slice (some adb) l0_0.length c0_0) := (blk_cell BKgc.out 0).trans rfl;have hczgc_1 : w4.cell? ⟨gc,1,none⟩ = some (.slice (some ad) l0_1.length c0_1) := (blk_cell BKgc.out 1).trans rfl;have hczgf_0 : w4.cell? ⟨gf,0,none⟩ = some (.int .i64 fx.f0) := (blk_cell BKgf.out 0).trans rfl;have hczgf_1 : w4.cell? ⟨gf,1,none⟩ = some (.int .i64 fx.f1) := (blk_cell BKgf.out 1).trans rfl) | ((with_reducible refine gate_dst (N := 6) rfl ?_);refine box_event ?hg (N := 6) ?hd (cs := #[]) (t := 149) ?hr ?_;(case hd => rfl);(case hg => rfl);(case hr => go_simp;try rfl);intro gu hg w5 hbox hb;have n1 := Aside0.mk (blk_below BKgc.out hb);have n2 := Aside0.mk (blk_below BKm.out hb);have n3 := Aside0.mk (below_then HB.out HB.out.size hb);have n4 := Aside0.mk (blk_below BKgf.out hb);(try clear hczgc_0 hczgc_1 hfzgc_0 hfzgc_1);(try clear hczgf_0 hczgf_1 hfzgf_0 hfzgf_1);clear hg hb hbox BKgc BKm HB BKgf;have BKgc := n1;have BKm := n2;have HB := n3;have BKgf := n4;clear n1 n2 n3 n4;have hczgc_0 : w5.cell? ⟨gc,0,none⟩ = some (.slice (some adb) l0_0.length c0_0) := (blk_cell BKgc.out 0).trans rfl;have hczgc_1 : w5.cell? ⟨gc,1,none⟩ = some (.slice (some ad) l0_1.length c0_1) := (blk_cell BKgc.out 1).trans rfl;have hczgf_0 : w5.cell? ⟨gf,0,none⟩ = some (.int .i64 fx.f0) := (blk_cell BKgf.out 0).trans rfl;have hczgf_1 : w5.cell? ⟨gf,1,none⟩ = some (.int .i64 fx.f1) := (blk_cell BKgf.out 1).trans rfl;have hy3 := (HB.out.cell (wbl HY.out)).trans HY.out;have hup : ∀ n,(Instr.mapUpdate 148 (.map (some gm)) (.agg #[.int .i64 fx.f0,.int .i64 fx.f1]) (.agg #[])).run Tryz.prog (w5.drewN n) = .ok () (setO (w5.drewN n) gm (.map (ents (met ++ [fx])).toArray (met.length + 1))) := fun n => updE _ gm met fx H3.out (blk_drewN BKm.out n)) | (go_at_call 79;(with_reducible refine (ca_in.calls fx.f0 0 i true _ H4.out).mono ?_);rintro e w' ⟨rfl,⟨nd,rfl⟩⟩;(try first | exact ⟨rfl,_,World.drewN_drewN _ _ _⟩ | exact ⟨rfl,_,Eq.trans (World.drewN_drewN _ _ _) (congrArg (World.drewN _) (Nat.add_assoc _ _ _))⟩)) | (go_at_call 79;(with_reducible refine (ca_in.calls fx.f1 (-1) (wrap64 (((rd_T27 l0_0 fx.f0).f1.length : Int) - 1)) true _ H5.out).mono ?_);rintro e w' ⟨rfl,⟨nd,rfl⟩⟩;(try first | exact ⟨rfl,_,World.drewN_drewN _ _ _⟩ | exact ⟨rfl,_,Eq.trans (World.drewN_drewN _ _ _) (congrArg (World.drewN _) (Nat.add_assoc _ _ _))⟩)))
               go_quiet ((first | (go_at_call 79;(with_reducible refine (ca_in.calls fx.f0 0 i true _ H4.out).mono ?_);rintro e w' ⟨rfl,⟨nd,rfl⟩⟩;(try first | exact ⟨rfl,_,World.drewN_drewN _ _ _⟩ | exact ⟨rfl,_,Eq.trans (World.drewN_drewN _ _ _) (congrArg (World.drewN _) (Nat.add_assoc _ _ _))⟩)) | (go_at_call 79;(with_reducible refine (ca_in.calls fx.f1 (-1) (wrap64 (((rd_T27 l0_0 fx.f0).f1.length : Int) - 1)) true _ H5.out).mono ?_);rintro e w' ⟨rfl,⟨nd,rfl⟩⟩;(try first | exact ⟨rfl,_,World.drewN_drewN _ _ _⟩ | exact ⟨rfl,_,Eq.trans (World.drewN_drewN _ _ _) (congrArg (World.drewN _) (Nat.add_assoc _ _ _))⟩))))
               try go_wp2_with (first | ((with_reducible refine gate_dst (N := 5) rfl ?_);refine box_event ?hg (N := 5) ?hd (cs := #[.int .i64 0,.int .i64 0]) (t := 66) ?hr ?_;(case hd => rfl);(case hg => rfl);(case hr => go_simp;try rfl);intro gf hg w2 hbox hb;have HNgf := Aside0.mk (show gm ≠ gf by have := blk_lt BKm.out;omega);have HNgc := Aside0.mk (show gc ≠ gf by have := blk_lt BKgc.out;omega);have HGf := Aside0.mk (show w.heap.size ≤ gf by have := HB.out.size;omega);have n1 := Aside0.mk (blk_below BKgc.out hb);have n2 := Aside0.mk (blk_below BKm.out hb);have n3 := Aside0.mk (below_then HB.out HB.out.size hb);(try clear hczgc_0 hczgc_1 hfzgc_0 hfzgc_1);(try clear hczgf_0 hczgf_1 hfzgf_0 hfzgf_1);clear hg hb BKgc BKm HB;have BKgc := n1;have BKm := n2;have HB := n3;clear n1 n2 n3;have BKgf := Aside0.mk hbox;clear hbox;have hczgc_0 : w2.cell? ⟨gc,0,none⟩ = some (.slice (some adb) l0_0.length c0_0) := (blk_cell BKgc.out 0).trans rfl;have hczgc_1 : w2.cell? ⟨gc,1,none⟩ = some (.slice (some ad) l0_1.length c0_1) := (blk_cell BKgc.out 1).trans rfl;have hczgf_0 : w2.cell? ⟨gf,0,none⟩ = some (.int .i64 0) := (blk_cell BKgf.out 0).trans rfl;have hczgf_1 : w2.cell? ⟨gf,1,none⟩ = some (.int .i64 0) := (blk_cell BKgf.out 1).trans rfl;have hfzgf_0 := blk_frozen BKgf.out 0;have hfzgf_1 := blk_frozen BKgf.out 1) | ((with_reducible refine gate_dst (N := 40) rfl ?_);refine event_abs (v := .tuple #[.agg #[],.bool false]) (fun W' => W'.heap[gf]? = some (.cells #[.int .i64 fx.f0,.int .i64 fx.f1] 66 (0,0)) ∧ W'.heap[gc]? = some (.cells #[.slice (some adb) l0_0.length c0_0,.slice (some ad) l0_1.length c0_1] 59 (0,0)) ∧ W'.heap[gm]? = some (.map (ents met).toArray met.length) ∧ Below w.heap.size w W') ?hg ?hr ⟨(blk_set (blk_set BKgf.out 0 _) 1 _).trans rfl,(obj_far (p := ⟨gf,1,none⟩) (obj_far (p := ⟨gf,0,none⟩) BKgc.out HNgc.out (.int .i64 fx.f0)) HNgc.out (.int .i64 fx.f1)),(obj_far (p := ⟨gf,1,none⟩) (obj_far (p := ⟨gf,0,none⟩) BKm.out HNgf.out (.int .i64 fx.f0)) HNgf.out (.int .i64 fx.f1)),below_set (below_set HB.out HGf.out) HGf.out⟩ ?_;(case hg => rfl);(case hr => (have hl := lookE _ gm met _ fx (obj_far (p := ⟨gf,1,none⟩) (obj_far (p := ⟨gf,0,none⟩) BKm.out HNgf.out (.int .i64 fx.f0)) HNgf.out (.int .i64 fx.f1)));(try rw [H3.out] at hl);first | (go_simp;done) | (go_simp;rfl));rintro w4 ⟨k1,k2,k3,k4⟩;(try clear hczgc_0 hczgc_1 hfzgc_0 hfzgc_1);(try clear hczgf_0 hczgf_1 hfzgf_0 hfzgf_1);clear BKgf BKgc BKm HB;have BKgf := Aside0.mk k1;have BKgc := Aside0.mk k2;have BKm := Aside0.mk k3;have HB := Aside0.mk k4;clear k1 k2 k3 k4;have hczgc_0 : w4.cell? ⟨gc,0,none⟩ = some (.slice (some adb) l0_0.length c0_0) := (blk_cell BKgc.out 0).trans rfl;have hczgc_1 : w4.cell? ⟨gc,1,none⟩ = some (.slice (some ad) l0_1.length c0_1) := (blk_cell BKgc.out 1).trans rfl;have hczgf_0 : w4.cell? ⟨gf,0,none⟩ = some (.int .i64 fx.f0) := (blk_cell BKgf.out 0).trans rfl;have hczgf_1 : w4.cell? ⟨gf,1,none⟩ = some (.int .i64 fx.f1) := (blk_cell BKgf.out 1).trans rfl) | ((with_reducible refine gate_dst (N := 6) rfl ?_);refine box_event ?hg (N := 6) ?hd (cs := #[]) (t := 149) ?hr ?_;(case hd => rfl);(case hg => rfl);(case hr => go_simp;try rfl);intro gu hg w5 hbox hb;have n1 := Aside0.mk (blk_below BKgc.out hb);have n2 := Aside0.mk (blk_below BKm.out hb);have n3 := Aside0.mk (below_then HB.out HB.out.size hb);have n4 := Aside0.mk (blk_below BKgf.out hb);(try clear hczgc_0 hczgc_1 hfzgc_0 hfzgc_1);(try clear hczgf_0 hczgf_1 hfzgf_0 hfzgf_1);clear hg hb hbox BKgc BKm HB BKgf;have BKgc := n1;have BKm := n2;have HB := n3;have BKgf := n4;clear n1 n2 n3 n4;have hczgc_0 : w5.cell? ⟨gc,0,none⟩ = some (.slice (some adb) l0_0.length c0_0) := (blk_cell BKgc.out 0).trans rfl;have hczgc_1 : w5.cell? ⟨gc,1,none⟩ = some (.slice (some ad) l0_1.length c0_1) := (blk_cell BKgc.out 1).trans rfl;have hczgf_0 : w5.cell? ⟨gf,0,none⟩ = some (.int .i64 fx.f0) := (blk_cell BKgf.out 0).trans rfl;have hczgf_1 : w5.cell? ⟨gf,1,none⟩ = some (.int .i64 fx.f1) := (blk_cell BKgf.out 1).trans rfl;have hy3 := (HB.out.cell (wbl HY.out)).trans HY.out;have hup : ∀ n,(Instr.mapUpdate 148 (.map (some gm)) (.agg #[.int .i64 fx.f0,.int .i64 fx.f1]) (.agg #[])).run Tryz.prog (w5.drewN n) = .ok () (setO (w5.drewN n) gm (.map (ents (met ++ [fx])).toArray (met.length + 1))) := fun n => updE _ gm met fx H3.out (blk_drewN BKm.out n)) | (go_at_call 79;(with_reducible refine (ca_in.calls fx.f0 0 i true _ H4.out).mono ?_);rintro e w' ⟨rfl,⟨nd,rfl⟩⟩;(try first | exact ⟨rfl,_,World.drewN_drewN _ _ _⟩ | exact ⟨rfl,_,Eq.trans (World.drewN_drewN _ _ _) (congrArg (World.drewN _) (Nat.add_assoc _ _ _))⟩)) | (go_at_call 79;(with_reducible refine (ca_in.calls fx.f1 (-1) (wrap64 (((rd_T27 l0_0 fx.f0).f1.length : Int) - 1)) true _ H5.out).mono ?_);rintro e w' ⟨rfl,⟨nd,rfl⟩⟩;(try first | exact ⟨rfl,_,World.drewN_drewN _ _ _⟩ | exact ⟨rfl,_,Eq.trans (World.drewN_drewN _ _ _) (congrArg (World.drewN _) (Nat.add_assoc _ _ _))⟩)))
               go_roundw
               case rel => exact ⟨i + 1,by omega,by omega,by go_num,by rw [HT.out];exact H6,⟨below_setO _ (pw_below_drewN HB.out _) HGm.out⟩,⟨setO_other _ (blk_drewN BKgc.out _) HNgc_gm.out⟩,⟨by rw [HT.out,setO_same _ (blk_drewN BKm.out _)];simp⟩⟩
               case measure => simp [intOf];omega
            · rw [if_neg q1] at hq;cases hq
          · rw [if_neg q0] at hq;cases hq
      · go_wp2
        go_ret
        have hq := HQ.out
        rw [List.drop_of_length_le (by omega)] at hq
        exact ⟨ret_bool_eq (Option.some.inj hq),HB.out⟩
  · rw [if_neg hl] at h
    have b1 : ((l0_1.length : Int) != ((l0_0.length : Int) - 1)) = true := by simpa using hl
    have b2 : ((l0_1.length : Int) == ((l0_0.length : Int) - 1)) = false := by simpa using hl
    clear hl
    obtain rfl := Option.some.inj h
    clear h
    go_enter Tryz.func80,Tryz.ntmps80
    go_wp2_with (first | ((with_reducible refine gate_dst (N := 1) rfl ?_);(try (refine gate_guard (by rfl) ?_;dsimp only));refine box_event ?hg (N := 1) ?hd (cs := #[.slice A0_0 l0_0.length c0_0,.slice A0_1 l0_1.length c0_1]) (t := 59) ?hr ?_;(case hd => rfl);(case hg => rfl);(case hr => go_simp;try rfl);intro gc hg w1 hbox hb;have n_ := Aside0.mk (below_then HB.out HB.out.size hb);clear HB;have HB := n_;clear n_;clear hg;have BKgc := Aside0.mk hbox;clear hbox;(try clear hczgc_0 hfzgc_0);have hczgc_0 : w1.cell? ⟨gc,0,none⟩ = some (.slice A0_0 l0_0.length c0_0) := (blk_cell BKgc.out 0).trans rfl;have hfzgc_0 := blk_frozen BKgc.out 0;(try clear hczgc_1 hfzgc_1);have hczgc_1 : w1.cell? ⟨gc,1,none⟩ = some (.slice A0_1 l0_1.length c0_1) := (blk_cell BKgc.out 1).trans rfl;have hfzgc_1 := blk_frozen BKgc.out 1;clear hb) | (go_at_call 79;(with_reducible refine (ca_in.calls (l0_0.length : Int) 1 4 true _ H1.out).mono ?_);rintro e w1 ⟨rfl,hd⟩;have hb := hd.below;clear hd;have n_ := Aside0.mk (below_then HB.out HB.out.size hb);clear HB;have HB := n_;clear n_;have n_ := Aside0.mk (blk_below BKgc.out hb);clear BKgc;have BKgc := n_;clear n_;(try clear hczgc_0 hfzgc_0);have hczgc_0 : w1.cell? ⟨gc,0,none⟩ = some (.slice A0_0 l0_0.length c0_0) := (blk_cell BKgc.out 0).trans rfl;have hfzgc_0 := blk_frozen BKgc.out 0;(try clear hczgc_1 hfzgc_1);have hczgc_1 : w1.cell? ⟨gc,1,none⟩ = some (.slice A0_1 l0_1.length c0_1) := (blk_cell BKgc.out 1).trans rfl;have hfzgc_1 := blk_frozen BKgc.out 1;clear hb))
    go_ret
    exact ⟨rfl,HB.out⟩
section
attribute [local go_sem] max2_int min2_int max_two min_two
def ca_Chain.f (l0_0 : List (S27)) (l0_1 : List (S66)) : Option (Int) := (ca_isChain.f l0_0 l0_1).bind fun t883 => (if t883 = true then (some 0) else (some 2))
theorem ca_Chain.calls (A0_0 : Option Addr) (c0_0 : Nat) (l0_0 : List (S27)) (A0_1 : Option Addr) (c0_1 : Nat) (l0_1 : List (S66)) (r : Int) (w : World) (hr0_0 : Kd.C k27 w A0_0 l0_0.length l0_0) (hc0_0 : l0_0.length ≤ c0_0) (hr0_1 : Kd.C k66 w A0_1 l0_1.length l0_1) (hc0_1 : l0_1.length ≤ c0_1) (h : ca_Chain.f l0_0 l0_1 = some r) :
 Calls Tryz.prog 46 #[.agg #[.slice A0_0 l0_0.length c0_0,.slice A0_1 l0_1.length c0_1]] w fun e w' => e = .returned (.int .i64 r) ∧ Below w.heap.size w w' := by
 have hu59 := Tryz.underlying59
 have HR0_0 := am hr0_0
 have HC0_0 := am hc0_0
 clear hr0_0 hc0_0
 have HR0_1 := am hr0_1
 have HC0_1 := am hc0_1
 clear hr0_1 hc0_1
 have HB := am (Below.refl w.heap.size w)
 have H : ((ca_isChain.f l0_0 l0_1).bind fun t883 => (if t883 = true then (some 0) else (some 2))) = some r := h
 clear h
 replace H := obm H
 obtain ⟨t883,A20,H⟩ := H
 replace H : (if t883 = true then (some 0) else (some 2)) = some r := H
 have A2 := am A20
 clear A20
 by_cases c3 : t883 = true
 · subst c3
   replace H : (some 0) = some r := by rw [if_pos rfl] at H;exact H
   obtain rfl := Option.some.inj H
   go_enter Tryz.func46,Tryz.ntmps46
   go_wp2_with (first | ((refine gate_dst (N := 1) rfl ?_);refine box_event rfl (N := 1) rfl (cs := #[.slice A0_0 l0_0.length c0_0,.slice A0_1 l0_1.length c0_1]) (t := 59) ?hr ?_;(case hr => go_simp;try rfl);intro gb882 hg w4 hbox hb;have BK882 := am (hbox);have GW882 := am (ge_new (HB.out) hg);have GE882 := am (ge_new (HB.out) hg);replace HB := am (below_step (HB.out) hb);clear hb hbox hg;obtain ⟨hcz5_0,hcz5_1⟩ := cO2 BK882.out) | ((with_reducible refine gate_callee (f := 80) rfl ?_);refine goesL_ (some 4) rfl rfl Tryz.func80 (by kernel_rfl) rfl #[.agg #[.slice A0_0 l0_0.length c0_0,.slice A0_1 l0_1.length c0_1]] rfl (by (try simp only [List.map_toArray,List.map_cons,List.map_nil]);first | done | rfl | (simp only [List.length_drop,List.length_take];rfl)) ?_;(with_reducible refine (ca_isChain.calls _ _ l0_0 _ _ l0_1 true _ ?side1 ?side2 ?side3 ?side4 A2.out).mono ?_);(case side1 => exact kC HR0_0.out HB.out);(case side2 => exact HC0_0.out);(case side3 => exact kC HR0_1.out HB.out);(case side4 => exact HC0_1.out);rintro e w6 ⟨rfl,hb⟩;refine ⟨_,rfl,?_⟩;replace BK882 := (kmv hb BK882);replace HB := am (below_step (HB.out) hb);(try clear hb);(try clear hb2);(try clear hk);(try clear hi)))
   go_ret
   exact ⟨by first | rfl | (simp [*] <;> rfl),HB.out⟩
 · replace c3 := Bool.eq_false_iff.mpr c3
   subst c3
   replace H : (some 2) = some r := by rw [if_neg (show ¬ (false = true) by decide)] at H;exact H
   obtain rfl := Option.some.inj H
   go_enter Tryz.func46,Tryz.ntmps46
   go_wp2_with (first | ((refine gate_dst (N := 1) rfl ?_);refine box_event rfl (N := 1) rfl (cs := #[.slice A0_0 l0_0.length c0_0,.slice A0_1 l0_1.length c0_1]) (t := 59) ?hr ?_;(case hr => go_simp;try rfl);intro gb882 hg w7 hbox hb;have BK882 := am (hbox);have GW882 := am (ge_new (HB.out) hg);have GE882 := am (ge_new (HB.out) hg);replace HB := am (below_step (HB.out) hb);clear hb hbox hg;obtain ⟨hcz8_0,hcz8_1⟩ := cO2 BK882.out) | ((with_reducible refine gate_callee (f := 80) rfl ?_);refine goesL_ (some 4) rfl rfl Tryz.func80 (by kernel_rfl) rfl #[.agg #[.slice A0_0 l0_0.length c0_0,.slice A0_1 l0_1.length c0_1]] rfl (by (try simp only [List.map_toArray,List.map_cons,List.map_nil]);first | done | rfl | (simp only [List.length_drop,List.length_take];rfl)) ?_;(with_reducible refine (ca_isChain.calls _ _ l0_0 _ _ l0_1 false _ ?side1 ?side2 ?side3 ?side4 A2.out).mono ?_);(case side1 => exact kC HR0_0.out HB.out);(case side2 => exact HC0_0.out);(case side3 => exact kC HR0_1.out HB.out);(case side4 => exact HC0_1.out);rintro e w9 ⟨rfl,hb⟩;refine ⟨_,rfl,?_⟩;replace BK882 := (kmv hb BK882);replace HB := am (below_step (HB.out) hb);(try clear hb);(try clear hb2);(try clear hk);(try clear hi)))
   go_ret
   exact ⟨by first | rfl | (simp [*] <;> rfl),HB.out⟩
def ca_sum.l0 : Nat → Int → List Int → Int → Int → Option (Int)
 | 0,_,_,_,_ => none
 | k + 1,x3,x6,x7,x8 => if x8 < x7 then (if 0 ≤ x8 then (if x8 < (x6.length : Int) then (ca_sum.l0 k (wrap64 (x3 + (rd x6 x8))) x6 x7 (wrap64 (x8 + 1))) else (none)) else (none)) else (some x3)
def ca_sum.f (k : Nat) (l0 : List Int) : Option (Int) := ca_sum.l0 k 0 l0 (l0.length : Int) 0
theorem ca_sum.calls (k : Nat) (A0 : Option Addr) (c0 : Nat) (l0 : List Int) (r : Int) (w : World) (hr0 : Kd.C (Kd.int .i64) w A0 l0.length l0) (hc0 : l0.length ≤ c0) (h : ca_sum.f k l0 = some r) :
 Calls Tryz.prog 110 #[.slice A0 l0.length c0] w fun e w' => e = .returned (.int .i64 r) ∧ Drawn0 w w' := by
 have HR0 := am hr0
 have HC0 := am hc0
 clear hr0 hc0
 have H : (ca_sum.l0 k 0 l0 (l0.length : Int) 0) = some r := h
 clear h
 replace H' := am H
 go_enter Tryz.func110,Tryz.ntmps110
 go_wp2
 go_loopg [3,8] k (fun kq v3 v8 w' => ∃ (x3_1 : Int) (x8_1 : Int),v3 = .int .i64 x3_1 ∧ v8 = .int .i64 x8_1 ∧ Aside0 (ca_sum.l0 kq x3_1 l0 (l0.length : Int) x8_1 = some r) ∧ Aside0 (kq ≤ k) ∧ Drawn0 w w')
 case atStart => exact ⟨(0),(0),(by first | rfl | (simp;done) | (simp [*];done)),(by first | rfl | (simp;done) | (simp [*];done)),H',⟨Nat.le_refl _⟩,by repeat (first | exact Drawn0.refl _ | apply Drawn0.step)⟩
 case round =>
  clear H'
  obtain ⟨x3_1,x8_1,rfl,rfl,HA,HK1,⟨m1,rfl⟩⟩ := hrel
  cases gk with
  | zero => exact absurd HA.out (by simp [ca_sum.l0])
  | succ k1 =>
   have H := HA.out
   clear HA
   simp only [ca_sum.l0] at H
   by_cases c2 : x8_1 < (l0.length : Int)
   case neg =>
    rw [if_neg c2] at H
    have c2b0 : decide (x8_1 < (l0.length : Int)) = false := decide_eq_false c2
    clear c2
    obtain rfl := Option.some.inj H
    go_wp2
    go_ret
    exact ⟨by first | rfl | (simp;done) | (simp [*];done),by repeat (first | exact Drawn0.refl _ | apply Drawn0.step)⟩
   rw [if_pos c2] at H
   have c2b0 : decide (x8_1 < (l0.length : Int)) = true := decide_eq_true c2
   clear c2
   by_cases c3 : 0 ≤ x8_1
   case neg =>
    rw [if_neg c3] at H
    exact absurd H (by simp)
   rw [if_pos c3] at H
   have c3b0 : decide (0 ≤ x8_1) = true := decide_eq_true c3
   clear c3
   by_cases c4 : x8_1 < (l0.length : Int)
   case neg =>
    rw [if_neg c4] at H
    exact absurd H (by simp)
   rw [if_pos c4] at H
   have c4b0 : decide (x8_1 < (l0.length : Int)) = true := decide_eq_true c4
   clear c4
   replace H' := am H
   have p177 : 0 ≤ (x8_1 : Int) := of_decide_eq_true (by assumption)
   have q177 : x8_1 < (l0.length : Int) := of_decide_eq_true (by assumption)
   obtain ⟨ad177,e177,hx177_0⟩ := Kd.at_int HR0.out x8_1 p177 q177
   cases e177
   replace p177 := eq_true p177
   replace q177 := eq_true q177
   go_wp2
   go_roundg k1
   case measure => have := HK1.out;omega
   case rel => exact ⟨(wrap64 (x3_1 + (rd l0 x8_1))),(wrap64 (x8_1 + 1)),(by first | rfl | (simp;done) | (simp [*];done)),(by first | rfl | (simp;done) | (simp [*];done)),H',⟨by have := HK1.out;omega⟩,by repeat (first | exact Drawn0.refl _ | apply Drawn0.step)⟩
end
theorem infoC_int : (Tryz.prog.info? 3).map (fun i => (i.zero,i.size,i.bytes)) = some (some (.int .i64 0),1,8) := by kernel_rfl
def sl_Clone_int.f (l0 : List Int) : Option (List Int) := if l0.length < 17592186044416 then some l0 else none
theorem sl_Clone_int.calls (A0 : Option Addr) (c0 : Nat) (l0 : List Int) (r : List Int) (w : World) (hr0 : Kd.C (Kd.int .i64) w A0 l0.length l0) (hc0 : l0.length ≤ c0) (h : sl_Clone_int.f l0 = some r) :
 Calls Tryz.prog 108 #[.slice A0 l0.length c0] w fun e w' => ∃ v0_ : Value,e = .returned v0_ ∧ Kd.R (Kd.int .i64) 3 w' w.heap.size (fun _ => True) v0_ r ∧ Below w.heap.size w w' := by
 unfold sl_Clone_int.f at h
 by_cases hl : l0.length < 17592186044416
 case neg =>
  rw [if_neg hl] at h;cases h
 rw [if_pos hl] at h
 obtain rfl := Option.some.inj h
 clear h
 have hq : ∀ (W : World) (a : Option Addr) (n c : Nat),(binOp .eql 28 (.slice a n c) (.slice none 0 0)).run Tryz.prog W = .ok (.bool a.isNone) W := fun W a n c => Lib.run_eql_slice_nil W 28 3 a n c 0 0 Tryz.underlying28
 cases A0 with
 | none =>
  have hn : l0 = [] := by
   rcases Nat.eq_zero_or_pos l0.length with h0 | h0
   · exact List.eq_nil_of_length_eq_zero h0
   · obtain ⟨ad,e,_⟩ := hr0.2.2 h0;cases e
  subst hn
  clear hr0 hc0 hl
  go_enter Tryz.func108,Tryz.ntmps108
  go_wp2
  go_ret
  exact ⟨_,rfl,Kd.R_nil _ _ _ _ _,Below.refl _ _⟩
 | some ad =>
  have HR := am (kC hr0 (below_alloc (Below.refl _ w) (.cells #[] 3)))
  have HL := am hl
  clear hr0 hc0 hl
  have HO := am (show Kd.R (Kd.int .i64) 3 (w.alloc (.cells #[] 3)) w.heap.size (fun _ => True) (.slice (some ⟨w.heap.size,0,none⟩) 0 0) [] from ⟨fun _ _ => trivial,[],by simpa using World.ownsRow_lit (base := w.heap.size) (e := 3) (size := ((Kd.int .i64)).sz) w #[] 0 (Nat.le_refl _) (by simp [maxLen]) (by simp),Reps.none _ _⟩)
  go_enter Tryz.func108,Tryz.ntmps108
  go_wp2_with ((with_reducible refine gate_builtin (b := .append) (xs := #[.tmp 5,.tmp 6]) rfl ?_);at_builtin;refine Kd.R_append_rows (Kd.int .i64) (Rr := ((Kd.int .i64)).K (w.alloc (.cells #[] 3))) (w0 := w) w.heap.size rfl (.tmp 5) (.tmp 6) 28 3 (.int .i64 0) 8 rfl Tryz.underlying28 infoC_int rfl (by decide) (by omega) (.slice (some ⟨w.heap.size,0,none⟩) 0 0) [] l0 (some ad) l0.length c0 (fun _ => True) (fun _ => False) rfl rfl HO.out HR.out (fun _ _ hk => hk) (fun _ h => h.elim) (fun _ _ => trivial) (below_alloc (Below.refl _ w) _) (by simp) (by have := HL.out;simp;omega) ?_;intro v1 w1 ho hb hg hat)
  go_ret
  exact ⟨v1,rfl,ho,hb⟩
section
attribute [local go_sem] max2_int min2_int max_two min_two
def gf_nozzles.f (k : Nat) (l0_0 : List (S126)) (a0_1 : Int) (l0_2 : List (S48)) (a0_3 : Int) (a0_4 : Int) (l0_5 : List (List Int)) (a1 : Int) : Option (Int) := if 0 ≤ a1 then (if a1 < (l0_5.length : Int) then ((ca_sum.f k (rd_L3 l0_5 a1)).bind fun t1066 => (some t1066)) else (none)) else (none)
theorem gf_nozzles.calls (k : Nat) (A0_0 : Option Addr) (c0_0 : Nat) (l0_0 : List (S126)) (a0_1 : Int) (A0_2 : Option Addr) (c0_2 : Nat) (l0_2 : List (S48)) (a0_3 : Int) (a0_4 : Int) (A0_5 : Option Addr) (c0_5 : Nat) (l0_5 : List (List Int)) (a1 : Int) (r : Int) (w : World) (hr0_0 : Kd.C k126 w A0_0 l0_0.length l0_0) (hc0_0 : l0_0.length ≤ c0_0) (hr0_2 : Kd.C k48 w A0_2 l0_2.length l0_2) (hc0_2 : l0_2.length ≤ c0_2) (hr0_5 : Kd.C (Kd.slice 3 (Kd.int .i64)) w A0_5 l0_5.length l0_5) (hc0_5 : l0_5.length ≤ c0_5) (h : gf_nozzles.f k l0_0 a0_1 l0_2 a0_3 a0_4 l0_5 a1 = some r) :
 Calls Tryz.prog 131 #[.agg #[.slice A0_0 l0_0.length c0_0,.int .i64 a0_1,.slice A0_2 l0_2.length c0_2,.int .i64 a0_3,.int .i64 a0_4,.slice A0_5 l0_5.length c0_5],.int .i64 a1] w fun e w' => e = .returned (.int .i64 r) ∧ Below w.heap.size w w' := by
 have hu110 := Tryz.underlying110
 have HR0_0 := am hr0_0
 have HC0_0 := am hc0_0
 clear hr0_0 hc0_0
 have HR0_2 := am hr0_2
 have HC0_2 := am hc0_2
 clear hr0_2 hc0_2
 have HR0_5 := am hr0_5
 have HC0_5 := am hc0_5
 clear hr0_5 hc0_5
 have HB := am (Below.refl w.heap.size w)
 have H : (if 0 ≤ a1 then (if a1 < (l0_5.length : Int) then ((ca_sum.f k (rd_L3 l0_5 a1)).bind fun t1066 => (some t1066)) else (none)) else (none)) = some r := h
 clear h
 by_cases c3 : 0 ≤ a1
 case neg =>
  rw [if_neg c3] at H
  exact absurd H (by simp)
 rw [if_pos c3] at H
 have c3b0 : decide (0 ≤ a1) = true := decide_eq_true c3
 clear c3
 by_cases c4 : a1 < (l0_5.length : Int)
 case neg =>
  rw [if_neg c4] at H
  exact absurd H (by simp)
 rw [if_pos c4] at H
 have c4b0 : decide (a1 < (l0_5.length : Int)) = true := decide_eq_true c4
 clear c4
 replace H := obm H
 obtain ⟨t1066,A50,H⟩ := H
 replace H : (some t1066) = some r := H
 have A5 := am A50
 clear A50
 obtain rfl := Option.some.inj H
 go_enter Tryz.func131,Tryz.ntmps131
 go_wp2_with (first | ((refine gate_dst (N := 2) rfl ?_);refine box_event rfl (N := 2) rfl (cs := #[.slice A0_0 l0_0.length c0_0,.int .i64 a0_1,.slice A0_2 l0_2.length c0_2,.int .i64 a0_3,.int .i64 a0_4,.slice A0_5 l0_5.length c0_5]) (t := 110) ?hr ?_;(case hr => go_simp;try rfl);intro gb1064 hg w6 hbox hb;have BK1064 := am (hbox);have GW1064 := am (ge_new (HB.out) hg);have GE1064 := am (ge_new (HB.out) hg);replace HB := am (below_step (HB.out) hb);clear hb hbox hg;obtain ⟨hcz7_0,hcz7_1,hcz7_2,hcz7_3,hcz7_4,hcz7_5⟩ := cO6 BK1064.out;have p1065 : 0 ≤ (a1 : Int) := of_decide_eq_true (by assumption);have q1065 : a1 < (l0_5.length : Int) := of_decide_eq_true (by assumption);obtain ⟨ad1065,A1065_0,c1065_0,e1065,hx1065_0,hl1065_0,hi1065_0⟩ := at_L3 HR0_5.out a1 p1065 q1065;cases e1065;replace hx1065_0 := (HB.out.cell (wbl hx1065_0)).trans hx1065_0;have HR1065_0 := am hi1065_0;have HC1065_0 := am hl1065_0;clear hi1065_0 hl1065_0;replace p1065 := eq_true p1065;replace q1065 := eq_true q1065) | ((with_reducible refine gate_callee (f := 110) rfl ?_);refine goesL_ (some 10) rfl rfl Tryz.func110 (by kernel_rfl) rfl #[.slice A1065_0 (rd_L3 l0_5 a1).length c1065_0] rfl (by (try simp only [List.map_toArray,List.map_cons,List.map_nil]);first | done | rfl | (simp only [List.length_drop,List.length_take];rfl)) ?_;(refine (ca_sum.calls k _ _ (rd_L3 l0_5 a1) t1066 _ ?side1 ?side2 A5.out).mono ?_);(case side1 => exact kC HR1065_0.out HB.out);(case side2 => exact HC1065_0.out);rintro e w' ⟨rfl,⟨nd,rfl⟩⟩;refine ⟨_,rfl,?_⟩))
 go_ret
 exact ⟨by first | rfl | (simp [*] <;> rfl),pw_below_drewN HB.out _⟩
end
end Go.Proofs.YtnnmnhpeblhiiaaGreatDoor.C

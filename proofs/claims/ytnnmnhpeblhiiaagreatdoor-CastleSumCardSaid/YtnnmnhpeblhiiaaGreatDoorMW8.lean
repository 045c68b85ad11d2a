/- A part of the proof: the walks of the functions that it reaches. TIGHT. -/
import Derived.Test.YtnnmnhpeblhiiaaGreatDoorMW7
import Derived.BigQuiet
import Derived.WalkSpells
import Derived.Lib.SliceRun
import Derived.Laws.EntriesVeiled
import Derived.Outline
set_option linter.unusedVariables false
set_option linter.unusedSimpArgs false
namespace Go.Proofs.YtnnmnhpeblhiiaaGreatDoor.C
open Go.RowKit Go.Proofs.YtnnmnhpeblhiiaaGreatDoorW.PrintWords Go.Proofs.YtnnmnhpeblhiiaaGreatDoorW.PrintLast Go.Proofs.YtnnmnhpeblhiiaaGreatDoorW.PrintMore
set_option linter.unusedVariables false
set_option linter.unusedSimpArgs false
set_option maxHeartbeats 16000000
set_option maxRecDepth 100000
theorem event_abs {P : Program} {ops : Array Oper} {o : Oper} {a : Act} {Q : Exit→Act→World→Prop} {rest : List Oper} {W : World} {v : Value} (Rr : World→Prop) (hgd : o.guard = none)
 (hrun : (execOp a.eval o).run P W = .ok (.value v) W) (hR : Rr W) (h : ∀ W',Rr W'→wpList P ops Q rest (a.put o.dst v) W') : wpList P ops Q (o :: rest) a W:=Kd.event_run hgd hrun (h W hR)
theorem mkmap_event {P : Program} {ops : Array Oper} {o : Oper} {a : Act} {Q : Exit→Act→World→Prop} {rest : List Oper} {W : World} (hgd : o.guard = none)
 (hrun : (execOp a.eval o).run P W = .ok (.value (.map (some W.heap.size))) (W.alloc (.map #[] 0)))
 (h : ∀ g,g = W.heap.size→∀ w1,w1.heap[g]? = some (.map #[] 0)→Below W.heap.size W w1→wpList P ops Q rest (a.put o.dst (.map (some g))) w1) : wpList P ops Q (o :: rest) a W:=Kd.event_run hgd hrun (h _ rfl _ (blk_new W _) (below_alloc (Below.refl _ _) _))
def chainGo (l0_0 : List S27) : List S66→Int→List S66→Option Bool
 | [],_,_=>some true
 | x :: rest,i,met=>if hasFeed met x = true then some false else (ca_in.f x.f0 0 i).bind fun t=>if t = true then (if 0≤x.f0 then (if x.f0 < (l0_0.length : Int) then (ca_in.f x.f1 (-1) (wrap64 (((rd_T27 l0_0 x.f0).f1.length : Int) - 1))).bind fun u=>if u = true then chainGo l0_0 rest (i + 1) (met ++ [x]) else some false else none) else none) else some false
def ca_isChain.f (l0_0 : List S27) (l0_1 : List S66) : Option Bool:=
 (ca_in.f (l0_0.length : Int) 1 4).bind fun t=>if t = true then (if (l0_1.length : Int) = (l0_0.length : Int) - 1 then (cf_isChain.f l0_0).bind fun u=>if u = true then some false else chainGo l0_0 l0_1 0 [] else some false) else some false
theorem ca_isChain.calls (A0_0 : Option Addr) (c0_0 : Nat) (l0_0 : List S27) (A0_1 : Option Addr) (c0_1 : Nat) (l0_1 : List S66) (r : Bool) (w : World) (hr0_0 : Kd.C k27 w A0_0 l0_0.length l0_0) (hc0_0 : l0_0.length≤c0_0) (hr0_1 : Kd.C k66 w A0_1 l0_1.length l0_1) (hc0_1 : l0_1.length≤c0_1) (h : ca_isChain.f l0_0 l0_1 = some r) :
 Calls Tryz.prog 80 #[.agg #[.slice A0_0 l0_0.length c0_0,.slice A0_1 l0_1.length c0_1]] w fun e w'=>e = .returned (.bool r)∧Below w.heap.size w w':=by
 have hu:=Tryz.underlying59
 have huf:=Tryz.underlying66
 have hub:=Tryz.underlying27
 have hmm:=@run_makeMap Tryz.prog
 have hm0 : l0_0.length≤9223372036854775807:=Kd.C_max hr0_0
 have hm1 : l0_1.length≤9223372036854775807:=Kd.C_max hr0_1
 have HR0:=Aside0.mk hr0_0
 have HC0:=Aside0.mk hc0_0
 have HR1:=Aside0.mk hr0_1
 have HC1:=Aside0.mk hc0_1
 have HB:=Aside0.mk (Below.refl w.heap.size w)
 clear hr0_0 hc0_0 hr0_1 hc0_1
 unfold ca_isChain.f at h
 obtain ⟨t,ht,h⟩:=obm h
 have H1:=Aside0.mk ht
 clear ht
 cases t with
 | false =>
  rw [if_neg (by decide)] at h
  obtain rfl:=Option.some.inj h
  clear h
  go_enter Tryz.func80,Tryz.ntmps80
  go_wp2_with (first | ((with_reducible refine gate_dst (N:=1) rfl ?_);(try (refine gate_guard (by rfl) ?_;dsimp only));refine box_event ?hg (N:=1) ?hd (cs:=#[.slice A0_0 l0_0.length c0_0,.slice A0_1 l0_1.length c0_1]) (t:=59) ?hr ?_;(case hd=>rfl);(case hg=>rfl);(case hr=>go_simp;try rfl);intro gc hg w1 hbox hb;have n_:=Aside0.mk (below_then HB.out HB.out.size hb);clear HB;have HB:=n_;clear n_;clear hg;have BKgc:=Aside0.mk hbox;clear hbox;(try clear hczgc_0 hfzgc_0);have hczgc_0 : w1.cell? ⟨gc,0,none⟩ = some (.slice A0_0 l0_0.length c0_0):=(blk_cell BKgc.out 0).trans rfl;have hfzgc_0:=blk_frozen BKgc.out 0;(try clear hczgc_1 hfzgc_1);have hczgc_1 : w1.cell? ⟨gc,1,none⟩ = some (.slice A0_1 l0_1.length c0_1):=(blk_cell BKgc.out 1).trans rfl;have hfzgc_1:=blk_frozen BKgc.out 1;clear hb) | (go_at_call 79;(with_reducible refine (ca_in.calls (l0_0.length : Int) 1 4 false _ H1.out).mono ?_);rintro e w1 ⟨rfl,hd⟩;have hb:=hd.below;clear hd;have n_:=Aside0.mk (below_then HB.out HB.out.size hb);clear HB;have HB:=n_;clear n_;have n_:=Aside0.mk (blk_below BKgc.out hb);clear BKgc;have BKgc:=n_;clear n_;(try clear hczgc_0 hfzgc_0);have hczgc_0 : w1.cell? ⟨gc,0,none⟩ = some (.slice A0_0 l0_0.length c0_0):=(blk_cell BKgc.out 0).trans rfl;have hfzgc_0:=blk_frozen BKgc.out 0;(try clear hczgc_1 hfzgc_1);have hczgc_1 : w1.cell? ⟨gc,1,none⟩ = some (.slice A0_1 l0_1.length c0_1):=(blk_cell BKgc.out 1).trans rfl;have hfzgc_1:=blk_frozen BKgc.out 1;clear hb))
  go_ret
  exact ⟨rfl,HB.out⟩
 | true =>
  rw [if_pos rfl] at h
  by_cases hl : (l0_1.length : Int) = ((l0_0.length : Int) - 1)
  ·rw [if_pos hl] at h
   have b1 : ((l0_1.length : Int) != ((l0_0.length : Int) - 1)) = false:=by rw [← hl];simp
   have b2 : ((l0_1.length : Int) == ((l0_0.length : Int) - 1)) = true:=by rw [← hl];simp
   have HL:=Aside0.mk hl
   clear hl
   obtain ⟨u,hu2,h⟩:=obm h
   have H2:=Aside0.mk hu2
   clear hu2
   cases u with
   | true =>
    rw [if_pos rfl] at h
    obtain rfl:=Option.some.inj h
    clear h
    go_enter Tryz.func80,Tryz.ntmps80
    go_wp2_with (first | ((with_reducible refine gate_dst (N:=1) rfl ?_);(try (refine gate_guard (by rfl) ?_;dsimp only));refine box_event ?hg (N:=1) ?hd (cs:=#[.slice A0_0 l0_0.length c0_0,.slice A0_1 l0_1.length c0_1]) (t:=59) ?hr ?_;(case hd=>rfl);(case hg=>rfl);(case hr=>go_simp;try rfl);intro gc hg w1 hbox hb;have n_:=Aside0.mk (below_then HB.out HB.out.size hb);clear HB;have HB:=n_;clear n_;clear hg;have BKgc:=Aside0.mk hbox;clear hbox;(try clear hczgc_0 hfzgc_0);have hczgc_0 : w1.cell? ⟨gc,0,none⟩ = some (.slice A0_0 l0_0.length c0_0):=(blk_cell BKgc.out 0).trans rfl;have hfzgc_0:=blk_frozen BKgc.out 0;(try clear hczgc_1 hfzgc_1);have hczgc_1 : w1.cell? ⟨gc,1,none⟩ = some (.slice A0_1 l0_1.length c0_1):=(blk_cell BKgc.out 1).trans rfl;have hfzgc_1:=blk_frozen BKgc.out 1;clear hb) | (go_at_call 79;(with_reducible refine (ca_in.calls (l0_0.length : Int) 1 4 true _ H1.out).mono ?_);rintro e w1 ⟨rfl,hd⟩;have hb:=hd.below;clear hd;have n_:=Aside0.mk (below_then HB.out HB.out.size hb);clear HB;have HB:=n_;clear n_;have n_:=Aside0.mk (blk_below BKgc.out hb);clear BKgc;have BKgc:=n_;clear n_;(try clear hczgc_0 hfzgc_0);have hczgc_0 : w1.cell? ⟨gc,0,none⟩ = some (.slice A0_0 l0_0.length c0_0):=(blk_cell BKgc.out 0).trans rfl;have hfzgc_0:=blk_frozen BKgc.out 0;(try clear hczgc_1 hfzgc_1);have hczgc_1 : w1.cell? ⟨gc,1,none⟩ = some (.slice A0_1 l0_1.length c0_1):=(blk_cell BKgc.out 1).trans rfl;have hfzgc_1:=blk_frozen BKgc.out 1;clear hb) | (go_at_call 116;(with_reducible refine (cf_isChain.calls A0_0 c0_0 l0_0 true _ (kC HR0.out HB.out) HC0.out H2.out).mono ?_);rintro e wc ⟨rfl,hb⟩;have n_:=Aside0.mk (below_then HB.out HB.out.size hb);clear HB;have HB:=n_;clear n_;have n_:=Aside0.mk (blk_below BKgc.out hb);clear BKgc;have BKgc:=n_;clear n_;(try clear hczgc_0 hfzgc_0);have hczgc_0 : wc.cell? ⟨gc,0,none⟩ = some (.slice A0_0 l0_0.length c0_0):=(blk_cell BKgc.out 0).trans rfl;have hfzgc_0:=blk_frozen BKgc.out 0;(try clear hczgc_1 hfzgc_1);have hczgc_1 : wc.cell? ⟨gc,1,none⟩ = some (.slice A0_1 l0_1.length c0_1):=(blk_cell BKgc.out 1).trans rfl;have hfzgc_1:=blk_frozen BKgc.out 1;clear hb))
    go_ret
    exact ⟨rfl,HB.out⟩
   | false =>
    rw [if_neg (by decide)] at h
    have HQ:=Aside0.mk h
    clear h
    go_enter Tryz.func80,Tryz.ntmps80
    go_wp2_with (first | ((with_reducible refine gate_dst (N:=1) rfl ?_);(try (refine gate_guard (by rfl) ?_;dsimp only));refine box_event ?hg (N:=1) ?hd (cs:=#[.slice A0_0 l0_0.length c0_0,.slice A0_1 l0_1.length c0_1]) (t:=59) ?hr ?_;(case hd=>rfl);(case hg=>rfl);(case hr=>go_simp;try rfl);intro gc hg w1 hbox hb;have n_:=Aside0.mk (below_then HB.out HB.out.size hb);clear HB;have HB:=n_;clear n_;clear hg;have BKgc:=Aside0.mk hbox;clear hbox;(try clear hczgc_0 hfzgc_0);have hczgc_0 : w1.cell? ⟨gc,0,none⟩ = some (.slice A0_0 l0_0.length c0_0):=(blk_cell BKgc.out 0).trans rfl;have hfzgc_0:=blk_frozen BKgc.out 0;(try clear hczgc_1 hfzgc_1);have hczgc_1 : w1.cell? ⟨gc,1,none⟩ = some (.slice A0_1 l0_1.length c0_1):=(blk_cell BKgc.out 1).trans rfl;have hfzgc_1:=blk_frozen BKgc.out 1;clear hb) | (go_at_call 79;(with_reducible refine (ca_in.calls (l0_0.length : Int) 1 4 true _ H1.out).mono ?_);rintro e w1 ⟨rfl,hd⟩;have hb:=hd.below;clear hd;have n_:=Aside0.mk (below_then HB.out HB.out.size hb);clear HB;have HB:=n_;clear n_;have n_:=Aside0.mk (blk_below BKgc.out hb);clear BKgc;have BKgc:=n_;clear n_;(try clear hczgc_0 hfzgc_0);have hczgc_0 : w1.cell? ⟨gc,0,none⟩ = some (.slice A0_0 l0_0.length c0_0):=(blk_cell BKgc.out 0).trans rfl;have hfzgc_0:=blk_frozen BKgc.out 0;(try clear hczgc_1 hfzgc_1);have hczgc_1 : w1.cell? ⟨gc,1,none⟩ = some (.slice A0_1 l0_1.length c0_1):=(blk_cell BKgc.out 1).trans rfl;have hfzgc_1:=blk_frozen BKgc.out 1;clear hb) | (go_at_call 116;(with_reducible refine (cf_isChain.calls A0_0 c0_0 l0_0 false _ (kC HR0.out HB.out) HC0.out H2.out).mono ?_);rintro e wc ⟨rfl,hb⟩;have n_:=Aside0.mk (below_then HB.out HB.out.size hb);clear HB;have HB:=n_;clear n_;have n_:=Aside0.mk (blk_below BKgc.out hb);clear BKgc;have BKgc:=n_;clear n_;(try clear hczgc_0 hfzgc_0);have hczgc_0 : wc.cell? ⟨gc,0,none⟩ = some (.slice A0_0 l0_0.length c0_0):=(blk_cell BKgc.out 0).trans rfl;have hfzgc_0:=blk_frozen BKgc.out 0;(try clear hczgc_1 hfzgc_1);have hczgc_1 : wc.cell? ⟨gc,1,none⟩ = some (.slice A0_1 l0_1.length c0_1):=(blk_cell BKgc.out 1).trans rfl;have hfzgc_1:=blk_frozen BKgc.out 1;clear hb) | ((with_reducible refine gate_dst (N:=28) rfl ?_);refine mkmap_event ?hg ?hr ?_;(case hg=>rfl);(case hr=>go_simp;try rfl);intro gm hgm wm hmap hb;have HNgc_gm:=Aside0.mk (show gc ≠ gm by have:=blk_lt BKgc.out;omega);have HGm:=Aside0.mk (show w.heap.size≤gm by have:=HB.out.size;omega);have n_:=Aside0.mk (blk_below BKgc.out hb);have m_:=Aside0.mk (below_then HB.out HB.out.size hb);(try clear hczgc_0 hczgc_1 hfzgc_0 hfzgc_1);(try clear hczgf_0 hczgf_1 hfzgf_0 hfzgf_1);clear hgm hb BKgc HB;have BKgc:=n_;have HB:=m_;clear n_ m_;have BKm:=Aside0.mk hmap;clear hmap;have hczgc_0 : wm.cell? ⟨gc,0,none⟩ = some (.slice A0_0 l0_0.length c0_0):=(blk_cell BKgc.out 0).trans rfl;have hczgc_1 : wm.cell? ⟨gc,1,none⟩ = some (.slice A0_1 l0_1.length c0_1):=(blk_cell BKgc.out 1).trans rfl))
    go_loopw [32] (fun v32 w'=>∃ i : Int,0≤i∧i≤l0_1.length∧v32 = .int .i64 i∧Aside0 (chainGo l0_0 (l0_1.drop i.toNat) i (l0_1.take i.toNat) = some r)∧Aside0 (Below w.heap.size w w')∧Aside0 (w'.heap[gc]? = some (.cells #[.slice A0_0 l0_0.length c0_0,.slice A0_1 l0_1.length c0_1] 59 (0,0)))∧Aside0 (w'.heap[gm]? = some (.map (ents (l0_1.take i.toNat)).toArray (l0_1.take i.toNat).length))) (fun v32 _=>l0_1.length - (intOf v32).toNat)
    case atStart=>exact ⟨0,by omega,by omega,rfl,HQ,HB,BKgc,BKm⟩
    case round =>
     clear HQ HB BKgc BKm
     obtain ⟨i,p1,hi,rfl,HQ,HB,BKgc,BKm⟩:=hrel
     by_cases hlt : i < (l0_1.length : Int)
     ·obtain ⟨ad,e1,hx0,hx1⟩:=at_T66 HR1.out i p1 hlt
      cases e1
      replace hx0:=(HB.out.cell (wbl hx0)).trans hx0
      replace hx1:=(HB.out.cell (wbl hx1)).trans hx1
      have hq:=HQ.out
      rw [drop_at z66 l0_1 i p1 hlt,show l0_1.getD i.toNat z66 = rd_T66 l0_1 i from rfl] at hq
      simp only [chainGo] at hq
      have HT:=Aside0.mk (show l0_1.take (i + 1).toNat = l0_1.take i.toNat ++ [rd_T66 l0_1 i] by rw [show (i + 1).toNat = i.toNat + 1 by omega,List.take_succ_eq_append_getElem (by omega)];unfold rd_T66;rw [List.getD_eq_getElem?_getD,List.getElem?_eq_getElem (show i.toNat < l0_1.length by omega)];rfl)
      generalize rd_T66 l0_1 i = fx at *
      generalize hmet : l0_1.take i.toNat = met at *
      have HM:=Aside0.mk hmet
      clear hmet HQ
      have hczgc_0 : wr.cell? ⟨gc,0,none⟩ = some (.slice A0_0 l0_0.length c0_0):=(blk_cell BKgc.out 0).trans rfl
      have hczgc_1 : wr.cell? ⟨gc,1,none⟩ = some (.slice (some ad) l0_1.length c0_1):=(blk_cell BKgc.out 1).trans rfl
      cases hhas : hasFeed met fx with
      | true =>
       rw [hhas,if_pos rfl] at hq
       obtain rfl:=Option.some.inj hq
       have H3:=Aside0.mk hhas
       clear hq hhas
       go_wp2_with (first | ((with_reducible refine gate_dst (N:=5) rfl ?_);refine box_event ?hg (N:=5) ?hd (cs:=#[.int .i64 0,.int .i64 0]) (t:=66) ?hr ?_;(case hd=>rfl);(case hg=>rfl);(case hr=>go_simp;try rfl);intro gf hg w2 hbox hb;have HNgf:=Aside0.mk (show gm ≠ gf by have:=blk_lt BKm.out;omega);have HNgc:=Aside0.mk (show gc ≠ gf by have:=blk_lt BKgc.out;omega);have HGf:=Aside0.mk (show w.heap.size≤gf by have:=HB.out.size;omega);have n1:=Aside0.mk (blk_below BKgc.out hb);have n2:=Aside0.mk (blk_below BKm.out hb);have n3:=Aside0.mk (below_then HB.out HB.out.size hb);(try clear hczgc_0 hczgc_1 hfzgc_0 hfzgc_1);(try clear hczgf_0 hczgf_1 hfzgf_0 hfzgf_1);clear hg hb BKgc BKm HB;have BKgc:=n1;have BKm:=n2;have HB:=n3;clear n1 n2 n3;have BKgf:=Aside0.mk hbox;clear hbox;have hczgc_0 : w2.cell? ⟨gc,0,none⟩ = some (.slice A0_0 l0_0.length c0_0):=(blk_cell BKgc.out 0).trans rfl;have hczgc_1 : w2.cell? ⟨gc,1,none⟩ = some (.slice (some ad) l0_1.length c0_1):=(blk_cell BKgc.out 1).trans rfl;have hczgf_0 : w2.cell? ⟨gf,0,none⟩ = some (.int .i64 0):=(blk_cell BKgf.out 0).trans rfl;have hczgf_1 : w2.cell? ⟨gf,1,none⟩ = some (.int .i64 0):=(blk_cell BKgf.out 1).trans rfl;have hfzgf_0:=blk_frozen BKgf.out 0;have hfzgf_1:=blk_frozen BKgf.out 1) | ((with_reducible refine gate_dst (N:=40) rfl ?_);refine event_abs (v:=.tuple #[.agg #[],.bool true]) (fun W'=>W'.heap[gf]? = some (.cells #[.int .i64 fx.f0,.int .i64 fx.f1] 66 (0,0))∧W'.heap[gc]? = some (.cells #[.slice A0_0 l0_0.length c0_0,.slice (some ad) l0_1.length c0_1] 59 (0,0))∧W'.heap[gm]? = some (.map (ents met).toArray met.length)∧Below w.heap.size w W') ?hg ?hr ⟨(blk_set (blk_set BKgf.out 0 _) 1 _).trans rfl,(obj_far (p:=⟨gf,1,none⟩) (obj_far (p:=⟨gf,0,none⟩) BKgc.out HNgc.out (.int .i64 fx.f0)) HNgc.out (.int .i64 fx.f1)),(obj_far (p:=⟨gf,1,none⟩) (obj_far (p:=⟨gf,0,none⟩) BKm.out HNgf.out (.int .i64 fx.f0)) HNgf.out (.int .i64 fx.f1)),below_set (below_set HB.out HGf.out) HGf.out⟩ ?_;(case hg=>rfl);(case hr=>(have hl:=lookE _ gm met _ fx (obj_far (p:=⟨gf,1,none⟩) (obj_far (p:=⟨gf,0,none⟩) BKm.out HNgf.out (.int .i64 fx.f0)) HNgf.out (.int .i64 fx.f1)));(try rw [H3.out] at hl);first | (go_simp;done) | (go_simp;rfl));rintro w4 ⟨k1,k2,k3,k4⟩;(try clear hczgc_0 hczgc_1 hfzgc_0 hfzgc_1);(try clear hczgf_0 hczgf_1 hfzgf_0 hfzgf_1);clear BKgf BKgc BKm HB;have BKgf:=Aside0.mk k1;have BKgc:=Aside0.mk k2;have BKm:=Aside0.mk k3;have HB:=Aside0.mk k4;clear k1 k2 k3 k4;have hczgc_0 : w4.cell? ⟨gc,0,none⟩ = some (.slice A0_0 l0_0.length c0_0):=(blk_cell BKgc.out 0).trans rfl;have hczgc_1 : w4.cell? ⟨gc,1,none⟩ = some (.slice (some ad) l0_1.length c0_1):=(blk_cell BKgc.out 1).trans rfl;have hczgf_0 : w4.cell? ⟨gf,0,none⟩ = some (.int .i64 fx.f0):=(blk_cell BKgf.out 0).trans rfl;have hczgf_1 : w4.cell? ⟨gf,1,none⟩ = some (.int .i64 fx.f1):=(blk_cell BKgf.out 1).trans rfl) | ((with_reducible refine gate_dst (N:=6) rfl ?_);refine box_event ?hg (N:=6) ?hd (cs:=#[]) (t:=149) ?hr ?_;(case hd=>rfl);(case hg=>rfl);(case hr=>go_simp;try rfl);intro gu hg w5 hbox hb;have n1:=Aside0.mk (blk_below BKgc.out hb);have n2:=Aside0.mk (blk_below BKm.out hb);have n3:=Aside0.mk (below_then HB.out HB.out.size hb);have n4:=Aside0.mk (blk_below BKgf.out hb);(try clear hczgc_0 hczgc_1 hfzgc_0 hfzgc_1);(try clear hczgf_0 hczgf_1 hfzgf_0 hfzgf_1);clear hg hb hbox BKgc BKm HB BKgf;have BKgc:=n1;have BKm:=n2;have HB:=n3;have BKgf:=n4;clear n1 n2 n3 n4;have hczgc_0 : w5.cell? ⟨gc,0,none⟩ = some (.slice A0_0 l0_0.length c0_0):=(blk_cell BKgc.out 0).trans rfl;have hczgc_1 : w5.cell? ⟨gc,1,none⟩ = some (.slice (some ad) l0_1.length c0_1):=(blk_cell BKgc.out 1).trans rfl;have hczgf_0 : w5.cell? ⟨gf,0,none⟩ = some (.int .i64 fx.f0):=(blk_cell BKgf.out 0).trans rfl;have hczgf_1 : w5.cell? ⟨gf,1,none⟩ = some (.int .i64 fx.f1):=(blk_cell BKgf.out 1).trans rfl;skip))
       go_quiet (fail)
       try go_wp2_with (first | ((with_reducible refine gate_dst (N:=5) rfl ?_);refine box_event ?hg (N:=5) ?hd (cs:=#[.int .i64 0,.int .i64 0]) (t:=66) ?hr ?_;(case hd=>rfl);(case hg=>rfl);(case hr=>go_simp;try rfl);intro gf hg w2 hbox hb;have HNgf:=Aside0.mk (show gm ≠ gf by have:=blk_lt BKm.out;omega);have HNgc:=Aside0.mk (show gc ≠ gf by have:=blk_lt BKgc.out;omega);have HGf:=Aside0.mk (show w.heap.size≤gf by have:=HB.out.size;omega);have n1:=Aside0.mk (blk_below BKgc.out hb);have n2:=Aside0.mk (blk_below BKm.out hb);have n3:=Aside0.mk (below_then HB.out HB.out.size hb);(try clear hczgc_0 hczgc_1 hfzgc_0 hfzgc_1);(try clear hczgf_0 hczgf_1 hfzgf_0 hfzgf_1);clear hg hb BKgc BKm HB;have BKgc:=n1;have BKm:=n2;have HB:=n3;clear n1 n2 n3;have BKgf:=Aside0.mk hbox;clear hbox;have hczgc_0 : w2.cell? ⟨gc,0,none⟩ = some (.slice A0_0 l0_0.length c0_0):=(blk_cell BKgc.out 0).trans rfl;have hczgc_1 : w2.cell? ⟨gc,1,none⟩ = some (.slice (some ad) l0_1.length c0_1):=(blk_cell BKgc.out 1).trans rfl;have hczgf_0 : w2.cell? ⟨gf,0,none⟩ = some (.int .i64 0):=(blk_cell BKgf.out 0).trans rfl;have hczgf_1 : w2.cell? ⟨gf,1,none⟩ = some (.int .i64 0):=(blk_cell BKgf.out 1).trans rfl;have hfzgf_0:=blk_frozen BKgf.out 0;have hfzgf_1:=blk_frozen BKgf.out 1) | ((with_reducible refine gate_dst (N:=40) rfl ?_);refine event_abs (v:=.tuple #[.agg #[],.bool true]) (fun W'=>W'.heap[gf]? = some (.cells #[.int .i64 fx.f0,.int .i64 fx.f1] 66 (0,0))∧W'.heap[gc]? = some (.cells #[.slice A0_0 l0_0.length c0_0,.slice (some ad) l0_1.length c0_1] 59 (0,0))∧W'.heap[gm]? = some (.map (ents met).toArray met.length)∧Below w.heap.size w W') ?hg ?hr ⟨(blk_set (blk_set BKgf.out 0 _) 1 _).trans rfl,(obj_far (p:=⟨gf,1,none⟩) (obj_far (p:=⟨gf,0,none⟩) BKgc.out HNgc.out (.int .i64 fx.f0)) HNgc.out (.int .i64 fx.f1)),(obj_far (p:=⟨gf,1,none⟩) (obj_far (p:=⟨gf,0,none⟩) BKm.out HNgf.out (.int .i64 fx.f0)) HNgf.out (.int .i64 fx.f1)),below_set (below_set HB.out HGf.out) HGf.out⟩ ?_;(case hg=>rfl);(case hr=>(have hl:=lookE _ gm met _ fx (obj_far (p:=⟨gf,1,none⟩) (obj_far (p:=⟨gf,0,none⟩) BKm.out HNgf.out (.int .i64 fx.f0)) HNgf.out (.int .i64 fx.f1)));(try rw [H3.out] at hl);first | (go_simp;done) | (go_simp;rfl));rintro w4 ⟨k1,k2,k3,k4⟩;(try clear hczgc_0 hczgc_1 hfzgc_0 hfzgc_1);(try clear hczgf_0 hczgf_1 hfzgf_0 hfzgf_1);clear BKgf BKgc BKm HB;have BKgf:=Aside0.mk k1;have BKgc:=Aside0.mk k2;have BKm:=Aside0.mk k3;have HB:=Aside0.mk k4;clear k1 k2 k3 k4;have hczgc_0 : w4.cell? ⟨gc,0,none⟩ = some (.slice A0_0 l0_0.length c0_0):=(blk_cell BKgc.out 0).trans rfl;have hczgc_1 : w4.cell? ⟨gc,1,none⟩ = some (.slice (some ad) l0_1.length c0_1):=(blk_cell BKgc.out 1).trans rfl;have hczgf_0 : w4.cell? ⟨gf,0,none⟩ = some (.int .i64 fx.f0):=(blk_cell BKgf.out 0).trans rfl;have hczgf_1 : w4.cell? ⟨gf,1,none⟩ = some (.int .i64 fx.f1):=(blk_cell BKgf.out 1).trans rfl) | ((with_reducible refine gate_dst (N:=6) rfl ?_);refine box_event ?hg (N:=6) ?hd (cs:=#[]) (t:=149) ?hr ?_;(case hd=>rfl);(case hg=>rfl);(case hr=>go_simp;try rfl);intro gu hg w5 hbox hb;have n1:=Aside0.mk (blk_below BKgc.out hb);have n2:=Aside0.mk (blk_below BKm.out hb);have n3:=Aside0.mk (below_then HB.out HB.out.size hb);have n4:=Aside0.mk (blk_below BKgf.out hb);(try clear hczgc_0 hczgc_1 hfzgc_0 hfzgc_1);(try clear hczgf_0 hczgf_1 hfzgf_0 hfzgf_1);clear hg hb hbox BKgc BKm HB BKgf;have BKgc:=n1;have BKm:=n2;have HB:=n3;have BKgf:=n4;clear n1 n2 n3 n4;have hczgc_0 : w5.cell? ⟨gc,0,none⟩ = some (.slice A0_0 l0_0.length c0_0):=(blk_cell BKgc.out 0).trans rfl;have hczgc_1 : w5.cell? ⟨gc,1,none⟩ = some (.slice (some ad) l0_1.length c0_1):=(blk_cell BKgc.out 1).trans rfl;have hczgf_0 : w5.cell? ⟨gf,0,none⟩ = some (.int .i64 fx.f0):=(blk_cell BKgf.out 0).trans rfl;have hczgf_1 : w5.cell? ⟨gf,1,none⟩ = some (.int .i64 fx.f1):=(blk_cell BKgf.out 1).trans rfl;skip))
       go_ret
       exact ⟨rfl,pw_below_drewN HB.out _⟩
      | false =>
       rw [hhas,if_neg (by decide)] at hq
       have H3:=Aside0.mk hhas
       clear hhas
       obtain ⟨t4,ht,hq⟩:=obm hq
       have H4:=Aside0.mk ht
       clear ht
       cases t4 with
       | false =>
        rw [if_neg (by decide)] at hq
        obtain rfl:=Option.some.inj hq
        clear hq
        go_wp2_with (first | ((with_reducible refine gate_dst (N:=5) rfl ?_);refine box_event ?hg (N:=5) ?hd (cs:=#[.int .i64 0,.int .i64 0]) (t:=66) ?hr ?_;(case hd=>rfl);(case hg=>rfl);(case hr=>go_simp;try rfl);intro gf hg w2 hbox hb;have HNgf:=Aside0.mk (show gm ≠ gf by have:=blk_lt BKm.out;omega);have HNgc:=Aside0.mk (show gc ≠ gf by have:=blk_lt BKgc.out;omega);have HGf:=Aside0.mk (show w.heap.size≤gf by have:=HB.out.size;omega);have n1:=Aside0.mk (blk_below BKgc.out hb);have n2:=Aside0.mk (blk_below BKm.out hb);have n3:=Aside0.mk (below_then HB.out HB.out.size hb);(try clear hczgc_0 hczgc_1 hfzgc_0 hfzgc_1);(try clear hczgf_0 hczgf_1 hfzgf_0 hfzgf_1);clear hg hb BKgc BKm HB;have BKgc:=n1;have BKm:=n2;have HB:=n3;clear n1 n2 n3;have BKgf:=Aside0.mk hbox;clear hbox;have hczgc_0 : w2.cell? ⟨gc,0,none⟩ = some (.slice A0_0 l0_0.length c0_0):=(blk_cell BKgc.out 0).trans rfl;have hczgc_1 : w2.cell? ⟨gc,1,none⟩ = some (.slice (some ad) l0_1.length c0_1):=(blk_cell BKgc.out 1).trans rfl;have hczgf_0 : w2.cell? ⟨gf,0,none⟩ = some (.int .i64 0):=(blk_cell BKgf.out 0).trans rfl;have hczgf_1 : w2.cell? ⟨gf,1,none⟩ = some (.int .i64 0):=(blk_cell BKgf.out 1).trans rfl;have hfzgf_0:=blk_frozen BKgf.out 0;have hfzgf_1:=blk_frozen BKgf.out 1) | ((with_reducible refine gate_dst (N:=40) rfl ?_);refine event_abs (v:=.tuple #[.agg #[],.bool false]) (fun W'=>W'.heap[gf]? = some (.cells #[.int .i64 fx.f0,.int .i64 fx.f1] 66 (0,0))∧W'.heap[gc]? = some (.cells #[.slice A0_0 l0_0.length c0_0,.slice (some ad) l0_1.length c0_1] 59 (0,0))∧W'.heap[gm]? = some (.map (ents met).toArray met.length)∧Below w.heap.size w W') ?hg ?hr ⟨(blk_set (blk_set BKgf.out 0 _) 1 _).trans rfl,(obj_far (p:=⟨gf,1,none⟩) (obj_far (p:=⟨gf,0,none⟩) BKgc.out HNgc.out (.int .i64 fx.f0)) HNgc.out (.int .i64 fx.f1)),(obj_far (p:=⟨gf,1,none⟩) (obj_far (p:=⟨gf,0,none⟩) BKm.out HNgf.out (.int .i64 fx.f0)) HNgf.out (.int .i64 fx.f1)),below_set (below_set HB.out HGf.out) HGf.out⟩ ?_;(case hg=>rfl);(case hr=>(have hl:=lookE _ gm met _ fx (obj_far (p:=⟨gf,1,none⟩) (obj_far (p:=⟨gf,0,none⟩) BKm.out HNgf.out (.int .i64 fx.f0)) HNgf.out (.int .i64 fx.f1)));(try rw [H3.out] at hl);first | (go_simp;done) | (go_simp;rfl));rintro w4 ⟨k1,k2,k3,k4⟩;(try clear hczgc_0 hczgc_1 hfzgc_0 hfzgc_1);(try clear hczgf_0 hczgf_1 hfzgf_0 hfzgf_1);clear BKgf BKgc BKm HB;have BKgf:=Aside0.mk k1;have BKgc:=Aside0.mk k2;have BKm:=Aside0.mk k3;have HB:=Aside0.mk k4;clear k1 k2 k3 k4;have hczgc_0 : w4.cell? ⟨gc,0,none⟩ = some (.slice A0_0 l0_0.length c0_0):=(blk_cell BKgc.out 0).trans rfl;have hczgc_1 : w4.cell? ⟨gc,1,none⟩ = some (.slice (some ad) l0_1.length c0_1):=(blk_cell BKgc.out 1).trans rfl;have hczgf_0 : w4.cell? ⟨gf,0,none⟩ = some (.int .i64 fx.f0):=(blk_cell BKgf.out 0).trans rfl;have hczgf_1 : w4.cell? ⟨gf,1,none⟩ = some (.int .i64 fx.f1):=(blk_cell BKgf.out 1).trans rfl) | ((with_reducible refine gate_dst (N:=6) rfl ?_);refine box_event ?hg (N:=6) ?hd (cs:=#[]) (t:=149) ?hr ?_;(case hd=>rfl);(case hg=>rfl);(case hr=>go_simp;try rfl);intro gu hg w5 hbox hb;have n1:=Aside0.mk (blk_below BKgc.out hb);have n2:=Aside0.mk (blk_below BKm.out hb);have n3:=Aside0.mk (below_then HB.out HB.out.size hb);have n4:=Aside0.mk (blk_below BKgf.out hb);(try clear hczgc_0 hczgc_1 hfzgc_0 hfzgc_1);(try clear hczgf_0 hczgf_1 hfzgf_0 hfzgf_1);clear hg hb hbox BKgc BKm HB BKgf;have BKgc:=n1;have BKm:=n2;have HB:=n3;have BKgf:=n4;clear n1 n2 n3 n4;have hczgc_0 : w5.cell? ⟨gc,0,none⟩ = some (.slice A0_0 l0_0.length c0_0):=(blk_cell BKgc.out 0).trans rfl;have hczgc_1 : w5.cell? ⟨gc,1,none⟩ = some (.slice (some ad) l0_1.length c0_1):=(blk_cell BKgc.out 1).trans rfl;have hczgf_0 : w5.cell? ⟨gf,0,none⟩ = some (.int .i64 fx.f0):=(blk_cell BKgf.out 0).trans rfl;have hczgf_1 : w5.cell? ⟨gf,1,none⟩ = some (.int .i64 fx.f1):=(blk_cell BKgf.out 1).trans rfl;skip) | (go_at_call 79;(with_reducible refine (ca_in.calls fx.f0 0 i false _ H4.out).mono ?_);rintro e w' ⟨rfl,⟨nd,rfl⟩⟩;(try first | exact ⟨rfl,_,World.drewN_drewN _ _ _⟩ | exact ⟨rfl,_,Eq.trans (World.drewN_drewN _ _ _) (congrArg (World.drewN _) (Nat.add_assoc _ _ _))⟩)))
        go_quiet ((go_at_call 79;(with_reducible refine (ca_in.calls fx.f0 0 i false _ H4.out).mono ?_);rintro e w' ⟨rfl,⟨nd,rfl⟩⟩;(try first | exact ⟨rfl,_,World.drewN_drewN _ _ _⟩ | exact ⟨rfl,_,Eq.trans (World.drewN_drewN _ _ _) (congrArg (World.drewN _) (Nat.add_assoc _ _ _))⟩)))
        try go_wp2_with (first | ((with_reducible refine gate_dst (N:=5) rfl ?_);refine box_event ?hg (N:=5) ?hd (cs:=#[.int .i64 0,.int .i64 0]) (t:=66) ?hr ?_;(case hd=>rfl);(case hg=>rfl);(case hr=>go_simp;try rfl);intro gf hg w2 hbox hb;have HNgf:=Aside0.mk (show gm ≠ gf by have:=blk_lt BKm.out;omega);have HNgc:=Aside0.mk (show gc ≠ gf by have:=blk_lt BKgc.out;omega);have HGf:=Aside0.mk (show w.heap.size≤gf by have:=HB.out.size;omega);have n1:=Aside0.mk (blk_below BKgc.out hb);have n2:=Aside0.mk (blk_below BKm.out hb);have n3:=Aside0.mk (below_then HB.out HB.out.size hb);(try clear hczgc_0 hczgc_1 hfzgc_0 hfzgc_1);(try clear hczgf_0 hczgf_1 hfzgf_0 hfzgf_1);clear hg hb BKgc BKm HB;have BKgc:=n1;have BKm:=n2;have HB:=n3;clear n1 n2 n3;have BKgf:=Aside0.mk hbox;clear hbox;have hczgc_0 : w2.cell? ⟨gc,0,none⟩ = some (.slice A0_0 l0_0.length c0_0):=(blk_cell BKgc.out 0).trans rfl;have hczgc_1 : w2.cell? ⟨gc,1,none⟩ = some (.slice (some ad) l0_1.length c0_1):=(blk_cell BKgc.out 1).trans rfl;have hczgf_0 : w2.cell? ⟨gf,0,none⟩ = some (.int .i64 0):=(blk_cell BKgf.out 0).trans rfl;have hczgf_1 : w2.cell? ⟨gf,1,none⟩ = some (.int .i64 0):=(blk_cell BKgf.out 1).trans rfl;have hfzgf_0:=blk_frozen BKgf.out 0;have hfzgf_1:=blk_frozen BKgf.out 1) | ((with_reducible refine gate_dst (N:=40) rfl ?_);refine event_abs (v:=.tuple #[.agg #[],.bool false]) (fun W'=>W'.heap[gf]? = some (.cells #[.int .i64 fx.f0,.int .i64 fx.f1] 66 (0,0))∧W'.heap[gc]? = some (.cells #[.slice A0_0 l0_0.length c0_0,.slice (some ad) l0_1.length c0_1] 59 (0,0))∧W'.heap[gm]? = some (.map (ents met).toArray met.length)∧Below w.heap.size w W') ?hg ?hr ⟨(blk_set (blk_set BKgf.out 0 _) 1 _).trans rfl,(obj_far (p:=⟨gf,1,none⟩) (obj_far (p:=⟨gf,0,none⟩) BKgc.out HNgc.out (.int .i64 fx.f0)) HNgc.out (.int .i64 fx.f1)),(obj_far (p:=⟨gf,1,none⟩) (obj_far (p:=⟨gf,0,none⟩) BKm.out HNgf.out (.int .i64 fx.f0)) HNgf.out (.int .i64 fx.f1)),below_set (below_set HB.out HGf.out) HGf.out⟩ ?_;(case hg=>rfl);(case hr=>(have hl:=lookE _ gm met _ fx (obj_far (p:=⟨gf,1,none⟩) (obj_far (p:=⟨gf,0,none⟩) BKm.out HNgf.out (.int .i64 fx.f0)) HNgf.out (.int .i64 fx.f1)));(try rw [H3.out] at hl);first | (go_simp;done) | (go_simp;rfl));rintro w4 ⟨k1,k2,k3,k4⟩;(try clear hczgc_0 hczgc_1 hfzgc_0 hfzgc_1);(try clear hczgf_0 hczgf_1 hfzgf_0 hfzgf_1);clear BKgf BKgc BKm HB;have BKgf:=Aside0.mk k1;have BKgc:=Aside0.mk k2;have BKm:=Aside0.mk k3;have HB:=Aside0.mk k4;clear k1 k2 k3 k4;have hczgc_0 : w4.cell? ⟨gc,0,none⟩ = some (.slice A0_0 l0_0.length c0_0):=(blk_cell BKgc.out 0).trans rfl;have hczgc_1 : w4.cell? ⟨gc,1,none⟩ = some (.slice (some ad) l0_1.length c0_1):=(blk_cell BKgc.out 1).trans rfl;have hczgf_0 : w4.cell? ⟨gf,0,none⟩ = some (.int .i64 fx.f0):=(blk_cell BKgf.out 0).trans rfl;have hczgf_1 : w4.cell? ⟨gf,1,none⟩ = some (.int .i64 fx.f1):=(blk_cell BKgf.out 1).trans rfl) | ((with_reducible refine gate_dst (N:=6) rfl ?_);refine box_event ?hg (N:=6) ?hd (cs:=#[]) (t:=149) ?hr ?_;(case hd=>rfl);(case hg=>rfl);(case hr=>go_simp;try rfl);intro gu hg w5 hbox hb;have n1:=Aside0.mk (blk_below BKgc.out hb);have n2:=Aside0.mk (blk_below BKm.out hb);have n3:=Aside0.mk (below_then HB.out HB.out.size hb);have n4:=Aside0.mk (blk_below BKgf.out hb);(try clear hczgc_0 hczgc_1 hfzgc_0 hfzgc_1);(try clear hczgf_0 hczgf_1 hfzgf_0 hfzgf_1);clear hg hb hbox BKgc BKm HB BKgf;have BKgc:=n1;have BKm:=n2;have HB:=n3;have BKgf:=n4;clear n1 n2 n3 n4;have hczgc_0 : w5.cell? ⟨gc,0,none⟩ = some (.slice A0_0 l0_0.length c0_0):=(blk_cell BKgc.out 0).trans rfl;have hczgc_1 : w5.cell? ⟨gc,1,none⟩ = some (.slice (some ad) l0_1.length c0_1):=(blk_cell BKgc.out 1).trans rfl;have hczgf_0 : w5.cell? ⟨gf,0,none⟩ = some (.int .i64 fx.f0):=(blk_cell BKgf.out 0).trans rfl;have hczgf_1 : w5.cell? ⟨gf,1,none⟩ = some (.int .i64 fx.f1):=(blk_cell BKgf.out 1).trans rfl;skip) | (go_at_call 79;(with_reducible refine (ca_in.calls fx.f0 0 i false _ H4.out).mono ?_);rintro e w' ⟨rfl,⟨nd,rfl⟩⟩;(try first | exact ⟨rfl,_,World.drewN_drewN _ _ _⟩ | exact ⟨rfl,_,Eq.trans (World.drewN_drewN _ _ _) (congrArg (World.drewN _) (Nat.add_assoc _ _ _))⟩)))
        go_ret
        exact ⟨rfl,pw_below_drewN HB.out _⟩
       | true =>
        rw [if_pos rfl] at hq
        by_cases q0 : 0≤fx.f0
        ·rw [if_pos q0] at hq
         by_cases q1 : fx.f0 < (l0_0.length : Int)
         ·rw [if_pos q1] at hq
          obtain ⟨adb,A0,c0,A2,c2,eb,hy0,hy1,hy2,hy3,hy4,g1,g2,g3,g4⟩:=at_T27 HR0.out fx.f0 q0 q1
          cases eb
          have HY:=Aside0.mk hy2
          clear hy0 hy1 hy2 hy3 hy4 g1 g2 g3 g4
          obtain ⟨t5,ht,hq⟩:=obm hq
          have H5:=Aside0.mk ht
          clear ht
          cases t5 with
          | false =>
           rw [if_neg (by decide)] at hq
           obtain rfl:=Option.some.inj hq
           clear hq
           go_wp2_with (first | ((with_reducible refine gate_dst (N:=5) rfl ?_);refine box_event ?hg (N:=5) ?hd (cs:=#[.int .i64 0,.int .i64 0]) (t:=66) ?hr ?_;(case hd=>rfl);(case hg=>rfl);(case hr=>go_simp;try rfl);intro gf hg w2 hbox hb;have HNgf:=Aside0.mk (show gm ≠ gf by have:=blk_lt BKm.out;omega);have HNgc:=Aside0.mk (show gc ≠ gf by have:=blk_lt BKgc.out;omega);have HGf:=Aside0.mk (show w.heap.size≤gf by have:=HB.out.size;omega);have n1:=Aside0.mk (blk_below BKgc.out hb);have n2:=Aside0.mk (blk_below BKm.out hb);have n3:=Aside0.mk (below_then HB.out HB.out.size hb);(try clear hczgc_0 hczgc_1 hfzgc_0 hfzgc_1);(try clear hczgf_0 hczgf_1 hfzgf_0 hfzgf_1);clear hg hb BKgc BKm HB;have BKgc:=n1;have BKm:=n2;have HB:=n3;clear n1 n2 n3;have BKgf:=Aside0.mk hbox;clear hbox;have hczgc_0 : w2.cell? ⟨gc,0,none⟩ = some (.slice (some adb) l0_0.length c0_0):=(blk_cell BKgc.out 0).trans rfl;have hczgc_1 : w2.cell? ⟨gc,1,none⟩ = some (.slice (some ad) l0_1.length c0_1):=(blk_cell BKgc.out 1).trans rfl;have hczgf_0 : w2.cell? ⟨gf,0,none⟩ = some (.int .i64 0):=(blk_cell BKgf.out 0).trans rfl;have hczgf_1 : w2.cell? ⟨gf,1,none⟩ = some (.int .i64 0):=(blk_cell BKgf.out 1).trans rfl;have hfzgf_0:=blk_frozen BKgf.out 0;have hfzgf_1:=blk_frozen BKgf.out 1) | ((with_reducible refine gate_dst (N:=40) rfl ?_);refine event_abs (v:=.tuple #[.agg #[],.bool false]) (fun W'=>W'.heap[gf]? = some (.cells #[.int .i64 fx.f0,.int .i64 fx.f1] 66 (0,0))∧W'.heap[gc]? = some (.cells #[.slice (some adb) l0_0.length c0_0,.slice (some ad) l0_1.length c0_1] 59 (0,0))∧W'.heap[gm]? = some (.map (ents met).toArray met.length)∧Below w.heap.size w W') ?hg ?hr ⟨(blk_set (blk_set BKgf.out 0 _) 1 _).trans rfl,(obj_far (p:=⟨gf,1,none⟩) (obj_far (p:=⟨gf,0,none⟩) BKgc.out HNgc.out (.int .i64 fx.f0)) HNgc.out (.int .i64 fx.f1)),(obj_far (p:=⟨gf,1,none⟩) (obj_far (p:=⟨gf,0,none⟩) BKm.out HNgf.out (.int .i64 fx.f0)) HNgf.out (.int .i64 fx.f1)),below_set (below_set HB.out HGf.out) HGf.out⟩ ?_;(case hg=>rfl);(case hr=>(have hl:=lookE _ gm met _ fx (obj_far (p:=⟨gf,1,none⟩) (obj_far (p:=⟨gf,0,none⟩) BKm.out HNgf.out (.int .i64 fx.f0)) HNgf.out (.int .i64 fx.f1)));(try rw [H3.out] at hl);first | (go_simp;done) | (go_simp;rfl));rintro w4 ⟨k1,k2,k3,k4⟩;(try clear hczgc_0 hczgc_1 hfzgc_0 hfzgc_1);(try clear hczgf_0 hczgf_1 hfzgf_0 hfzgf_1);clear BKgf BKgc BKm HB;have BKgf:=Aside0.mk k1;have BKgc:=Aside0.mk k2;have BKm:=Aside0.mk k3;have HB:=Aside0.mk k4;clear k1 k2 k3 k4;have hczgc_0 : w4.cell? ⟨gc,0,none⟩ = some (.slice (some adb) l0_0.length c0_0):=(blk_cell BKgc.out 0).trans rfl;have hczgc_1 : w4.cell? ⟨gc,1,none⟩ = some (.slice (some ad) l0_1.length c0_1):=(blk_cell BKgc.out 1).trans rfl;have hczgf_0 : w4.cell? ⟨gf,0,none⟩ = some (.int .i64 fx.f0):=(blk_cell BKgf.out 0).trans rfl;have hczgf_1 : w4.cell? ⟨gf,1,none⟩ = some (.int .i64 fx.f1):=(blk_cell BKgf.out 1).trans rfl) | ((with_reducible refine gate_dst (N:=6) rfl ?_);refine box_event ?hg (N:=6) ?hd (cs:=#[]) (t:=149) ?hr ?_;(case hd=>rfl);(case hg=>rfl);(case hr=>go_simp;try rfl);intro gu hg w5 hbox hb;have n1:=Aside0.mk (blk_below BKgc.out hb);have n2:=Aside0.mk (blk_below BKm.out hb);have n3:=Aside0.mk (below_then HB.out HB.out.size hb);have n4:=Aside0.mk (blk_below BKgf.out hb);(try clear hczgc_0 hczgc_1 hfzgc_0 hfzgc_1);(try clear hczgf_0 hczgf_1 hfzgf_0 hfzgf_1);clear hg hb hbox BKgc BKm HB BKgf;have BKgc:=n1;have BKm:=n2;have HB:=n3;have BKgf:=n4;clear n1 n2 n3 n4;have hczgc_0 : w5.cell? ⟨gc,0,none⟩ = some (.slice (some adb) l0_0.length c0_0):=(blk_cell BKgc.out 0).trans rfl;have hczgc_1 : w5.cell? ⟨gc,1,none⟩ = some (.slice (some ad) l0_1.length c0_1):=(blk_cell BKgc.out 1).trans rfl;have hczgf_0 : w5.cell? ⟨gf,0,none⟩ = some (.int .i64 fx.f0):=(blk_cell BKgf.out 0).trans rfl;have hczgf_1 : w5.cell? ⟨gf,1,none⟩ = some (.int .i64 fx.f1):=(blk_cell BKgf.out 1).trans rfl;have hy3:=(HB.out.cell (wbl HY.out)).trans HY.out) | (go_at_call 79;(with_reducible refine (ca_in.calls fx.f0 0 i true _ H4.out).mono ?_);rintro e w' ⟨rfl,⟨nd,rfl⟩⟩;(try first | exact ⟨rfl,_,World.drewN_drewN _ _ _⟩ | exact ⟨rfl,_,Eq.trans (World.drewN_drewN _ _ _) (congrArg (World.drewN _) (Nat.add_assoc _ _ _))⟩)) | (go_at_call 79;(with_reducible refine (ca_in.calls fx.f1 (-1) (wrap64 (((rd_T27 l0_0 fx.f0).f1.length : Int) - 1)) false _ H5.out).mono ?_);rintro e w' ⟨rfl,⟨nd,rfl⟩⟩;(try first | exact ⟨rfl,_,World.drewN_drewN _ _ _⟩ | exact ⟨rfl,_,Eq.trans (World.drewN_drewN _ _ _) (congrArg (World.drewN _) (Nat.add_assoc _ _ _))⟩)))
           go_quiet ((first | (go_at_call 79;(with_reducible refine (ca_in.calls fx.f0 0 i true _ H4.out).mono ?_);rintro e w' ⟨rfl,⟨nd,rfl⟩⟩;(try first | exact ⟨rfl,_,World.drewN_drewN _ _ _⟩ | exact ⟨rfl,_,Eq.trans (World.drewN_drewN _ _ _) (congrArg (World.drewN _) (Nat.add_assoc _ _ _))⟩)) | (go_at_call 79;(with_reducible refine (ca_in.calls fx.f1 (-1) (wrap64 (((rd_T27 l0_0 fx.f0).f1.length : Int) - 1)) false _ H5.out).mono ?_);rintro e w' ⟨rfl,⟨nd,rfl⟩⟩;(try first | exact ⟨rfl,_,World.drewN_drewN _ _ _⟩ | exact ⟨rfl,_,Eq.trans (World.drewN_drewN _ _ _) (congrArg (World.drewN _) (Nat.add_assoc _ _ _))⟩))))
           try go_wp2_with (first | ((with_reducible refine gate_dst (N:=5) rfl ?_);refine box_event ?hg (N:=5) ?hd (cs:=#[.int .i64 0,.int .i64 0]) (t:=66) ?hr ?_;(case hd=>rfl);(case hg=>rfl);(case hr=>go_simp;try rfl);intro gf hg w2 hbox hb;have HNgf:=Aside0.mk (show gm ≠ gf by have:=blk_lt BKm.out;omega);have HNgc:=Aside0.mk (show gc ≠ gf by have:=blk_lt BKgc.out;omega);have HGf:=Aside0.mk (show w.heap.size≤gf by have:=HB.out.size;omega);have n1:=Aside0.mk (blk_below BKgc.out hb);have n2:=Aside0.mk (blk_below BKm.out hb);have n3:=Aside0.mk (below_then HB.out HB.out.size hb);(try clear hczgc_0 hczgc_1 hfzgc_0 hfzgc_1);(try clear hczgf_0 hczgf_1 hfzgf_0 hfzgf_1);clear hg hb BKgc BKm HB;have BKgc:=n1;have BKm:=n2;have HB:=n3;clear n1 n2 n3;have BKgf:=Aside0.mk hbox;clear hbox;have hczgc_0 : w2.cell? ⟨gc,0,none⟩ = some (.slice (some adb) l0_0.length c0_0):=(blk_cell BKgc.out 0).trans rfl;have hczgc_1 : w2.cell? ⟨gc,1,none⟩ = some (.slice (some ad) l0_1.length c0_1):=(blk_cell BKgc.out 1).trans rfl;have hczgf_0 : w2.cell? ⟨gf,0,none⟩ = some (.int .i64 0):=(blk_cell BKgf.out 0).trans rfl;have hczgf_1 : w2.cell? ⟨gf,1,none⟩ = some (.int .i64 0):=(blk_cell BKgf.out 1).trans rfl;have hfzgf_0:=blk_frozen BKgf.out 0;have hfzgf_1:=blk_frozen BKgf.out 1) | ((with_reducible refine gate_dst (N:=40) rfl ?_);refine event_abs (v:=.tuple #[.agg #[],.bool false]) (fun W'=>W'.heap[gf]? = some (.cells #[.int .i64 fx.f0,.int .i64 fx.f1] 66 (0,0))∧W'.heap[gc]? = some (.cells #[.slice (some adb) l0_0.length c0_0,.slice (some ad) l0_1.length c0_1] 59 (0,0))∧W'.heap[gm]? = some (.map (ents met).toArray met.length)∧Below w.heap.size w W') ?hg ?hr ⟨(blk_set (blk_set BKgf.out 0 _) 1 _).trans rfl,(obj_far (p:=⟨gf,1,none⟩) (obj_far (p:=⟨gf,0,none⟩) BKgc.out HNgc.out (.int .i64 fx.f0)) HNgc.out (.int .i64 fx.f1)),(obj_far (p:=⟨gf,1,none⟩) (obj_far (p:=⟨gf,0,none⟩) BKm.out HNgf.out (.int .i64 fx.f0)) HNgf.out (.int .i64 fx.f1)),below_set (below_set HB.out HGf.out) HGf.out⟩ ?_;(case hg=>rfl);(case hr=>(have hl:=lookE _ gm met _ fx (obj_far (p:=⟨gf,1,none⟩) (obj_far (p:=⟨gf,0,none⟩) BKm.out HNgf.out (.int .i64 fx.f0)) HNgf.out (.int .i64 fx.f1)));(try rw [H3.out] at hl);first | (go_simp;done) | (go_simp;rfl));rintro w4 ⟨k1,k2,k3,k4⟩;(try clear hczgc_0 hczgc_1 hfzgc_0 hfzgc_1);(try clear hczgf_0 hczgf_1 hfzgf_0 hfzgf_1);clear BKgf BKgc BKm HB;have BKgf:=Aside0.mk k1;have BKgc:=Aside0.mk k2;have BKm:=Aside0.mk k3;have HB:=Aside0.mk k4;clear k1 k2 k3 k4;have hczgc_0 : w4.cell? ⟨gc,0,none⟩ = some (.slice (some adb) l0_0.length c0_0):=(blk_cell BKgc.out 0).trans rfl;have hczgc_1 : w4.cell? ⟨gc,1,none⟩ = some (.slice (some ad) l0_1.length c0_1):=(blk_cell BKgc.out 1).trans rfl;have hczgf_0 : w4.cell? ⟨gf,0,none⟩ = some (.int .i64 fx.f0):=(blk_cell BKgf.out 0).trans rfl;have hczgf_1 : w4.cell? ⟨gf,1,none⟩ = some (.int .i64 fx.f1):=(blk_cell BKgf.out 1).trans rfl) | ((with_reducible refine gate_dst (N:=6) rfl ?_);refine box_event ?hg (N:=6) ?hd (cs:=#[]) (t:=149) ?hr ?_;(case hd=>rfl);(case hg=>rfl);(case hr=>go_simp;try rfl);intro gu hg w5 hbox hb;have n1:=Aside0.mk (blk_below BKgc.out hb);have n2:=Aside0.mk (blk_below BKm.out hb);have n3:=Aside0.mk (below_then HB.out HB.out.size hb);have n4:=Aside0.mk (blk_below BKgf.out hb);(try clear hczgc_0 hczgc_1 hfzgc_0 hfzgc_1);(try clear hczgf_0 hczgf_1 hfzgf_0 hfzgf_1);clear hg hb hbox BKgc BKm HB BKgf;have BKgc:=n1;have BKm:=n2;have HB:=n3;have BKgf:=n4;clear n1 n2 n3 n4;have hczgc_0 : w5.cell? ⟨gc,0,none⟩ = some (.slice (some adb) l0_0.length c0_0):=(blk_cell BKgc.out 0).trans rfl;have hczgc_1 : w5.cell? ⟨gc,1,none⟩ = some (.slice (some ad) l0_1.length c0_1):=(blk_cell BKgc.out 1).trans rfl;have hczgf_0 : w5.cell? ⟨gf,0,none⟩ = some (.int .i64 fx.f0):=(blk_cell BKgf.out 0).trans rfl;have hczgf_1 : w5.cell? ⟨gf,1,none⟩ = some (.int .i64 fx.f1):=(blk_cell BKgf.out 1).trans rfl;have hy3:=(HB.out.cell (wbl HY.out)).trans HY.out) | (go_at_call 79;(with_reducible refine (ca_in.calls fx.f0 0 i true _ H4.out).mono ?_);rintro e w' ⟨rfl,⟨nd,rfl⟩⟩;(try first | exact ⟨rfl,_,World.drewN_drewN _ _ _⟩ | exact ⟨rfl,_,Eq.trans (World.drewN_drewN _ _ _) (congrArg (World.drewN _) (Nat.add_assoc _ _ _))⟩)) | (go_at_call 79;(with_reducible refine (ca_in.calls fx.f1 (-1) (wrap64 (((rd_T27 l0_0 fx.f0).f1.length : Int) - 1)) false _ H5.out).mono ?_);rintro e w' ⟨rfl,⟨nd,rfl⟩⟩;(try first | exact ⟨rfl,_,World.drewN_drewN _ _ _⟩ | exact ⟨rfl,_,Eq.trans (World.drewN_drewN _ _ _) (congrArg (World.drewN _) (Nat.add_assoc _ _ _))⟩)))
           go_ret
           exact ⟨rfl,pw_below_drewN HB.out _⟩
          | true =>
           rw [if_pos rfl] at hq
           have H6:=Aside0.mk hq
           clear hq
           go_wp2_with (first | ((with_reducible refine gate_dst (N:=5) rfl ?_);refine box_event ?hg (N:=5) ?hd (cs:=#[.int .i64 0,.int .i64 0]) (t:=66) ?hr ?_;(case hd=>rfl);(case hg=>rfl);(case hr=>go_simp;try rfl);intro gf hg w2 hbox hb;have HNgf:=Aside0.mk (show gm ≠ gf by have:=blk_lt BKm.out;omega);have HNgc:=Aside0.mk (show gc ≠ gf by have:=blk_lt BKgc.out;omega);have HGf:=Aside0.mk (show w.heap.size≤gf by have:=HB.out.size;omega);have n1:=Aside0.mk (blk_below BKgc.out hb);have n2:=Aside0.mk (blk_below BKm.out hb);have n3:=Aside0.mk (below_then HB.out HB.out.size hb);(try clear hczgc_0 hczgc_1 hfzgc_0 hfzgc_1);(try clear hczgf_0 hczgf_1 hfzgf_0 hfzgf_1);clear hg hb BKgc BKm HB;have BKgc:=n1;have BKm:=n2;have HB:=n3;clear n1 n2 n3;have BKgf:=Aside0.mk hbox;clear hbox;have hczgc_0 : w2.cell? ⟨gc,0,none⟩ = some (.slice (some adb) l0_0.length c0_0):=(blk_cell BKgc.out 0).trans rfl;have hczgc_1 : w2.cell? ⟨gc,1,none⟩ = some (.slice (some ad) l0_1.length c0_1):=(blk_cell BKgc.out 1).trans rfl;have hczgf_0 : w2.cell? ⟨gf,0,none⟩ = some (.int .i64 0):=(blk_cell BKgf.out 0).trans rfl;have hczgf_1 : w2.cell? ⟨gf,1,none⟩ = some (.int .i64 0):=(blk_cell BKgf.out 1).trans rfl;have hfzgf_0:=blk_frozen BKgf.out 0;have hfzgf_1:=blk_frozen BKgf.out 1) | ((with_reducible refine gate_dst (N:=40) rfl ?_);refine event_abs (v:=.tuple #[.agg #[],.bool false]) (fun W'=>W'.heap[gf]? = some (.cells #[.int .i64 fx.f0,.int .i64 fx.f1] 66 (0,0))∧W'.heap[gc]? = some (.cells #[.slice (some adb) l0_0.length c0_0,.slice (some ad) l0_1.length c0_1] 59 (0,0))∧W'.heap[gm]? = some (.map (ents met).toArray met.length)∧Below w.heap.size w W') ?hg ?hr ⟨(blk_set (blk_set BKgf.out 0 _) 1 _).trans rfl,(obj_far (p:=⟨gf,1,none⟩) (obj_far (p:=⟨gf,0,none⟩) BKgc.out HNgc.out (.int .i64 fx.f0)) HNgc.out (.int .i64 fx.f1)),(obj_far (p:=⟨gf,1,none⟩) (obj_far (p:=⟨gf,0,none⟩) BKm.out HNgf.out (.int .i64 fx.f0)) HNgf.out (.int .i64 fx.f1)),below_set (below_set HB.out HGf.out) HGf.out⟩ ?_;(case hg=>rfl);(case hr=>(have hl:=lookE _ gm met _ fx (obj_far (p:=⟨gf,1,none⟩) (obj_far (p:=⟨gf,0,none⟩) BKm.out HNgf.out (.int .i64 fx.f0)) HNgf.out (.int .i64 fx.f1)));(try rw [H3.out] at hl);first | (go_simp;done) | (go_simp;rfl));rintro w4 ⟨k1,k2,k3,k4⟩;(try clear hczgc_0 hczgc_1 hfzgc_0 hfzgc_1);(try clear hczgf_0 hczgf_1 hfzgf_0 hfzgf_1);clear BKgf BKgc BKm HB;have BKgf:=Aside0.mk k1;have BKgc:=Aside0.mk k2;have BKm:=Aside0.mk k3;have HB:=Aside0.mk k4;clear k1 k2 k3 k4;have hczgc_0 : w4.cell? ⟨gc,0,none⟩ = some (.slice (some adb) l0_0.length c0_0):=(blk_cell BKgc.out 0).trans rfl;have hczgc_1 : w4.cell? ⟨gc,1,none⟩ = some (.slice (some ad) l0_1.length c0_1):=(blk_cell BKgc.out 1).trans rfl;have hczgf_0 : w4.cell? ⟨gf,0,none⟩ = some (.int .i64 fx.f0):=(blk_cell BKgf.out 0).trans rfl;have hczgf_1 : w4.cell? ⟨gf,1,none⟩ = some (.int .i64 fx.f1):=(blk_cell BKgf.out 1).trans rfl) | ((with_reducible refine gate_dst (N:=6) rfl ?_);refine box_event ?hg (N:=6) ?hd (cs:=#[]) (t:=149) ?hr ?_;(case hd=>rfl);(case hg=>rfl);(case hr=>go_simp;try rfl);intro gu hg w5 hbox hb;have n1:=Aside0.mk (blk_below BKgc.out hb);have n2:=Aside0.mk (blk_below BKm.out hb);have n3:=Aside0.mk (below_then HB.out HB.out.size hb);have n4:=Aside0.mk (blk_below BKgf.out hb);(try clear hczgc_0 hczgc_1 hfzgc_0 hfzgc_1);(try clear hczgf_0 hczgf_1 hfzgf_0 hfzgf_1);clear hg hb hbox BKgc BKm HB BKgf;have BKgc:=n1;have BKm:=n2;have HB:=n3;have BKgf:=n4;clear n1 n2 n3 n4;have hczgc_0 : w5.cell? ⟨gc,0,none⟩ = some (.slice (some adb) l0_0.length c0_0):=(blk_cell BKgc.out 0).trans rfl;have hczgc_1 : w5.cell? ⟨gc,1,none⟩ = some (.slice (some ad) l0_1.length c0_1):=(blk_cell BKgc.out 1).trans rfl;have hczgf_0 : w5.cell? ⟨gf,0,none⟩ = some (.int .i64 fx.f0):=(blk_cell BKgf.out 0).trans rfl;have hczgf_1 : w5.cell? ⟨gf,1,none⟩ = some (.int .i64 fx.f1):=(blk_cell BKgf.out 1).trans rfl;have hy3:=(HB.out.cell (wbl HY.out)).trans HY.out;have hup : ∀ n,(Instr.mapUpdate 148 (.map (some gm)) (.agg #[.int .i64 fx.f0,.int .i64 fx.f1]) (.agg #[])).run Tryz.prog (w5.drewN n) = .ok () (setO (w5.drewN n) gm (.map (ents (met ++ [fx])).toArray (met.length + 1))):=fun n=>updE _ gm met fx H3.out (blk_drewN BKm.out n)) | (go_at_call 79;(with_reducible refine (ca_in.calls fx.f0 0 i true _ H4.out).mono ?_);rintro e w' ⟨rfl,⟨nd,rfl⟩⟩;(try first | exact ⟨rfl,_,World.drewN_drewN _ _ _⟩ | exact ⟨rfl,_,Eq.trans (World.drewN_drewN _ _ _) (congrArg (World.drewN _) (Nat.add_assoc _ _ _))⟩)) | (go_at_call 79;(with_reducible refine (ca_in.calls fx.f1 (-1) (wrap64 (((rd_T27 l0_0 fx.f0).f1.length : Int) - 1)) true _ H5.out).mono ?_);rintro e w' ⟨rfl,⟨nd,rfl⟩⟩;(try first | exact ⟨rfl,_,World.drewN_drewN _ _ _⟩ | exact ⟨rfl,_,Eq.trans (World.drewN_drewN _ _ _) (congrArg (World.drewN _) (Nat.add_assoc _ _ _))⟩)))
           go_quiet ((first | (go_at_call 79;(with_reducible refine (ca_in.calls fx.f0 0 i true _ H4.out).mono ?_);rintro e w' ⟨rfl,⟨nd,rfl⟩⟩;(try first | exact ⟨rfl,_,World.drewN_drewN _ _ _⟩ | exact ⟨rfl,_,Eq.trans (World.drewN_drewN _ _ _) (congrArg (World.drewN _) (Nat.add_assoc _ _ _))⟩)) | (go_at_call 79;(with_reducible refine (ca_in.calls fx.f1 (-1) (wrap64 (((rd_T27 l0_0 fx.f0).f1.length : Int) - 1)) true _ H5.out).mono ?_);rintro e w' ⟨rfl,⟨nd,rfl⟩⟩;(try first | exact ⟨rfl,_,World.drewN_drewN _ _ _⟩ | exact ⟨rfl,_,Eq.trans (World.drewN_drewN _ _ _) (congrArg (World.drewN _) (Nat.add_assoc _ _ _))⟩))))
           try go_wp2_with (first | ((with_reducible refine gate_dst (N:=5) rfl ?_);refine box_event ?hg (N:=5) ?hd (cs:=#[.int .i64 0,.int .i64 0]) (t:=66) ?hr ?_;(case hd=>rfl);(case hg=>rfl);(case hr=>go_simp;try rfl);intro gf hg w2 hbox hb;have HNgf:=Aside0.mk (show gm ≠ gf by have:=blk_lt BKm.out;omega);have HNgc:=Aside0.mk (show gc ≠ gf by have:=blk_lt BKgc.out;omega);have HGf:=Aside0.mk (show w.heap.size≤gf by have:=HB.out.size;omega);have n1:=Aside0.mk (blk_below BKgc.out hb);have n2:=Aside0.mk (blk_below BKm.out hb);have n3:=Aside0.mk (below_then HB.out HB.out.size hb);(try clear hczgc_0 hczgc_1 hfzgc_0 hfzgc_1);(try clear hczgf_0 hczgf_1 hfzgf_0 hfzgf_1);clear hg hb BKgc BKm HB;have BKgc:=n1;have BKm:=n2;have HB:=n3;clear n1 n2 n3;have BKgf:=Aside0.mk hbox;clear hbox;have hczgc_0 : w2.cell? ⟨gc,0,none⟩ = some (.slice (some adb) l0_0.length c0_0):=(blk_cell BKgc.out 0).trans rfl;have hczgc_1 : w2.cell? ⟨gc,1,none⟩ = some (.slice (some ad) l0_1.length c0_1):=(blk_cell BKgc.out 1).trans rfl;have hczgf_0 : w2.cell? ⟨gf,0,none⟩ = some (.int .i64 0):=(blk_cell BKgf.out 0).trans rfl;have hczgf_1 : w2.cell? ⟨gf,1,none⟩ = some (.int .i64 0):=(blk_cell BKgf.out 1).trans rfl;have hfzgf_0:=blk_frozen BKgf.out 0;have hfzgf_1:=blk_frozen BKgf.out 1) | ((with_reducible refine gate_dst (N:=40) rfl ?_);refine event_abs (v:=.tuple #[.agg #[],.bool false]) (fun W'=>W'.heap[gf]? = some (.cells #[.int .i64 fx.f0,.int .i64 fx.f1] 66 (0,0))∧W'.heap[gc]? = some (.cells #[.slice (some adb) l0_0.length c0_0,.slice (some ad) l0_1.length c0_1] 59 (0,0))∧W'.heap[gm]? = some (.map (ents met).toArray met.length)∧Below w.heap.size w W') ?hg ?hr ⟨(blk_set (blk_set BKgf.out 0 _) 1 _).trans rfl,(obj_far (p:=⟨gf,1,none⟩) (obj_far (p:=⟨gf,0,none⟩) BKgc.out HNgc.out (.int .i64 fx.f0)) HNgc.out (.int .i64 fx.f1)),(obj_far (p:=⟨gf,1,none⟩) (obj_far (p:=⟨gf,0,none⟩) BKm.out HNgf.out (.int .i64 fx.f0)) HNgf.out (.int .i64 fx.f1)),below_set (below_set HB.out HGf.out) HGf.out⟩ ?_;(case hg=>rfl);(case hr=>(have hl:=lookE _ gm met _ fx (obj_far (p:=⟨gf,1,none⟩) (obj_far (p:=⟨gf,0,none⟩) BKm.out HNgf.out (.int .i64 fx.f0)) HNgf.out (.int .i64 fx.f1)));(try rw [H3.out] at hl);first | (go_simp;done) | (go_simp;rfl));rintro w4 ⟨k1,k2,k3,k4⟩;(try clear hczgc_0 hczgc_1 hfzgc_0 hfzgc_1);(try clear hczgf_0 hczgf_1 hfzgf_0 hfzgf_1);clear BKgf BKgc BKm HB;have BKgf:=Aside0.mk k1;have BKgc:=Aside0.mk k2;have BKm:=Aside0.mk k3;have HB:=Aside0.mk k4;clear k1 k2 k3 k4;have hczgc_0 : w4.cell? ⟨gc,0,none⟩ = some (.slice (some adb) l0_0.length c0_0):=(blk_cell BKgc.out 0).trans rfl;have hczgc_1 : w4.cell? ⟨gc,1,none⟩ = some (.slice (some ad) l0_1.length c0_1):=(blk_cell BKgc.out 1).trans rfl;have hczgf_0 : w4.cell? ⟨gf,0,none⟩ = some (.int .i64 fx.f0):=(blk_cell BKgf.out 0).trans rfl;have hczgf_1 : w4.cell? ⟨gf,1,none⟩ = some (.int .i64 fx.f1):=(blk_cell BKgf.out 1).trans rfl) | ((with_reducible refine gate_dst (N:=6) rfl ?_);refine box_event ?hg (N:=6) ?hd (cs:=#[]) (t:=149) ?hr ?_;(case hd=>rfl);(case hg=>rfl);(case hr=>go_simp;try rfl);intro gu hg w5 hbox hb;have n1:=Aside0.mk (blk_below BKgc.out hb);have n2:=Aside0.mk (blk_below BKm.out hb);have n3:=Aside0.mk (below_then HB.out HB.out.size hb);have n4:=Aside0.mk (blk_below BKgf.out hb);(try clear hczgc_0 hczgc_1 hfzgc_0 hfzgc_1);(try clear hczgf_0 hczgf_1 hfzgf_0 hfzgf_1);clear hg hb hbox BKgc BKm HB BKgf;have BKgc:=n1;have BKm:=n2;have HB:=n3;have BKgf:=n4;clear n1 n2 n3 n4;have hczgc_0 : w5.cell? ⟨gc,0,none⟩ = some (.slice (some adb) l0_0.length c0_0):=(blk_cell BKgc.out 0).trans rfl;have hczgc_1 : w5.cell? ⟨gc,1,none⟩ = some (.slice (some ad) l0_1.length c0_1):=(blk_cell BKgc.out 1).trans rfl;have hczgf_0 : w5.cell? ⟨gf,0,none⟩ = some (.int .i64 fx.f0):=(blk_cell BKgf.out 0).trans rfl;have hczgf_1 : w5.cell? ⟨gf,1,none⟩ = some (.int .i64 fx.f1):=(blk_cell BKgf.out 1).trans rfl;have hy3:=(HB.out.cell (wbl HY.out)).trans HY.out;have hup : ∀ n,(Instr.mapUpdate 148 (.map (some gm)) (.agg #[.int .i64 fx.f0,.int .i64 fx.f1]) (.agg #[])).run Tryz.prog (w5.drewN n) = .ok () (setO (w5.drewN n) gm (.map (ents (met ++ [fx])).toArray (met.length + 1))):=fun n=>updE _ gm met fx H3.out (blk_drewN BKm.out n)) | (go_at_call 79;(with_reducible refine (ca_in.calls fx.f0 0 i true _ H4.out).mono ?_);rintro e w' ⟨rfl,⟨nd,rfl⟩⟩;(try first | exact ⟨rfl,_,World.drewN_drewN _ _ _⟩ | exact ⟨rfl,_,Eq.trans (World.drewN_drewN _ _ _) (congrArg (World.drewN _) (Nat.add_assoc _ _ _))⟩)) | (go_at_call 79;(with_reducible refine (ca_in.calls fx.f1 (-1) (wrap64 (((rd_T27 l0_0 fx.f0).f1.length : Int) - 1)) true _ H5.out).mono ?_);rintro e w' ⟨rfl,⟨nd,rfl⟩⟩;(try first | exact ⟨rfl,_,World.drewN_drewN _ _ _⟩ | exact ⟨rfl,_,Eq.trans (World.drewN_drewN _ _ _) (congrArg (World.drewN _) (Nat.add_assoc _ _ _))⟩)))
           go_roundw
           case rel=>exact ⟨i + 1,by omega,by omega,by go_num,by rw [HT.out];exact H6,⟨below_setO _ (pw_below_drewN HB.out _) HGm.out⟩,⟨setO_other _ (blk_drewN BKgc.out _) HNgc_gm.out⟩,⟨by rw [HT.out,setO_same _ (blk_drewN BKm.out _)];simp⟩⟩
           case measure=>simp [intOf];omega
         ·rw [if_neg q1] at hq;cases hq
        ·rw [if_neg q0] at hq;cases hq
     ·go_wp2
      go_ret
      have hq:=HQ.out
      rw [List.drop_of_length_le (by omega)] at hq
      exact ⟨ret_bool_eq (Option.some.inj hq),HB.out⟩
  ·rw [if_neg hl] at h
   have b1 : ((l0_1.length : Int) != ((l0_0.length : Int) - 1)) = true:=by simpa using hl
   have b2 : ((l0_1.length : Int) == ((l0_0.length : Int) - 1)) = false:=by simpa using hl
   clear hl
   obtain rfl:=Option.some.inj h
   clear h
   go_enter Tryz.func80,Tryz.ntmps80
   go_wp2_with (first | ((with_reducible refine gate_dst (N:=1) rfl ?_);(try (refine gate_guard (by rfl) ?_;dsimp only));refine box_event ?hg (N:=1) ?hd (cs:=#[.slice A0_0 l0_0.length c0_0,.slice A0_1 l0_1.length c0_1]) (t:=59) ?hr ?_;(case hd=>rfl);(case hg=>rfl);(case hr=>go_simp;try rfl);intro gc hg w1 hbox hb;have n_:=Aside0.mk (below_then HB.out HB.out.size hb);clear HB;have HB:=n_;clear n_;clear hg;have BKgc:=Aside0.mk hbox;clear hbox;(try clear hczgc_0 hfzgc_0);have hczgc_0 : w1.cell? ⟨gc,0,none⟩ = some (.slice A0_0 l0_0.length c0_0):=(blk_cell BKgc.out 0).trans rfl;have hfzgc_0:=blk_frozen BKgc.out 0;(try clear hczgc_1 hfzgc_1);have hczgc_1 : w1.cell? ⟨gc,1,none⟩ = some (.slice A0_1 l0_1.length c0_1):=(blk_cell BKgc.out 1).trans rfl;have hfzgc_1:=blk_frozen BKgc.out 1;clear hb) | (go_at_call 79;(with_reducible refine (ca_in.calls (l0_0.length : Int) 1 4 true _ H1.out).mono ?_);rintro e w1 ⟨rfl,hd⟩;have hb:=hd.below;clear hd;have n_:=Aside0.mk (below_then HB.out HB.out.size hb);clear HB;have HB:=n_;clear n_;have n_:=Aside0.mk (blk_below BKgc.out hb);clear BKgc;have BKgc:=n_;clear n_;(try clear hczgc_0 hfzgc_0);have hczgc_0 : w1.cell? ⟨gc,0,none⟩ = some (.slice A0_0 l0_0.length c0_0):=(blk_cell BKgc.out 0).trans rfl;have hfzgc_0:=blk_frozen BKgc.out 0;(try clear hczgc_1 hfzgc_1);have hczgc_1 : w1.cell? ⟨gc,1,none⟩ = some (.slice A0_1 l0_1.length c0_1):=(blk_cell BKgc.out 1).trans rfl;have hfzgc_1:=blk_frozen BKgc.out 1;clear hb))
   go_ret
   exact ⟨rfl,HB.out⟩
section
attribute [local go_sem] max2_int min2_int max_two min_two
def ca_sum.l0 : Nat→Int→List Int→Int→Int→Option (Int)
 | 0,_,_,_,_=>none
 | k + 1,x3,x6,x7,x8=>if x8 < x7 then (if 0≤x8 then (if x8 < (x6.length : Int) then (ca_sum.l0 k (wrap64 (x3 + (rd x6 x8))) x6 x7 (wrap64 (x8 + 1))) else (none)) else (none)) else (some x3)
def ca_sum.f (k : Nat) (l0 : List Int) : Option (Int):=ca_sum.l0 k 0 l0 (l0.length : Int) 0
theorem ca_sum.calls (k : Nat) (A0 : Option Addr) (c0 : Nat) (l0 : List Int) (r : Int) (w : World) (hr0 : Kd.C (Kd.int .i64) w A0 l0.length l0) (hc0 : l0.length≤c0) (h : ca_sum.f k l0 = some r) :
 Calls Tryz.prog 110 #[.slice A0 l0.length c0] w fun e w'=>e = .returned (.int .i64 r)∧Drawn0 w w':=by
 have HR0:=am hr0
 have HC0:=am hc0
 clear hr0 hc0
 have H : (ca_sum.l0 k 0 l0 (l0.length : Int) 0) = some r:=h
 clear h
 replace H':=am H
 go_enter Tryz.func110,Tryz.ntmps110
 go_wp2
 go_loopg [3,8] k (fun kq v3 v8 w'=>∃ (x3_1 : Int) (x8_1 : Int),v3 = .int .i64 x3_1∧v8 = .int .i64 x8_1∧Aside0 (ca_sum.l0 kq x3_1 l0 (l0.length : Int) x8_1 = some r)∧Aside0 (kq≤k)∧Drawn0 w w')
 case atStart=>exact ⟨(0),(0),(by first | rfl | (simp;done) | (simp [*];done)),(by first | rfl | (simp;done) | (simp [*];done)),H',⟨Nat.le_refl _⟩,by repeat (first | exact Drawn0.refl _ | apply Drawn0.step)⟩
 case round =>
  clear H'
  obtain ⟨x3_1,x8_1,rfl,rfl,HA,HK1,⟨m1,rfl⟩⟩:=hrel
  cases gk with
  | zero=>exact absurd HA.out (by simp [ca_sum.l0])
  | succ k1 =>
   have H:=HA.out
   clear HA
   simp only [ca_sum.l0] at H
   by_cases c2 : x8_1 < (l0.length : Int)
   case neg =>
    rw [if_neg c2] at H
    have c2b0 : decide (x8_1 < (l0.length : Int)) = false:=decide_eq_false c2
    clear c2
    obtain rfl:=Option.some.inj H
    go_wp2
    go_ret
    exact ⟨by first | rfl | (simp;done) | (simp [*];done),by repeat (first | exact Drawn0.refl _ | apply Drawn0.step)⟩
   rw [if_pos c2] at H
   have c2b0 : decide (x8_1 < (l0.length : Int)) = true:=decide_eq_true c2
   clear c2
   by_cases c3 : 0≤x8_1
   case neg =>
    rw [if_neg c3] at H
    exact absurd H (by simp)
   rw [if_pos c3] at H
   have c3b0 : decide (0≤x8_1) = true:=decide_eq_true c3
   clear c3
   by_cases c4 : x8_1 < (l0.length : Int)
   case neg =>
    rw [if_neg c4] at H
    exact absurd H (by simp)
   rw [if_pos c4] at H
   have c4b0 : decide (x8_1 < (l0.length : Int)) = true:=decide_eq_true c4
   clear c4
   replace H':=am H
   have p177 : 0≤(x8_1 : Int):=of_decide_eq_true (by assumption)
   have q177 : x8_1 < (l0.length : Int):=of_decide_eq_true (by assumption)
   obtain ⟨ad177,e177,hx177_0⟩:=Kd.at_int HR0.out x8_1 p177 q177
   cases e177
   replace p177:=eq_true p177
   replace q177:=eq_true q177
   go_wp2
   go_roundg k1
   case measure=>have:=HK1.out;omega
   case rel=>exact ⟨(wrap64 (x3_1 + (rd l0 x8_1))),(wrap64 (x8_1 + 1)),(by first | rfl | (simp;done) | (simp [*];done)),(by first | rfl | (simp;done) | (simp [*];done)),H',⟨by have:=HK1.out;omega⟩,by repeat (first | exact Drawn0.refl _ | apply Drawn0.step)⟩
end
theorem infoC_int : (Tryz.prog.info? 3).map (fun i=>(i.zero,i.size,i.bytes)) = some (some (.int .i64 0),1,8):=by kernel_rfl
def sl_Clone_int.f (l0 : List Int) : Option (List Int):=if l0.length < 17592186044416 then some l0 else none
theorem sl_Clone_int.calls (A0 : Option Addr) (c0 : Nat) (l0 : List Int) (r : List Int) (w : World) (hr0 : Kd.C (Kd.int .i64) w A0 l0.length l0) (hc0 : l0.length≤c0) (h : sl_Clone_int.f l0 = some r) :
 Calls Tryz.prog 108 #[.slice A0 l0.length c0] w fun e w'=>∃ v0_ : Value,e = .returned v0_∧Kd.R (Kd.int .i64) 3 w' w.heap.size (fun _=>True) v0_ r∧Below w.heap.size w w':=by
 unfold sl_Clone_int.f at h
 by_cases hl : l0.length < 17592186044416
 case neg =>
  rw [if_neg hl] at h;cases h
 rw [if_pos hl] at h
 obtain rfl:=Option.some.inj h
 clear h
 have hq : ∀ (W : World) (a : Option Addr) (n c : Nat),(binOp .eql 28 (.slice a n c) (.slice none 0 0)).run Tryz.prog W = .ok (.bool a.isNone) W:=fun W a n c=>Lib.run_eql_slice_nil W 28 3 a n c 0 0 Tryz.underlying28
 cases A0 with
 | none =>
  have hn : l0 = []:=by
   rcases Nat.eq_zero_or_pos l0.length with h0 | h0
   ·exact List.eq_nil_of_length_eq_zero h0
   ·obtain ⟨ad,e,_⟩:=hr0.2.2 h0;cases e
  subst hn
  clear hr0 hc0 hl
  go_enter Tryz.func108,Tryz.ntmps108
  go_wp2
  go_ret
  exact ⟨_,rfl,Kd.R_nil _ _ _ _ _,Below.refl _ _⟩
 | some ad =>
  have HR:=am (kC hr0 (below_alloc (Below.refl _ w) (.cells #[] 3)))
  have HL:=am hl
  clear hr0 hc0 hl
  have HO:=am (show Kd.R (Kd.int .i64) 3 (w.alloc (.cells #[] 3)) w.heap.size (fun _=>True) (.slice (some ⟨w.heap.size,0,none⟩) 0 0) [] from ⟨fun _ _=>trivial,[],by simpa using World.ownsRow_lit (base:=w.heap.size) (e:=3) (size:=((Kd.int .i64)).sz) w #[] 0 (Nat.le_refl _) (by simp [maxLen]) (by simp),Reps.none _ _⟩)
  go_enter Tryz.func108,Tryz.ntmps108
  go_wp2_with ((with_reducible refine gate_builtin (b:=.append) (xs:=#[.tmp 5,.tmp 6]) rfl ?_);at_builtin;refine Kd.R_append_rows (Kd.int .i64) (Rr:=((Kd.int .i64)).K (w.alloc (.cells #[] 3))) (w0:=w) w.heap.size rfl (.tmp 5) (.tmp 6) 28 3 (.int .i64 0) 8 rfl Tryz.underlying28 infoC_int rfl (by decide) (by omega) (.slice (some ⟨w.heap.size,0,none⟩) 0 0) [] l0 (some ad) l0.length c0 (fun _=>True) (fun _=>False) rfl rfl HO.out HR.out (fun _ _ hk=>hk) (fun _ h=>h.elim) (fun _ _=>trivial) (below_alloc (Below.refl _ w) _) (by simp) (by have:=HL.out;simp;omega) ?_;intro v1 w1 ho hb hg hat)
  go_ret
  exact ⟨v1,rfl,ho,hb⟩
section
attribute [local go_sem] max2_int min2_int max_two min_two
def gf_nozzles.f (k : Nat) (l0_0 : List (S126)) (a0_1 : Int) (l0_2 : List (S48)) (a0_3 : Int) (a0_4 : Int) (l0_5 : List (List Int)) (a1 : Int) : Option (Int):=if 0≤a1 then (if a1 < (l0_5.length : Int) then ((ca_sum.f k (rd_L3 l0_5 a1)).bind fun t1084=>(some t1084)) else (none)) else (none)
theorem gf_nozzles.calls (k : Nat) (A0_0 : Option Addr) (c0_0 : Nat) (l0_0 : List (S126)) (a0_1 : Int) (A0_2 : Option Addr) (c0_2 : Nat) (l0_2 : List (S48)) (a0_3 : Int) (a0_4 : Int) (A0_5 : Option Addr) (c0_5 : Nat) (l0_5 : List (List Int)) (a1 : Int) (r : Int) (w : World) (hr0_0 : Kd.C k126 w A0_0 l0_0.length l0_0) (hc0_0 : l0_0.length≤c0_0) (hr0_2 : Kd.C k48 w A0_2 l0_2.length l0_2) (hc0_2 : l0_2.length≤c0_2) (hr0_5 : Kd.C (Kd.slice 3 (Kd.int .i64)) w A0_5 l0_5.length l0_5) (hc0_5 : l0_5.length≤c0_5) (h : gf_nozzles.f k l0_0 a0_1 l0_2 a0_3 a0_4 l0_5 a1 = some r) :
 Calls Tryz.prog 131 #[.agg #[.slice A0_0 l0_0.length c0_0,.int .i64 a0_1,.slice A0_2 l0_2.length c0_2,.int .i64 a0_3,.int .i64 a0_4,.slice A0_5 l0_5.length c0_5],.int .i64 a1] w fun e w'=>e = .returned (.int .i64 r)∧Below w.heap.size w w':=by
 have hu110:=Tryz.underlying110
 have HR0_0:=am hr0_0
 have HC0_0:=am hc0_0
 clear hr0_0 hc0_0
 have HR0_2:=am hr0_2
 have HC0_2:=am hc0_2
 clear hr0_2 hc0_2
 have HR0_5:=am hr0_5
 have HC0_5:=am hc0_5
 clear hr0_5 hc0_5
 have HB:=am (Below.refl w.heap.size w)
 have H : (if 0≤a1 then (if a1 < (l0_5.length : Int) then ((ca_sum.f k (rd_L3 l0_5 a1)).bind fun t1084=>(some t1084)) else (none)) else (none)) = some r:=h
 clear h
 by_cases c3 : 0≤a1
 case neg =>
  rw [if_neg c3] at H
  exact absurd H (by simp)
 rw [if_pos c3] at H
 have c3b0 : decide (0≤a1) = true:=decide_eq_true c3
 clear c3
 by_cases c4 : a1 < (l0_5.length : Int)
 case neg =>
  rw [if_neg c4] at H
  exact absurd H (by simp)
 rw [if_pos c4] at H
 have c4b0 : decide (a1 < (l0_5.length : Int)) = true:=decide_eq_true c4
 clear c4
 replace H:=obm H
 obtain ⟨t1084,A50,H⟩:=H
 replace H : (some t1084) = some r:=H
 have A5:=am A50
 clear A50
 obtain rfl:=Option.some.inj H
 go_enter Tryz.func131,Tryz.ntmps131
 go_wp2_with (first | ((refine gate_dst (N:=2) rfl ?_);refine box_event rfl (N:=2) rfl (cs:=#[.slice A0_0 l0_0.length c0_0,.int .i64 a0_1,.slice A0_2 l0_2.length c0_2,.int .i64 a0_3,.int .i64 a0_4,.slice A0_5 l0_5.length c0_5]) (t:=110) ?hr ?_;(case hr=>go_simp;try rfl);intro gb1082 hg w6 hbox hb;have BK1082:=am (hbox);have GW1082:=am (ge_new (HB.out) hg);have GE1082:=am (ge_new (HB.out) hg);replace HB:=am (below_step (HB.out) hb);clear hb hbox hg;obtain ⟨hcz7_0,hcz7_1,hcz7_2,hcz7_3,hcz7_4,hcz7_5⟩:=cO6 BK1082.out;have p1083 : 0≤(a1 : Int):=of_decide_eq_true (by assumption);have q1083 : a1 < (l0_5.length : Int):=of_decide_eq_true (by assumption);obtain ⟨ad1083,A1083_0,c1083_0,e1083,hx1083_0,hl1083_0,hi1083_0⟩:=at_L3 HR0_5.out a1 p1083 q1083;cases e1083;replace hx1083_0:=(HB.out.cell (wbl hx1083_0)).trans hx1083_0;have HR1083_0:=am hi1083_0;have HC1083_0:=am hl1083_0;clear hi1083_0 hl1083_0;replace p1083:=eq_true p1083;replace q1083:=eq_true q1083) | ((with_reducible refine gate_callee (f:=110) rfl ?_);refine goesL_ (some 10) rfl rfl Tryz.func110 (by kernel_rfl) rfl #[.slice A1083_0 (rd_L3 l0_5 a1).length c1083_0] rfl (by (try simp only [List.map_toArray,List.map_cons,List.map_nil]);first | done | rfl | (simp only [List.length_drop,List.length_take];rfl)) ?_;(refine (ca_sum.calls k _ _ (rd_L3 l0_5 a1) t1084 _ ?side1 ?side2 A5.out).mono ?_);(case side1=>exact kC HR1083_0.out HB.out);(case side2=>exact HC1083_0.out);rintro e w' ⟨rfl,⟨nd,rfl⟩⟩;refine ⟨_,rfl,?_⟩))
 go_ret
 exact ⟨by first | rfl | (simp [*]<;>rfl),pw_below_drewN HB.out _⟩
def gf_weir.f (l0_0 : List (S126)) (a0_1 : Int) (l0_2 : List (S48)) (a0_3 : Int) (a0_4 : Int) (l0_5 : List (List Int)) (a1 : Int) : Option (Int):=some (wrap64 (a0_4 * (mx 0 (wrap64 (a1 - a0_3)))))
theorem gf_weir.calls (A0_0 : Option Addr) (c0_0 : Nat) (l0_0 : List (S126)) (a0_1 : Int) (A0_2 : Option Addr) (c0_2 : Nat) (l0_2 : List (S48)) (a0_3 : Int) (a0_4 : Int) (A0_5 : Option Addr) (c0_5 : Nat) (l0_5 : List (List Int)) (a1 : Int) (r : Int) (w : World) (hr0_0 : Kd.C k126 w A0_0 l0_0.length l0_0) (hc0_0 : l0_0.length≤c0_0) (hr0_2 : Kd.C k48 w A0_2 l0_2.length l0_2) (hc0_2 : l0_2.length≤c0_2) (hr0_5 : Kd.C (Kd.slice 3 (Kd.int .i64)) w A0_5 l0_5.length l0_5) (hc0_5 : l0_5.length≤c0_5) (h : gf_weir.f l0_0 a0_1 l0_2 a0_3 a0_4 l0_5 a1 = some r) :
 Calls Tryz.prog 87 #[.agg #[.slice A0_0 l0_0.length c0_0,.int .i64 a0_1,.slice A0_2 l0_2.length c0_2,.int .i64 a0_3,.int .i64 a0_4,.slice A0_5 l0_5.length c0_5],.int .i64 a1] w fun e w'=>e = .returned (.int .i64 r)∧Below w.heap.size w w':=by
 have hu110:=Tryz.underlying110
 have HR0_0:=am hr0_0
 have HC0_0:=am hc0_0
 clear hr0_0 hc0_0
 have HR0_2:=am hr0_2
 have HC0_2:=am hc0_2
 clear hr0_2 hc0_2
 have HR0_5:=am hr0_5
 have HC0_5:=am hc0_5
 clear hr0_5 hc0_5
 have HB:=am (Below.refl w.heap.size w)
 have H : (some (wrap64 (a0_4 * (mx 0 (wrap64 (a1 - a0_3)))))) = some r:=h
 clear h
 obtain ⟨ji3,hji3⟩ : ∃ j_ : Int,(mx 0 (wrap64 (a1 - a0_3))) = j_:=⟨_,rfl⟩
 replace H : (some (wrap64 (a0_4 * (ji3)))) = some r:=by first | (rw [hji3] at H;exact H) | (simp only [hji3] at H ⊢;exact H)
 (try (have hji3l : 0≤ji3:=by (rw [← hji3];unfold mx;(repeat' split)<;>omega)))
 (try (have hji3m : 0≤ji3:=by omega))
 have hji3_ : (if 0 < (wrap64 (a1 - a0_3)) then (wrap64 (a1 - a0_3)) else 0) = ji3:=hji3
 obtain rfl:=Option.some.inj H
 go_enter Tryz.func87,Tryz.ntmps87
 go_wp2_with (first | ((refine gate_dst (N:=2) rfl ?_);refine box_event rfl (N:=2) rfl (cs:=#[.slice A0_0 l0_0.length c0_0,.int .i64 a0_1,.slice A0_2 l0_2.length c0_2,.int .i64 a0_3,.int .i64 a0_4,.slice A0_5 l0_5.length c0_5]) (t:=110) ?hr ?_;(case hr=>go_simp;try rfl);intro gb335 hg w4 hbox hb;have BK335:=am (hbox);have GW335:=am (ge_new (HB.out) hg);have GE335:=am (ge_new (HB.out) hg);replace HB:=am (below_step (HB.out) hb);clear hb hbox hg;obtain ⟨hcz5_0,hcz5_1,hcz5_2,hcz5_3,hcz5_4,hcz5_5⟩:=cO6 BK335.out))
 go_ret
 exact ⟨by first | rfl | (simp [errW_none,errW_some]<;>rfl) | (simp only [← hji3];first | rfl | (simp [errW_none,errW_some]<;>rfl)) | (simp [*,errW_none,errW_some]<;>rfl),HB.out⟩
end
def gf_out.f (l0_0 : List S126) (a0_1 : Int) (l0_2 : List S48) (a0_3 a0_4 : Int) (l0_5 : List (List Int)) (a1 : Int) : Option Int:=
 (gf_nozzles.f ((rd_L3 l0_5 a1).length + 1) l0_0 a0_1 l0_2 a0_3 a0_4 l0_5 a1).bind fun x=>(gf_weir.f l0_0 a0_1 l0_2 a0_3 a0_4 l0_5 a1).bind fun y=>some (wrap64 (wrap64 x + y))
theorem gf_out.calls (A0_0 : Option Addr) (c0_0 : Nat) (l0_0 : List S126) (a0_1 : Int) (A0_2 : Option Addr) (c0_2 : Nat) (l0_2 : List S48) (a0_3 a0_4 : Int) (A0_5 : Option Addr) (c0_5 : Nat) (l0_5 : List (List Int)) (a1 : Int) (r : Int) (w : World) (hr0_0 : Kd.C k126 w A0_0 l0_0.length l0_0) (hc0_0 : l0_0.length≤c0_0) (hr0_2 : Kd.C k48 w A0_2 l0_2.length l0_2) (hc0_2 : l0_2.length≤c0_2) (hr0_5 : Kd.C (Kd.slice 3 (Kd.int .i64)) w A0_5 l0_5.length l0_5) (hc0_5 : l0_5.length≤c0_5) (h : gf_out.f l0_0 a0_1 l0_2 a0_3 a0_4 l0_5 a1 = some r) :
 Calls Tryz.prog 109 #[.agg #[.slice A0_0 l0_0.length c0_0,.int .i64 a0_1,.slice A0_2 l0_2.length c0_2,.int .i64 a0_3,.int .i64 a0_4,.slice A0_5 l0_5.length c0_5],.int .i64 a1] w fun e w'=>e = .returned (.int .i64 r)∧Below w.heap.size w w':=by
 have hu:=Tryz.underlying110
 have HB:=am (Below.refl w.heap.size w)
 have HR0:=am hr0_0
 have HC0:=am hc0_0
 have HR2:=am hr0_2
 have HC2:=am hc0_2
 have HR5:=am hr0_5
 have HC5:=am hc0_5
 clear hr0_0 hc0_0 hr0_2 hc0_2 hr0_5 hc0_5
 unfold gf_out.f at h
 obtain ⟨x,hx,h⟩:=obm h
 obtain ⟨y,hy,h⟩:=obm h
 have H1:=am hx
 have H2:=am hy
 have H3:=am (Option.some.inj h)
 clear hx hy h
 go_enter Tryz.func109,Tryz.ntmps109
 go_wp2_with ((refine gate_dst (N:=2) rfl ?_);(try (refine gate_guard (by rfl) ?_;dsimp only));refine box_event rfl (N:=2) rfl (cs:=#[.slice A0_0 l0_0.length c0_0,.int .i64 a0_1,.slice A0_2 l0_2.length c0_2,.int .i64 a0_3,.int .i64 a0_4,.slice A0_5 l0_5.length c0_5]) (t:=110) ?hr ?_;(case hr=>go_simp;try rfl);intro g hg w2 hbox hb;replace HB:=(bmv HB hb);clear hg;have BKg:=am hbox;clear hbox;(try clear hczg_0 hczg_1 hczg_2 hczg_3 hczg_4 hczg_5);obtain ⟨hczg_0,hczg_1,hczg_2,hczg_3,hczg_4,hczg_5⟩:=cO6 BKg.out;clear hb)
 have hi0 : ∀ W,(Instr.index 178 (.agg #[.func (.func 131) #[.agg #[.slice A0_0 l0_0.length c0_0,.int .i64 a0_1,.slice A0_2 l0_2.length c0_2,.int .i64 a0_3,.int .i64 a0_4,.slice A0_5 l0_5.length c0_5]] #[],.func (.func 87) #[.agg #[.slice A0_0 l0_0.length c0_0,.int .i64 a0_1,.slice A0_2 l0_2.length c0_2,.int .i64 a0_3,.int .i64 a0_4,.slice A0_5 l0_5.length c0_5]] #[]]) (.int .i64 0)).run Tryz.prog W = .ok (.func (.func 131) #[.agg #[.slice A0_0 l0_0.length c0_0,.int .i64 a0_1,.slice A0_2 l0_2.length c0_2,.int .i64 a0_3,.int .i64 a0_4,.slice A0_5 l0_5.length c0_5]] #[]) W:=fun W=>by rfl
 have hi1 : ∀ W,(Instr.index 178 (.agg #[.func (.func 131) #[.agg #[.slice A0_0 l0_0.length c0_0,.int .i64 a0_1,.slice A0_2 l0_2.length c0_2,.int .i64 a0_3,.int .i64 a0_4,.slice A0_5 l0_5.length c0_5]] #[],.func (.func 87) #[.agg #[.slice A0_0 l0_0.length c0_0,.int .i64 a0_1,.slice A0_2 l0_2.length c0_2,.int .i64 a0_3,.int .i64 a0_4,.slice A0_5 l0_5.length c0_5]] #[]]) (.int .i64 1)).run Tryz.prog W = .ok (.func (.func 87) #[.agg #[.slice A0_0 l0_0.length c0_0,.int .i64 a0_1,.slice A0_2 l0_2.length c0_2,.int .i64 a0_3,.int .i64 a0_4,.slice A0_5 l0_5.length c0_5]] #[]) W:=fun W=>by rfl
 go_loopw [6,8,15] (fun v6 v8 v15 w'=>((v6 = .int .i64 0∧v15 = .int .i64 0)∨(v6 = .int .i64 (wrap64 x)∧v15 = .int .i64 1)∨(v6 = .int .i64 (wrap64 (wrap64 x + y))∧v15 = .int .i64 2))∧Aside0 (Below w.heap.size w w')) (fun _ _ v15 _=>2 - (intOf v15).toNat)
 case atStart=>exact ⟨.inl ⟨rfl,rfl⟩,⟨below_alloc HB.out _⟩⟩
 case round =>
  obtain ⟨hc,HBr⟩:=hrel
  rcases hc with ⟨rfl,rfl⟩ | ⟨rfl,rfl⟩ | ⟨rfl,rfl⟩
  ·go_wp2_with (go_at_call 131;refine (gf_nozzles.calls _ A0_0 c0_0 l0_0 a0_1 A0_2 c0_2 l0_2 a0_3 a0_4 A0_5 c0_5 l0_5 a1 x _ (kC HR0.out HBr.out) HC0.out (kC HR2.out HBr.out) HC2.out (kC HR5.out HBr.out) HC5.out H1.out).mono ?_;rintro e w3 ⟨rfl,hb⟩)
   go_roundw
   case rel=>exact ⟨.inr (.inl ⟨by simp,by simp⟩),⟨below_then HBr.out HBr.out.size hb⟩⟩
   case measure=>simp [intOf]
  ·go_wp2_with (go_at_call 87;refine (gf_weir.calls A0_0 c0_0 l0_0 a0_1 A0_2 c0_2 l0_2 a0_3 a0_4 A0_5 c0_5 l0_5 a1 y _ (kC HR0.out HBr.out) HC0.out (kC HR2.out HBr.out) HC2.out (kC HR5.out HBr.out) HC5.out H2.out).mono ?_;rintro e w3 ⟨rfl,hb⟩)
   go_roundw
   case rel=>exact ⟨.inr (.inr ⟨by simp,by simp⟩),⟨below_then HBr.out HBr.out.size hb⟩⟩
   case measure=>simp [intOf]
  ·go_wp2
   go_ret
   exact ⟨ret_int_eq H3.out,HBr.out⟩
def levelGo (l0_0 : List S126) (a0_1 : Int) (l0_2 : List S48) (a0_3 a0_4 : Int) (l0_5 : List (List Int)) (a1 : Int) : Nat→Int→Int→Option Int
 | 0,_,out=>some out
 | n + 1,h,out=>(gf_out.f l0_0 a0_1 l0_2 a0_3 a0_4 l0_5 h).bind fun t=>if t > a1 then some out else levelGo l0_0 a0_1 l0_2 a0_3 a0_4 l0_5 a1 n (h + 1) h
def gf_level.f (l0_0 : List S126) (a0_1 : Int) (l0_2 : List S48) (a0_3 a0_4 : Int) (l0_5 : List (List Int)) (a1 : Int) : Option Int:=levelGo l0_0 a0_1 l0_2 a0_3 a0_4 l0_5 a1 l0_5.length 0 0
theorem gf_level.calls (A0_0 : Option Addr) (c0_0 : Nat) (l0_0 : List S126) (a0_1 : Int) (A0_2 : Option Addr) (c0_2 : Nat) (l0_2 : List S48) (a0_3 a0_4 : Int) (A0_5 : Option Addr) (c0_5 : Nat) (l0_5 : List (List Int)) (a1 : Int) (r : Int) (w : World) (hr0_0 : Kd.C k126 w A0_0 l0_0.length l0_0) (hc0_0 : l0_0.length≤c0_0) (hr0_2 : Kd.C k48 w A0_2 l0_2.length l0_2) (hc0_2 : l0_2.length≤c0_2) (hr0_5 : Kd.C (Kd.slice 3 (Kd.int .i64)) w A0_5 l0_5.length l0_5) (hc0_5 : l0_5.length≤c0_5) (h : gf_level.f l0_0 a0_1 l0_2 a0_3 a0_4 l0_5 a1 = some r) :
 Calls Tryz.prog 85 #[.agg #[.slice A0_0 l0_0.length c0_0,.int .i64 a0_1,.slice A0_2 l0_2.length c0_2,.int .i64 a0_3,.int .i64 a0_4,.slice A0_5 l0_5.length c0_5],.int .i64 a1] w fun e w'=>e = .returned (.int .i64 r)∧Below w.heap.size w w':=by
 have hu:=Tryz.underlying110
 have HB:=am (Below.refl w.heap.size w)
 have hm : l0_5.length≤9223372036854775807:=Kd.C_max hr0_5
 have HR0:=am hr0_0
 have HC0:=am hc0_0
 have HR2:=am hr0_2
 have HC2:=am hc0_2
 have HR5:=am hr0_5
 have HC5:=am hc0_5
 clear hr0_0 hc0_0 hr0_2 hc0_2 hr0_5 hc0_5
 have HQ:=am (show levelGo l0_0 a0_1 l0_2 a0_3 a0_4 l0_5 a1 ((l0_5.length : Int) - 0).toNat 0 0 = some r from h)
 clear h
 go_enter Tryz.func85,Tryz.ntmps85
 go_wp2_with ((refine gate_dst (N:=2) rfl ?_);(try (refine gate_guard (by rfl) ?_;dsimp only));refine box_event rfl (N:=2) rfl (cs:=#[.slice A0_0 l0_0.length c0_0,.int .i64 a0_1,.slice A0_2 l0_2.length c0_2,.int .i64 a0_3,.int .i64 a0_4,.slice A0_5 l0_5.length c0_5]) (t:=110) ?hr ?_;(case hr=>go_simp;try rfl);intro g hg w2 hbox hb;replace HB:=(bmv HB hb);clear hg;have BKg:=am hbox;clear hbox;(try clear hczg_0 hczg_1 hczg_2 hczg_3 hczg_4 hczg_5);obtain ⟨hczg_0,hczg_1,hczg_2,hczg_3,hczg_4,hczg_5⟩:=cO6 BKg.out;clear hb)
 go_step3
 go_wp2
 go_step3
 go_wp2
 go_loopw [5,6,10] (fun v5 v6 v10 w'=>∃ i out : Int,0≤i∧i≤l0_5.length∧v5 = .int .i64 out∧v10 = .int .i64 i∧Aside0 (levelGo l0_0 a0_1 l0_2 a0_3 a0_4 l0_5 a1 ((l0_5.length : Int) - i).toNat i out = some r)∧Aside0 (Below w.heap.size w w')∧Aside0 (w'.heap[g]? = some (.cells #[.slice A0_0 l0_0.length c0_0,.int .i64 a0_1,.slice A0_2 l0_2.length c0_2,.int .i64 a0_3,.int .i64 a0_4,.slice A0_5 l0_5.length c0_5] 110 (0,0)))) (fun _ _ v10 _=>l0_5.length - (intOf v10).toNat)
 case atStart=>exact ⟨0,0,by omega,by omega,rfl,rfl,HQ,HB,BKg⟩
 case round =>
  clear HQ HB BKg
  obtain ⟨i,out,p1,hi,rfl,rfl,HQ,HB,BKg⟩:=hrel
  by_cases hlt : i < (l0_5.length : Int)
  case neg =>
   go_wp2
   (try rw [Exit.noGoto_ret])
   go_ret
   have hq:=HQ.out
   rw [show ((l0_5.length : Int) - i).toNat = 0 by omega] at hq
   exact ⟨ret_int_eq (Option.some.inj hq),HB.out⟩
  have hq:=HQ.out
  rw [show ((l0_5.length : Int) - i).toNat = ((l0_5.length : Int) - (i + 1)).toNat + 1 by omega] at hq
  simp only [levelGo] at hq
  obtain ⟨t,ht,hq⟩:=obm hq
  have H1:=am ht
  clear ht HQ
  (try clear hczg_0 hfzg_0);have hczg_0 : wr.cell? ⟨g,0,none⟩ = some (.slice A0_0 l0_0.length c0_0):=(blk_cell BKg.out 0).trans rfl;have hfzg_0:=blk_frozen BKg.out 0
  (try clear hczg_1 hfzg_1);have hczg_1 : wr.cell? ⟨g,1,none⟩ = some (.int .i64 a0_1):=(blk_cell BKg.out 1).trans rfl;have hfzg_1:=blk_frozen BKg.out 1
  (try clear hczg_2 hfzg_2);have hczg_2 : wr.cell? ⟨g,2,none⟩ = some (.slice A0_2 l0_2.length c0_2):=(blk_cell BKg.out 2).trans rfl;have hfzg_2:=blk_frozen BKg.out 2
  (try clear hczg_3 hfzg_3);have hczg_3 : wr.cell? ⟨g,3,none⟩ = some (.int .i64 a0_3):=(blk_cell BKg.out 3).trans rfl;have hfzg_3:=blk_frozen BKg.out 3
  (try clear hczg_4 hfzg_4);have hczg_4 : wr.cell? ⟨g,4,none⟩ = some (.int .i64 a0_4):=(blk_cell BKg.out 4).trans rfl;have hfzg_4:=blk_frozen BKg.out 4
  (try clear hczg_5 hfzg_5);have hczg_5 : wr.cell? ⟨g,5,none⟩ = some (.slice A0_5 l0_5.length c0_5):=(blk_cell BKg.out 5).trans rfl;have hfzg_5:=blk_frozen BKg.out 5
  by_cases hgt : t > a1
  ·rw [if_pos hgt] at hq
   have H2:=am (Option.some.inj hq)
   have b1 : decide (a1 < t) = true:=decide_eq_true hgt
   clear hq hgt
   go_wp2_with (go_at_call 109;refine (gf_out.calls A0_0 c0_0 l0_0 a0_1 A0_2 c0_2 l0_2 a0_3 a0_4 A0_5 c0_5 l0_5 i t _ (kC HR0.out HB.out) HC0.out (kC HR2.out HB.out) HC2.out (kC HR5.out HB.out) HC5.out H1.out).mono ?_;rintro e w3 ⟨rfl,hb⟩;have n_:=(kmv hb BKg);have m_:=(bmv HB hb);clear BKg HB hb hczg_0 hczg_1 hczg_2 hczg_3 hczg_4 hczg_5 hfzg_0 hfzg_1 hfzg_2 hfzg_3 hfzg_4 hfzg_5;have BKg:=n_;have HB:=m_;clear n_ m_)
   (try rw [Exit.noGoto_ret])
   go_ret
   exact ⟨ret_int_eq H2.out,HB.out⟩
  ·rw [if_neg hgt] at hq
   have H2:=am hq
   have b1 : decide (a1 < t) = false:=decide_eq_false hgt
   clear hq hgt
   go_wp2_with (go_at_call 109;refine (gf_out.calls A0_0 c0_0 l0_0 a0_1 A0_2 c0_2 l0_2 a0_3 a0_4 A0_5 c0_5 l0_5 i t _ (kC HR0.out HB.out) HC0.out (kC HR2.out HB.out) HC2.out (kC HR5.out HB.out) HC5.out H1.out).mono ?_;rintro e w3 ⟨rfl,hb⟩;have n_:=(kmv hb BKg);have m_:=(bmv HB hb);clear BKg HB hb hczg_0 hczg_1 hczg_2 hczg_3 hczg_4 hczg_5 hfzg_0 hfzg_1 hfzg_2 hfzg_3 hfzg_4 hfzg_5;have BKg:=n_;have HB:=m_;clear n_ m_)
   go_roundw
   case rel=>exact ⟨i + 1,i,by omega,by omega,rfl,by go_num,H2,HB,BKg⟩
   case measure=>simp [intOf];omega
section
attribute [local go_sem] max2_int min2_int max_two min_two
def gf_shares.l0 : Nat→Int→List Int→Int→List Int→Int→Int→Option (List Int × Int)
 | 0,_,_,_,_,_,_=>none
 | k + 1,x1,x7,x8,x33,x34,x35=>if x35 < x34 then (if 0≤x35 then (if x35 < (x33.length : Int) then (if x35 < (x7.length : Int) then (gf_shares.l0 k x1 (x7.set (x35 : Int).toNat (wrap64 ((rd x7 x35) + (mn x8 (wrap64 ((rd x33 x35) - (rd x7 x35))))))) (wrap64 (x8 - (mn x8 (wrap64 ((rd x33 x35) - (rd x7 x35)))))) x33 x34 (wrap64 (x35 + 1))) else (none)) else (none)) else (none)) else ((ca_sum.f k x7).bind fun t190=>(some (x7,wrap64 (x1 - t190))))
def gf_shares.f (k : Nat) (l0_0 : List (S126)) (a0_1 : Int) (l0_2 : List (S48)) (a0_3 : Int) (a0_4 : Int) (l0_5 : List (List Int)) (a1 : Int) : Option (List Int × Int):=(gf_level.f l0_0 a0_1 l0_2 a0_3 a0_4 l0_5 a1).bind fun t179=>(if 0≤t179 then (if t179 < (l0_5.length : Int) then ((sl_Clone_int.f (rd_L3 l0_5 t179)).bind fun t181=>(if t179 < 40 then ((gf_out.f l0_0 a0_1 l0_2 a0_3 a0_4 l0_5 t179).bind fun t184=>(if 0≤(wrap64 (t179 + 1)) then (if (wrap64 (t179 + 1)) < (l0_5.length : Int) then (gf_shares.l0 k a1 t181 (wrap64 (a1 - t184)) (rd_L3 l0_5 (wrap64 (t179 + 1))) ((rd_L3 l0_5 (wrap64 (t179 + 1))).length : Int) 0) else (none)) else (none))) else ((ca_sum.f k t181).bind fun t191=>(some (t181,wrap64 (a1 - t191)))))) else (none)) else (none))
theorem gf_shares.calls (k : Nat) (A0_0 : Option Addr) (c0_0 : Nat) (l0_0 : List (S126)) (a0_1 : Int) (A0_2 : Option Addr) (c0_2 : Nat) (l0_2 : List (S48)) (a0_3 : Int) (a0_4 : Int) (A0_5 : Option Addr) (c0_5 : Nat) (l0_5 : List (List Int)) (a1 : Int) (r1 : List Int) (r2 : Int) (w : World) (hr0_0 : Kd.C k126 w A0_0 l0_0.length l0_0) (hc0_0 : l0_0.length≤c0_0) (hr0_2 : Kd.C k48 w A0_2 l0_2.length l0_2) (hc0_2 : l0_2.length≤c0_2) (hr0_5 : Kd.C (Kd.slice 3 (Kd.int .i64)) w A0_5 l0_5.length l0_5) (hc0_5 : l0_5.length≤c0_5) (h : gf_shares.f k l0_0 a0_1 l0_2 a0_3 a0_4 l0_5 a1 = some (r1,r2)) :
 Calls Tryz.prog 71 #[.agg #[.slice A0_0 l0_0.length c0_0,.int .i64 a0_1,.slice A0_2 l0_2.length c0_2,.int .i64 a0_3,.int .i64 a0_4,.slice A0_5 l0_5.length c0_5],.int .i64 a1] w fun e w'=>∃ v0_ : Value,e = .returned (.tuple #[v0_,.int .i64 r2])∧Kd.R (Kd.int .i64) 3 w' w.heap.size (fun _=>True) v0_ r1∧Below w.heap.size w w':=by
 have hu110:=Tryz.underlying110
 have HR0_0:=am hr0_0
 have HC0_0:=am hc0_0
 clear hr0_0 hc0_0
 have HR0_2:=am hr0_2
 have HC0_2:=am hc0_2
 clear hr0_2 hc0_2
 have HR0_5:=am hr0_5
 have HC0_5:=am hc0_5
 clear hr0_5 hc0_5
 have HB:=am (Below.refl w.heap.size w)
 have H : ((gf_level.f l0_0 a0_1 l0_2 a0_3 a0_4 l0_5 a1).bind fun t179=>(if 0≤t179 then (if t179 < (l0_5.length : Int) then ((sl_Clone_int.f (rd_L3 l0_5 t179)).bind fun t181=>(if t179 < 40 then ((gf_out.f l0_0 a0_1 l0_2 a0_3 a0_4 l0_5 t179).bind fun t184=>(if 0≤(wrap64 (t179 + 1)) then (if (wrap64 (t179 + 1)) < (l0_5.length : Int) then (gf_shares.l0 k a1 t181 (wrap64 (a1 - t184)) (rd_L3 l0_5 (wrap64 (t179 + 1))) ((rd_L3 l0_5 (wrap64 (t179 + 1))).length : Int) 0) else (none)) else (none))) else ((ca_sum.f k t181).bind fun t191=>(some (t181,wrap64 (a1 - t191)))))) else (none)) else (none))) = some (r1,r2):=h
 clear h
 replace H:=obm H
 obtain ⟨t179,A30,H⟩:=H
 replace H : (if 0≤t179 then (if t179 < (l0_5.length : Int) then ((sl_Clone_int.f (rd_L3 l0_5 t179)).bind fun t181=>(if t179 < 40 then ((gf_out.f l0_0 a0_1 l0_2 a0_3 a0_4 l0_5 t179).bind fun t184=>(if 0≤(wrap64 (t179 + 1)) then (if (wrap64 (t179 + 1)) < (l0_5.length : Int) then (gf_shares.l0 k a1 t181 (wrap64 (a1 - t184)) (rd_L3 l0_5 (wrap64 (t179 + 1))) ((rd_L3 l0_5 (wrap64 (t179 + 1))).length : Int) 0) else (none)) else (none))) else ((ca_sum.f k t181).bind fun t191=>(some (t181,wrap64 (a1 - t191)))))) else (none)) else (none)) = some (r1,r2):=H
 have A3:=am A30
 clear A30
 by_cases c4 : 0≤t179
 case neg =>
  rw [if_neg c4] at H
  exact absurd H (by simp)
 rw [if_pos c4] at H
 have c4b0 : decide (0≤t179) = true:=decide_eq_true c4
 clear c4
 by_cases c5 : t179 < (l0_5.length : Int)
 case neg =>
  rw [if_neg c5] at H
  exact absurd H (by simp)
 rw [if_pos c5] at H
 have c5b0 : decide (t179 < (l0_5.length : Int)) = true:=decide_eq_true c5
 clear c5
 replace H:=obm H
 obtain ⟨t181,A60,H⟩:=H
 replace H : (if t179 < 40 then ((gf_out.f l0_0 a0_1 l0_2 a0_3 a0_4 l0_5 t179).bind fun t184=>(if 0≤(wrap64 (t179 + 1)) then (if (wrap64 (t179 + 1)) < (l0_5.length : Int) then (gf_shares.l0 k a1 t181 (wrap64 (a1 - t184)) (rd_L3 l0_5 (wrap64 (t179 + 1))) ((rd_L3 l0_5 (wrap64 (t179 + 1))).length : Int) 0) else (none)) else (none))) else ((ca_sum.f k t181).bind fun t191=>(some (t181,wrap64 (a1 - t191))))) = some (r1,r2):=H
 have A6:=am A60
 clear A60
 by_cases c7 : t179 < 40
 case neg =>
  rw [if_neg c7] at H
  have c7b0 : decide (t179 < 40) = false:=decide_eq_false c7
  clear c7
  replace H:=obm H
  obtain ⟨t191,A310,H⟩:=H
  replace H : (some (t181,wrap64 (a1 - t191))) = some (r1,r2):=H
  have A31:=am A310
  clear A310
  simp only [Option.some.injEq,Prod.mk.injEq] at H
  obtain ⟨rfl,rfl⟩:=H
  go_enter Tryz.func71,Tryz.ntmps71
  go_wp2_with (first | ((refine gate_dst (N:=2) rfl ?_);refine box_event rfl (N:=2) rfl (cs:=#[.slice A0_0 l0_0.length c0_0,.int .i64 a0_1,.slice A0_2 l0_2.length c0_2,.int .i64 a0_3,.int .i64 a0_4,.slice A0_5 l0_5.length c0_5]) (t:=110) ?hr ?_;(case hr=>go_simp;try rfl);intro gb178 hg w32 hbox hb;have BK178:=am (hbox);have GW178:=am (ge_new (HB.out) hg);have GE178:=am (ge_new (HB.out) hg);replace HB:=am (below_step (HB.out) hb);clear hb hbox hg;obtain ⟨hcz33_0,hcz33_1,hcz33_2,hcz33_3,hcz33_4,hcz33_5⟩:=cO6 BK178.out) | ((with_reducible refine gate_callee (f:=85) rfl ?_);refine goesL_ (some 14) rfl rfl Tryz.func85 (by kernel_rfl) rfl #[.agg #[.slice A0_0 l0_0.length c0_0,.int .i64 a0_1,.slice A0_2 l0_2.length c0_2,.int .i64 a0_3,.int .i64 a0_4,.slice A0_5 l0_5.length c0_5],.int .i64 a1] rfl (by (try simp only [List.map_toArray,List.map_cons,List.map_nil]);first | done | rfl | (simp only [List.length_drop,List.length_take];rfl)) ?_;(refine (gf_level.calls _ _ l0_0 a0_1 _ _ l0_2 a0_3 a0_4 _ _ l0_5 a1 t179 _ ?side1 ?side2 ?side3 ?side4 ?side5 ?side6 A3.out).mono ?_);(case side1=>exact kC HR0_0.out HB.out);(case side2=>exact HC0_0.out);(case side3=>exact kC HR0_2.out HB.out);(case side4=>exact HC0_2.out);(case side5=>exact kC HR0_5.out HB.out);(case side6=>exact HC0_5.out);rintro e w34 ⟨rfl,hb⟩;refine ⟨_,rfl,?_⟩;replace BK178:=(kmv hb BK178);replace HB:=am (below_step (HB.out) hb);(try clear hb);(try clear hb2);(try clear hk);(try clear hi);obtain ⟨hcz35_0,hcz35_1,hcz35_2,hcz35_3,hcz35_4,hcz35_5⟩:=cO6 BK178.out;have p180 : 0≤(t179 : Int):=of_decide_eq_true (by assumption);have q180 : t179 < (l0_5.length : Int):=of_decide_eq_true (by assumption);obtain ⟨ad180,A180_0,c180_0,e180,hx180_0,hl180_0,hi180_0⟩:=at_L3 HR0_5.out t179 p180 q180;cases e180;replace hx180_0:=(HB.out.cell (wbl hx180_0)).trans hx180_0;have HR180_0:=am hi180_0;have HC180_0:=am hl180_0;clear hi180_0 hl180_0;replace p180:=eq_true p180;replace q180:=eq_true q180) | ((with_reducible refine gate_callee (f:=108) rfl ?_);refine goesL_ (some 20) rfl rfl Tryz.func108 (by kernel_rfl) rfl #[.slice A180_0 (rd_L3 l0_5 t179).length c180_0] rfl (by (try simp only [List.map_toArray,List.map_cons,List.map_nil]);first | done | rfl | (simp only [List.length_drop,List.length_take];rfl)) ?_;(refine (sl_Clone_int.calls _ _ (rd_L3 l0_5 t179) t181 _ ?side1 ?side2 A6.out).mono ?_);(case side1=>exact kC HR180_0.out HB.out);(case side2=>exact HC180_0.out);rintro e w36 ⟨v182,rfl,ho0,hb⟩;refine ⟨_,rfl,?_⟩;have HO183:=am (Kd.R_lower ho0 (below_size (HB.out)));replace BK178:=(kmv hb BK178);replace HB:=am (below_step (HB.out) hb);(try clear hb);(try clear hb2);(try clear hk);(try clear hi);(try clear ho0);obtain ⟨Ao37,co37,eo37⟩:=Kd.R_slice HO183.out;subst eo37) | ((with_reducible refine gate_callee (f:=110) rfl ?_);refine goesL_ (some 62) rfl rfl Tryz.func110 (by kernel_rfl) rfl #[.slice Ao37 t181.length co37] rfl (by (try simp only [List.map_toArray,List.map_cons,List.map_nil]);first | done | rfl | (simp only [List.length_drop,List.length_take];rfl)) ?_;(refine (ca_sum.calls k _ _ t181 t191 _ ?side1 ?side2 A31.out).mono ?_);(case side1=>repeat (first | exact (Kd.R_reads' HO183.out).2.2 | (with_reducible refine Kd.C_alloc ?_ _) | (with_reducible refine Kd.C_drewN ?_ _) | (with_reducible refine Kd.C_drew ?_)));(case side2=>exact (Kd.R_reads' HO183.out).2.1);rintro e w' ⟨rfl,⟨nd,rfl⟩⟩;refine ⟨_,rfl,?_⟩))
  go_ret2
  exact ⟨_,by first | rfl | (simp [*]<;>rfl),by (with_reducible repeat (first | apply Kd.R_alloc | apply Kd.R_drewN | apply Kd.R_drew));exact HO183.out,pw_below_drewN HB.out _⟩
 rw [if_pos c7] at H
 have c7b0 : decide (t179 < 40) = true:=decide_eq_true c7
 clear c7
 replace H:=obm H
 obtain ⟨t184,A80,H⟩:=H
 replace H : (if 0≤(wrap64 (t179 + 1)) then (if (wrap64 (t179 + 1)) < (l0_5.length : Int) then (gf_shares.l0 k a1 t181 (wrap64 (a1 - t184)) (rd_L3 l0_5 (wrap64 (t179 + 1))) ((rd_L3 l0_5 (wrap64 (t179 + 1))).length : Int) 0) else (none)) else (none)) = some (r1,r2):=H
 have A8:=am A80
 clear A80
 obtain ⟨ji9,hji9⟩ : ∃ j_ : Int,(wrap64 (t179 + 1)) = j_:=⟨_,rfl⟩
 replace H : (if 0≤(ji9) then (if (ji9) < (l0_5.length : Int) then (gf_shares.l0 k a1 t181 (wrap64 (a1 - t184)) (rd_L3 l0_5 (ji9)) ((rd_L3 l0_5 (ji9)).length : Int) 0) else (none)) else (none)) = some (r1,r2):=by first | (rw [hji9] at H;exact H) | (simp only [hji9] at H ⊢;exact H)
 (try rw [hji9] at A3)
 (try rw [hji9] at A6)
 (try rw [hji9] at A8)
 have hji9w : (IntKind.i64.wrap (t179 + 1)) = ji9:=(i64_w _).trans hji9
 by_cases c10 : 0≤(ji9)
 case neg =>
  rw [if_neg c10] at H
  exact absurd H (by simp)
 rw [if_pos c10] at H
 have c10b0 : decide (0≤(ji9)) = true:=decide_eq_true c10
 clear c10
 by_cases c11 : (ji9) < (l0_5.length : Int)
 case neg =>
  rw [if_neg c11] at H
  exact absurd H (by simp)
 rw [if_pos c11] at H
 have c11b0 : decide ((ji9) < (l0_5.length : Int)) = true:=decide_eq_true c11
 clear c11
 replace H':=am H
 go_enter Tryz.func71,Tryz.ntmps71
 go_wp2_with (first | ((refine gate_dst (N:=2) rfl ?_);refine box_event rfl (N:=2) rfl (cs:=#[.slice A0_0 l0_0.length c0_0,.int .i64 a0_1,.slice A0_2 l0_2.length c0_2,.int .i64 a0_3,.int .i64 a0_4,.slice A0_5 l0_5.length c0_5]) (t:=110) ?hr ?_;(case hr=>go_simp;try rfl);intro gb178 hg w12 hbox hb;have BK178:=am (hbox);have GW178:=am (ge_new (HB.out) hg);have GE178:=am (ge_new (HB.out) hg);replace HB:=am (below_step (HB.out) hb);clear hb hbox hg;obtain ⟨hcz13_0,hcz13_1,hcz13_2,hcz13_3,hcz13_4,hcz13_5⟩:=cO6 BK178.out) | ((with_reducible refine gate_callee (f:=85) rfl ?_);refine goesL_ (some 14) rfl rfl Tryz.func85 (by kernel_rfl) rfl #[.agg #[.slice A0_0 l0_0.length c0_0,.int .i64 a0_1,.slice A0_2 l0_2.length c0_2,.int .i64 a0_3,.int .i64 a0_4,.slice A0_5 l0_5.length c0_5],.int .i64 a1] rfl (by (try simp only [List.map_toArray,List.map_cons,List.map_nil]);first | done | rfl | (simp only [List.length_drop,List.length_take];rfl)) ?_;(refine (gf_level.calls _ _ l0_0 a0_1 _ _ l0_2 a0_3 a0_4 _ _ l0_5 a1 t179 _ ?side1 ?side2 ?side3 ?side4 ?side5 ?side6 A3.out).mono ?_);(case side1=>exact kC HR0_0.out HB.out);(case side2=>exact HC0_0.out);(case side3=>exact kC HR0_2.out HB.out);(case side4=>exact HC0_2.out);(case side5=>exact kC HR0_5.out HB.out);(case side6=>exact HC0_5.out);rintro e w14 ⟨rfl,hb⟩;refine ⟨_,rfl,?_⟩;replace BK178:=(kmv hb BK178);replace HB:=am (below_step (HB.out) hb);(try clear hb);(try clear hb2);(try clear hk);(try clear hi);obtain ⟨hcz15_0,hcz15_1,hcz15_2,hcz15_3,hcz15_4,hcz15_5⟩:=cO6 BK178.out;have p180 : 0≤(t179 : Int):=of_decide_eq_true (by assumption);have q180 : t179 < (l0_5.length : Int):=of_decide_eq_true (by assumption);obtain ⟨ad180,A180_0,c180_0,e180,hx180_0,hl180_0,hi180_0⟩:=at_L3 HR0_5.out t179 p180 q180;cases e180;replace hx180_0:=(HB.out.cell (wbl hx180_0)).trans hx180_0;have HR180_0:=am hi180_0;have HC180_0:=am hl180_0;clear hi180_0 hl180_0;replace p180:=eq_true p180;replace q180:=eq_true q180) | ((with_reducible refine gate_callee (f:=108) rfl ?_);refine goesL_ (some 20) rfl rfl Tryz.func108 (by kernel_rfl) rfl #[.slice A180_0 (rd_L3 l0_5 t179).length c180_0] rfl (by (try simp only [List.map_toArray,List.map_cons,List.map_nil]);first | done | rfl | (simp only [List.length_drop,List.length_take];rfl)) ?_;(refine (sl_Clone_int.calls _ _ (rd_L3 l0_5 t179) t181 _ ?side1 ?side2 A6.out).mono ?_);(case side1=>exact kC HR180_0.out HB.out);(case side2=>exact HC180_0.out);rintro e w16 ⟨v182,rfl,ho0,hb⟩;refine ⟨_,rfl,?_⟩;have HO183:=am (Kd.R_lower ho0 (below_size (HB.out)));replace BK178:=(kmv hb BK178);replace HB:=am (below_step (HB.out) hb);(try clear hb);(try clear hb2);(try clear hk);(try clear hi);(try clear ho0);obtain ⟨hcz17_0,hcz17_1,hcz17_2,hcz17_3,hcz17_4,hcz17_5⟩:=cO6 BK178.out) | ((with_reducible refine gate_callee (f:=109) rfl ?_);refine goesL_ (some 26) rfl rfl Tryz.func109 (by kernel_rfl) rfl #[.agg #[.slice A0_0 l0_0.length c0_0,.int .i64 a0_1,.slice A0_2 l0_2.length c0_2,.int .i64 a0_3,.int .i64 a0_4,.slice (some ad180) l0_5.length c0_5],.int .i64 t179] rfl (by (try simp only [List.map_toArray,List.map_cons,List.map_nil]);first | done | rfl | (simp only [List.length_drop,List.length_take];rfl)) ?_;(refine (gf_out.calls _ _ l0_0 a0_1 _ _ l0_2 a0_3 a0_4 _ _ l0_5 t179 t184 _ ?side1 ?side2 ?side3 ?side4 ?side5 ?side6 A8.out).mono ?_);(case side1=>exact kC HR0_0.out HB.out);(case side2=>exact HC0_0.out);(case side3=>exact kC HR0_2.out HB.out);(case side4=>exact HC0_2.out);(case side5=>exact kC HR0_5.out HB.out);(case side6=>exact HC0_5.out);rintro e w18 ⟨rfl,hb⟩;refine ⟨_,rfl,?_⟩;replace HO183:=am (Kd.R_below HO183.out hb);replace BK178:=(kmv hb BK178);replace HB:=am (below_step (HB.out) hb);(try clear hb);(try clear hb2);(try clear hk);(try clear hi);obtain ⟨hcz19_0,hcz19_1,hcz19_2,hcz19_3,hcz19_4,hcz19_5⟩:=cO6 BK178.out;have p185 : 0≤((ji9) : Int):=of_decide_eq_true (by assumption);have q185 : (ji9) < (l0_5.length : Int):=of_decide_eq_true (by assumption);obtain ⟨ad185,A185_0,c185_0,e185,hx185_0,hl185_0,hi185_0⟩:=at_L3 HR0_5.out (ji9) p185 q185;obtain rfl : ad180 = ad185:=(by injection e185);replace hx185_0:=(HB.out.cell (wbl hx185_0)).trans hx185_0;have HR185_0:=am hi185_0;have HC185_0:=am hl185_0;clear hi185_0 hl185_0;replace p185:=eq_true p185;replace q185:=eq_true q185))
 go_loopg [8,35] k (fun kq v8 v35 w'=>∃ (x7_1 : List Int) (x8_1 : Int) (x35_1 : Int),v8 = .int .i64 x8_1∧v35 = .int .i64 x35_1∧Aside0 (gf_shares.l0 kq a1 x7_1 x8_1 (rd_L3 l0_5 (ji9)) ((rd_L3 l0_5 (ji9)).length : Int) x35_1 = some (r1,r2))∧Aside0 (kq≤k)∧Aside0 (Kd.R (Kd.int .i64) 3 w' w.heap.size (fun _=>True) v182 x7_1)∧Aside0 (w'.heap[gb178]? = some (.cells #[(.slice A0_0 l0_0.length c0_0),.int .i64 a0_1,(.slice A0_2 l0_2.length c0_2),.int .i64 a0_3,.int .i64 a0_4,(.slice (some ad180) l0_5.length c0_5)] 110 (0,0)))∧Aside0 (Below w.heap.size w w'))
 case atStart=>exact ⟨(t181),(wrap64 (a1 - t184)),(0),(by first | rfl | (simp;done) | (simp [*];done)),(by first | rfl | (simp;done) | (simp [*];done)),H',⟨Nat.le_refl _⟩,⟨by (with_reducible repeat (first | apply Kd.R_alloc | apply Kd.R_drewN | apply Kd.R_drew));exact HO183.out⟩,⟨BK178.out⟩,⟨HB.out⟩⟩
 case round =>
  clear H'
  obtain ⟨x7_1,x8_1,x35_1,rfl,rfl,HA,HK1,HO_7,BK178,HB⟩:=hrel
  cases gk with
  | zero=>exact absurd HA.out (by simp [gf_shares.l0])
  | succ k1 =>
   have H:=HA.out
   clear HA
   simp only [gf_shares.l0] at H
   by_cases c20 : x35_1 < ((rd_L3 l0_5 (ji9)).length : Int)
   case neg =>
    rw [if_neg c20] at H
    have c20b0 : decide (x35_1 < ((rd_L3 l0_5 (ji9)).length : Int)) = false:=decide_eq_false c20
    clear c20
    replace H:=obm H
    obtain ⟨t190,A290,H⟩:=H
    replace H : (some (x7_1,wrap64 (a1 - t190))) = some (r1,r2):=H
    have A29:=am A290
    clear A290
    simp only [Option.some.injEq,Prod.mk.injEq] at H
    obtain ⟨rfl,rfl⟩:=H
    obtain ⟨Ao30,co30,eo30⟩:=Kd.R_slice HO_7.out
    subst eo30
    go_wp2_with (first | ((with_reducible refine gate_callee (f:=110) rfl ?_);refine goesL_ (some 62) rfl rfl Tryz.func110 (by kernel_rfl) rfl #[.slice Ao30 x7_1.length co30] rfl (by (try simp only [List.map_toArray,List.map_cons,List.map_nil]);first | done | rfl | (simp only [List.length_drop,List.length_take];rfl)) ?_;(refine (ca_sum.calls k1 _ _ x7_1 t190 _ ?side1 ?side2 A29.out).mono ?_);(case side1=>repeat (first | exact (Kd.R_reads' HO_7.out).2.2 | (with_reducible refine Kd.C_alloc ?_ _) | (with_reducible refine Kd.C_drewN ?_ _) | (with_reducible refine Kd.C_drew ?_)));(case side2=>exact (Kd.R_reads' HO_7.out).2.1);rintro e w' ⟨rfl,⟨nd,rfl⟩⟩;refine ⟨_,rfl,?_⟩))
    go_ret2
    exact ⟨_,by first | rfl | (simp [errW_none,errW_some]<;>rfl) | (simp only [← hji9];first | rfl | (simp [errW_none,errW_some]<;>rfl)) | (simp [*,errW_none,errW_some]<;>rfl),by (with_reducible repeat (first | apply Kd.R_alloc | apply Kd.R_drewN | apply Kd.R_drew));exact HO_7.out,pw_below_drewN HB.out _⟩
   rw [if_pos c20] at H
   have c20b0 : decide (x35_1 < ((rd_L3 l0_5 (ji9)).length : Int)) = true:=decide_eq_true c20
   clear c20
   by_cases c21 : 0≤x35_1
   case neg =>
    rw [if_neg c21] at H
    exact absurd H (by simp)
   rw [if_pos c21] at H
   have c21b0 : decide (0≤x35_1) = true:=decide_eq_true c21
   clear c21
   by_cases c22 : x35_1 < ((rd_L3 l0_5 (ji9)).length : Int)
   case neg =>
    rw [if_neg c22] at H
    exact absurd H (by simp)
   rw [if_pos c22] at H
   have c22b0 : decide (x35_1 < ((rd_L3 l0_5 (ji9)).length : Int)) = true:=decide_eq_true c22
   clear c22
   by_cases c23 : x35_1 < (x7_1.length : Int)
   case neg =>
    rw [if_neg c23] at H
    exact absurd H (by simp)
   rw [if_pos c23] at H
   have c23b0 : decide (x35_1 < (x7_1.length : Int)) = true:=decide_eq_true c23
   clear c23
   obtain ⟨ji24,hji24⟩ : ∃ j_ : Int,(mn x8_1 (wrap64 ((rd (rd_L3 l0_5 (ji9)) x35_1) - (rd x7_1 x35_1)))) = j_:=⟨_,rfl⟩
   replace H : (gf_shares.l0 k1 a1 (x7_1.set (x35_1 : Int).toNat (wrap64 ((rd x7_1 x35_1) + (ji24)))) (wrap64 (x8_1 - (ji24))) (rd_L3 l0_5 (ji9)) ((rd_L3 l0_5 (ji9)).length : Int) (wrap64 (x35_1 + 1))) = some (r1,r2):=by first | (rw [hji24] at H;exact H) | (simp only [hji24] at H ⊢;exact H)
   have hji24_ : (if (wrap64 ((rd (rd_L3 l0_5 (ji9)) x35_1) - (rd x7_1 x35_1))) < x8_1 then (wrap64 ((rd (rd_L3 l0_5 (ji9)) x35_1) - (rd x7_1 x35_1))) else x8_1) = ji24:=hji24
   obtain ⟨y189,hy189⟩ : ∃ y_ : List Int,y_ = (x7_1.set (x35_1 : Int).toNat (wrap64 ((rd x7_1 x35_1) + (ji24)))):=⟨_,rfl⟩
   replace H : (gf_shares.l0 k1 a1 y189 (wrap64 (x8_1 - (ji24))) (rd_L3 l0_5 (ji9)) ((rd_L3 l0_5 (ji9)).length : Int) (wrap64 (x35_1 + 1))) = some (r1,r2):=by first | (rw [hy189];with_reducible exact H) | (have H2_:=(Option.bind_some _ _).symm.trans H;rw [hy189];with_reducible exact H2_) | (have H2_:=(Option.bind_some _ _).symm.trans H;with_reducible exact H2_) | with_reducible exact H | (rw [hy189];exact H) | exact H
   have Ny189:=am hy189
   clear hy189
   replace H':=am H
   have p186 : 0≤(x35_1 : Int):=of_decide_eq_true (by assumption)
   have q186 : x35_1 < ((rd_L3 l0_5 (ji9)).length : Int):=of_decide_eq_true (by assumption)
   obtain ⟨ad186,e186,hx186_0⟩:=Kd.at_int HR185_0.out x35_1 p186 q186
   cases e186
   replace hx186_0:=(HB.out.cell (wbl hx186_0)).trans hx186_0
   replace p186:=eq_true p186
   replace q186:=eq_true q186
   obtain ⟨Ao26,co26,eo26⟩:=Kd.R_slice HO_7.out
   subst eo26
   have p187 : 0≤(x35_1 : Int):=of_decide_eq_true (by assumption)
   have q187 : x35_1 < (x7_1.length : Int):=of_decide_eq_true (by assumption)
   obtain ⟨ad187,e187,hx187_0⟩:=Kd.at_int (Kd.R_reads' HO_7.out).2.2 x35_1 p187 q187
   cases e187
   replace p187:=eq_true p187
   replace q187:=eq_true q187
   have p188 : 0≤(x35_1 : Int):=of_decide_eq_true (by assumption)
   have q188 : x35_1 < (x7_1.length : Int):=of_decide_eq_true (by assumption)
   obtain ⟨ad188,e188,hx188_0⟩:=Kd.at_int (Kd.R_reads' HO_7.out).2.2 x35_1 p188 q188
   obtain rfl : ad187 = ad188:=(by injection e188)
   replace p188:=eq_true p188
   replace q188:=eq_true q188
   have p25 : 0≤(x35_1 : Int):=of_decide_eq_true (by assumption)
   have q25 : (x35_1 : Int) < ((x7_1.length : Int) : Int):=of_decide_eq_true (by assumption)
   obtain ⟨go25,co25,eo25,gb25,gl25,cl25,HG25⟩:=Kd.R_form HO_7.out (by omega)
   (first | cases eo25 | (injection eo25 with ea_ en_ ec_;(first | subst ea_ | (injection ea_ with ea_;subst ea_));subst ec_;clear en_))
   have GB25:=am gb25
   have GG25:=am HG25
   clear gb25 gl25 HG25
   (first | simp only [add_plain] at hx187_0 | skip)
   (first | simp only [add_plain] at hx188_0 | skip)
   obtain ⟨hx25_0,hf25_0⟩:=Kd.R_celln 0 HO_7.out (x35_1 : Int) p25 q25
   replace p25:=eq_true p25
   replace q25:=eq_true q25
   have HP27:=Kd.R_putg HO_7.out (x35_1 : Int) (wrap64 ((rd x7_1 x35_1) + (ji24)))
   go_wp2_with (first | ((with_reducible refine gate_store (t:=3) (p:=54) rfl ?_);refine store_event (t:=3) (p:=54) (v:=?vo_w28) (w1:=(wr.setCell ⟨go25,(x35_1 : Int).toNat,none⟩ (.int .i64 (wrap64 ((rd x7_1 x35_1) + (ji24)))))) ?hg ?ho ?hn ?hr ?_;(case ho=>rfl);(case hg=>rfl);(case hn=>rfl);(case hr=>go_simp;try rfl);intro w28 hw;have hg : wr.grownBy w28 (some go25):=(by rw [hw];exact HP27.2);have hp_ : Kd.R (Kd.int .i64) 3 w28 w.heap.size (fun _=>True) (.slice (some ⟨go25,0,none⟩) x7_1.length co26) y189:=(by rw [hw,Ny189.out];exact HP27.1);clear HP27;have n0_:=am (hp_);have n1_:=am (blk_grown (g:=gb178) (o:=.cells #[.slice A0_0 l0_0.length c0_0,.int .i64 a0_1,.slice A0_2 l0_2.length c0_2,.int .i64 a0_3,.int .i64 a0_4,.slice (some ad180) l0_5.length c0_5] 110 (0,0)) BK178.out hg (Kd.R_ne HO_7.out BK178.out (by decide)));have n2_:=am ((by rw [hw];exact below_set (HB.out) GB25.out : Below w.heap.size w w28));clear HO_7;clear BK178;clear HB;have HO_7:=n0_;have BK178:=n1_;have HB:=n2_;clear n0_ n1_ n2_;clear hg hw hp_))
   go_roundg k1
   case measure=>have:=HK1.out;omega
   case rel=>exact ⟨(y189),(wrap64 (x8_1 - (ji24))),(wrap64 (x35_1 + 1)),(by first | rfl | (simp;done) | (simp only [← hji24]<;>(first | rfl | simp)) | (simp [*];done)),(by first | rfl | (simp;done) | (simp [*];done)),H',⟨by have:=HK1.out;omega⟩,⟨by (with_reducible repeat (first | apply Kd.R_alloc | apply Kd.R_drewN | apply Kd.R_drew));exact HO_7.out⟩,⟨BK178.out⟩,⟨HB.out⟩⟩
end
end Go.Proofs.YtnnmnhpeblhiiaaGreatDoor.C

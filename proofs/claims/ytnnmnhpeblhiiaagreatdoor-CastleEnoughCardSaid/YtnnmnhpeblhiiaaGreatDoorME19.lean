/- A part of the proof: the walks of the functions that it reaches. TIGHT. -/
import Derived.Test.YtnnmnhpeblhiiaaGreatDoorME18
set_option linter.unusedVariables false
set_option linter.unusedSimpArgs false
namespace Go.Proofs.YtnnmnhpeblhiiaaGreatDoor.C
open Go.RowKit Go.Proofs.YtnnmnhpeblhiiaaGreatDoorW.PrintWords Go.Proofs.YtnnmnhpeblhiiaaGreatDoorW.PrintLast Go.Proofs.YtnnmnhpeblhiiaaGreatDoorW.PrintMore
set_option linter.unusedVariables false
set_option linter.unusedSimpArgs false
set_option maxHeartbeats 16000000
set_option maxRecDepth 100000
def bisGo (q : Int → Option Bool) : Nat → Int → Int → Option Int
 | 0,_,_ => none
 | n + 1,lo,hi => if lo < hi then (q (wrap64 (Int.tdiv (wrap64 (lo + hi)) 2))).bind fun b => if b = true then bisGo q n lo (wrap64 (Int.tdiv (wrap64 (lo + hi)) 2)) else bisGo q n (wrap64 ((wrap64 (Int.tdiv (wrap64 (lo + hi)) 2)) + 1)) hi else some lo
def ca_Least.f (k : Nat) (l0_0 : List S27) (l0_1 : List S66) (a1 a2 a3 : Int) : Option (Int × Int) :=
 (ca_isChain.f l0_0 l0_1).bind fun t => if t = true then (ca_in.f a1 0 (wrap64 ((l0_0.length : Int) - 1))).bind fun u => (if u = true then (if 0 ≤ a1 then (if a1 < (l0_0.length : Int) then (ca_in.f a2 0 (wrap64 (((rd_T27 l0_0 a1).f1.length : Int) - 1))).bind fun v => (if v = true then (ca_isFlow.f a3).bind fun y => (if y = true then (ca_basins.f l0_0).bind fun fs => (enough.f k fs l0_1 a1 a2 a3 10000).bind fun z => (if z = true then (bisGo (enough.f k fs l0_1 a1 a2 a3) k 0 10000).bind fun q => some (q,0) else some (0,5)) else some (0,2)) else some (0,2)) else none) else none) else some (0,2)) else some (0,2)
theorem skip_abs2 {P : Program} {ops : Array Oper} {o : Oper} {a : Act} {Q : Exit → Act → World → Prop} {rest : List Oper} {W W1 : World} (Rr : World → Prop) (hgd : o.guard = none) (hN : o.dst = none)
 (hrun : (execOp a.eval o).run P W = .ok .skip W1) (hR : Rr W1) (h : ∀ W',Rr W' → wpList P ops Q rest a W') : wpList P ops Q (o :: rest) a W := skip_abs Rr hgd hN hrun hR h
theorem ca_Least.calls (k : Nat) (A0_0 : Option Addr) (c0_0 : Nat) (l0_0 : List S27) (A0_1 : Option Addr) (c0_1 : Nat) (l0_1 : List S66) (a1 a2 a3 : Int) (r1 r2 : Int) (w : World) (hr0_0 : Kd.C k27 w A0_0 l0_0.length l0_0) (hc0_0 : l0_0.length ≤ c0_0) (hr0_1 : Kd.C k66 w A0_1 l0_1.length l0_1) (hc0_1 : l0_1.length ≤ c0_1) (h : ca_Least.f k l0_0 l0_1 a1 a2 a3 = some (r1,r2)) :
 Calls Tryz.prog 35 #[.agg #[.slice A0_0 l0_0.length c0_0,.slice A0_1 l0_1.length c0_1],.int .i64 a1,.int .i64 a2,.int .i64 a3] w fun e w' => e = .returned (.tuple #[.int .i64 r1,.int .i64 r2]) ∧ Below w.heap.size w w' := by
 have hu := Tryz.underlying59
 have hub := Tryz.underlying27
 have hmf : ∀ (fn : Fn) (first cap : Array Value) (w : World),(Instr.makeFunc fn first cap).run Tryz.prog w = .ok (.func fn first cap) w := fun _ _ _ _ => rfl
 have HR0 := am hr0_0
 have HC0 := am hc0_0
 have HR1 := am hr0_1
 have HC1 := am hc0_1
 have HB := am (Below.refl w.heap.size w)
 clear hr0_0 hc0_0 hr0_1 hc0_1
 unfold ca_Least.f at h
 obtain ⟨t,ht,h⟩ := obm h
 have H1 := am ht
 clear ht
 cases t with
 | false =>
  rw [if_neg (by decide)] at h
  simp only [Option.some.injEq,Prod.mk.injEq] at h
  obtain ⟨rfl,rfl⟩ := h
  go_enter Tryz.func35,Tryz.ntmps35
  go_wp2_with (first | ((refine gate_dst (N := 4) rfl ?_);(try (refine gate_guard (by rfl) ?_;dsimp only));refine box_event rfl (N := 4) rfl (cs := #[.slice A0_0 l0_0.length c0_0,.slice A0_1 l0_1.length c0_1]) (t := 59) ?hr ?_;(case hr => go_simp;try rfl);intro gc hg w1 hbox hb;replace HB := (bmv HB hb);clear hg;have BKgc := am hbox;clear hbox;(try clear hczgc_0 hfzgc_0);have hczgc_0 := cO1 BKgc.out;(try clear hczgc_1 hfzgc_1);have hczgc_1 : w1.cell? ⟨gc,1,none⟩ = some (.slice A0_1 l0_1.length c0_1) := (blk_cell BKgc.out 1).trans rfl;clear hb) | ((refine gate_dst (N := 5) rfl ?_);(try (refine gate_guard (by rfl) ?_;dsimp only));refine box_event rfl (N := 5) rfl (cs := #[.int .i64 a1]) (t := 3) ?hr ?_;(case hr => go_simp;try rfl);intro g1 hg w2 hbox hb;replace HB := (bmv HB hb);replace BKgc := (kmv hb BKgc);clear hg;have BKg1 := am hbox;clear hbox;(try clear hczgc_0 hfzgc_0);have hczgc_0 := cO1 BKgc.out;(try clear hczgc_1 hfzgc_1);have hczgc_1 : w2.cell? ⟨gc,1,none⟩ = some (.slice A0_1 l0_1.length c0_1) := (blk_cell BKgc.out 1).trans rfl;(try clear hczg1_0 hfzg1_0);have hczg1_0 := cO1 BKg1.out;clear hb) | ((refine gate_dst (N := 6) rfl ?_);(try (refine gate_guard (by rfl) ?_;dsimp only));refine box_event rfl (N := 6) rfl (cs := #[.int .i64 a2]) (t := 3) ?hr ?_;(case hr => go_simp;try rfl);intro g2 hg w3 hbox hb;replace HB := (bmv HB hb);replace BKgc := (kmv hb BKgc);replace BKg1 := (kmv hb BKg1);clear hg;have BKg2 := am hbox;clear hbox;(try clear hczgc_0 hfzgc_0);have hczgc_0 := cO1 BKgc.out;(try clear hczgc_1 hfzgc_1);have hczgc_1 : w3.cell? ⟨gc,1,none⟩ = some (.slice A0_1 l0_1.length c0_1) := (blk_cell BKgc.out 1).trans rfl;(try clear hczg1_0 hfzg1_0);have hczg1_0 := cO1 BKg1.out;(try clear hczg2_0 hfzg2_0);have hczg2_0 := cO1 BKg2.out;clear hb) | ((refine gate_dst (N := 7) rfl ?_);(try (refine gate_guard (by rfl) ?_;dsimp only));refine box_event rfl (N := 7) rfl (cs := #[.int .i64 a3]) (t := 3) ?hr ?_;(case hr => go_simp;try rfl);intro g3 hg w4 hbox hb;replace HB := (bmv HB hb);replace BKgc := (kmv hb BKgc);replace BKg1 := (kmv hb BKg1);replace BKg2 := (kmv hb BKg2);clear hg;have BKg3 := am hbox;clear hbox;(try clear hczgc_0 hfzgc_0);have hczgc_0 := cO1 BKgc.out;(try clear hczgc_1 hfzgc_1);have hczgc_1 : w4.cell? ⟨gc,1,none⟩ = some (.slice A0_1 l0_1.length c0_1) := (blk_cell BKgc.out 1).trans rfl;(try clear hczg1_0 hfzg1_0);have hczg1_0 := cO1 BKg1.out;(try clear hczg2_0 hfzg2_0);have hczg2_0 := cO1 BKg2.out;(try clear hczg3_0 hfzg3_0);have hczg3_0 := cO1 BKg3.out;clear hb))
  refine start_ (n := 30) (S := fun W => W.cell? ⟨gc,0,none⟩ = some (.slice A0_0 l0_0.length c0_0) ∧ W.cell? ⟨gc,1,none⟩ = some (.slice A0_1 l0_1.length c0_1) ∧ W.cell? ⟨g1,0,none⟩ = some (.int .i64 a1) ∧ W.cell? ⟨g2,0,none⟩ = some (.int .i64 a2) ∧ W.cell? ⟨g3,0,none⟩ = some (.int .i64 a3)) (ds := []) (ba 30 0) (by kernel_rfl) rfl rfl ⟨(blk_cell (blk_drew BKgc.out) 0).trans rfl,(blk_cell (blk_drew BKgc.out) 1).trans rfl,(blk_cell (blk_drew BKg1.out) 0).trans rfl,(blk_cell (blk_drew BKg2.out) 0).trans rfl,(blk_cell (blk_drew BKg3.out) 0).trans rfl⟩ (fun hHeld => ?_)
  replace BKgc := am (blk_drew BKgc.out)
  replace BKg1 := am (blk_drew BKg1.out)
  replace BKg2 := am (blk_drew BKg2.out)
  replace BKg3 := am (blk_drew BKg3.out)
  replace HB := am (below_drew1 HB.out)
  (try clear hczgc_0 hczgc_1 hczg1_0 hczg2_0 hczg3_0)
  (try clear hfzgc_0 hfzgc_1 hfzg1_0 hfzg2_0 hfzg3_0)
  generalize w4.drew = wd at BKgc BKg1 BKg2 BKg3 HB hHeld ⊢
  refine take_ (i := 0) (N := some 15) (v := ?_) (a' := ?_) (ba 30 1) rfl rfl (by kernel_rfl) (fun _ _ _ h => h) (Or.inl ⟨by rfl,?_⟩) hHeld ?_ ?_
  rotate_left
  · rintro w' ⟨s0,s1,s2,s3,s4⟩
    go_simp
    with_reducible rfl
  rotate_left
  · simp only [Act.put,NRM]
    rfl
  refine one_ (i := 1) (N := some 16) (ba 30 3) rfl rfl (by kernel_rfl) (by decide) (fun K hK => ?_)
  refine goes_ Tryz.func80 (by kernel_rfl) rfl #[.agg #[.slice A0_0 l0_0.length c0_0,.slice A0_1 l0_1.length c0_1]] (by rfl) rfl rfl (by (try simp only [List.map_toArray,List.map_cons,List.map_nil]);first | done | rfl) ?_
  refine (ca_isChain.calls A0_0 c0_0 l0_0 A0_1 c0_1 l0_1 false _ (kC HR0.out HB.out) HC0.out (kC HR1.out HB.out) HC1.out H1.out).mono ?_
  rintro e wc ⟨rfl,hb⟩
  replace HB := (bmv HB hb)
  replace BKgc := (kmv hb BKgc)
  replace BKg1 := (kmv hb BKg1)
  replace BKg2 := (kmv hb BKg2)
  replace BKg3 := (kmv hb BKg3)
  clear hb
  refine ⟨_,rfl,?_⟩
  refine hK.out _ _ ⟨(blk_cell BKgc.out 0).trans rfl,(blk_cell BKgc.out 1).trans rfl,(blk_cell BKg1.out 0).trans rfl,(blk_cell BKg2.out 0).trans rfl,(blk_cell BKg3.out 0).trans rfl⟩ (fun hHeld => ?_)
  clear hK K
  refine norm_ (a' := ?_) ?_ ?_
  rotate_left
  · show Act.put _ (some 16) _ = _
    simp only [Act.put,NRM]
    rfl
  refine pure_ (i := 2) (N := some 17) (v := ?_) (a' := ?_) (ba 30 7) rfl rfl (by kernel_rfl) (fun _ _ _ h => h) (Or.inl ⟨by rfl,?_⟩) ?_ ?_
  rotate_left
  · intro w'
    go_simp
    with_reducible rfl
  rotate_left
  · simp only [Act.put,NRM]
    rfl
  refine pure_ (i := 3) (N := some 18) (v := ?_) (a' := ?_) (ba 30 15) rfl rfl (by kernel_rfl) (fun _ _ _ h => h) (Or.inl ⟨by rfl,?_⟩) ?_ ?_
  rotate_left
  · intro w'
    go_simp
    with_reducible rfl
  rotate_left
  · simp only [Act.put,NRM]
    rfl
  refine pure_ (i := 4) (N := some 19) (v := undef) (a' := ?_) (ba 30 31) rfl rfl (by kernel_rfl) (fun _ _ _ h => h) (Or.inr ⟨by rfl,rfl⟩) ?_ ?_
  rotate_left
  · simp only [Act.put,NRM]
    rfl
  refine pure_ (i := 5) (N := some 20) (v := undef) (a' := ?_) (ba 30 63) rfl rfl (by kernel_rfl) (fun _ _ _ h => h) (Or.inr ⟨by rfl,rfl⟩) ?_ ?_
  rotate_left
  · simp only [Act.put,NRM]
    rfl
  refine pure_ (i := 6) (N := some 21) (v := undef) (a' := ?_) (ba 30 127) rfl rfl (by kernel_rfl) (fun _ _ _ h => h) (Or.inr ⟨by rfl,rfl⟩) ?_ ?_
  rotate_left
  · simp only [Act.put,NRM]
    rfl
  refine pure_ (i := 7) (N := some 22) (v := undef) (a' := ?_) (ba 30 255) rfl rfl (by kernel_rfl) (fun _ _ _ h => h) (Or.inr ⟨by rfl,rfl⟩) ?_ ?_
  rotate_left
  · simp only [Act.put,NRM]
    rfl
  refine pure_ (i := 8) (N := some 23) (v := undef) (a' := ?_) (ba 30 511) rfl rfl (by kernel_rfl) (fun _ _ _ h => h) (Or.inr ⟨by rfl,rfl⟩) ?_ ?_
  rotate_left
  · simp only [Act.put,NRM]
    rfl
  refine pure_ (i := 9) (N := some 24) (v := undef) (a' := ?_) (ba 30 1023) rfl rfl (by kernel_rfl) (fun _ _ _ h => h) (Or.inr ⟨by rfl,rfl⟩) ?_ ?_
  rotate_left
  · simp only [Act.put,NRM]
    rfl
  refine pure_ (i := 10) (N := some 25) (v := undef) (a' := ?_) (ba 30 2047) rfl rfl (by kernel_rfl) (fun _ _ _ h => h) (Or.inr ⟨by rfl,rfl⟩) ?_ ?_
  rotate_left
  · simp only [Act.put,NRM]
    rfl
  refine pure_ (i := 11) (N := some 26) (v := ?_) (a' := ?_) (ba 30 4095) rfl rfl (by kernel_rfl) (fun _ _ _ h => h) (Or.inl ⟨by rfl,?_⟩) ?_ ?_
  rotate_left
  · intro w'
    go_simp
    with_reducible rfl
  rotate_left
  · simp only [Act.put,NRM]
    rfl
  refine pure_ (i := 12) (N := some 27) (v := ?_) (a' := ?_) (ba 30 8191) rfl rfl (by kernel_rfl) (fun _ _ _ h => h) (Or.inl ⟨by rfl,?_⟩) ?_ ?_
  rotate_left
  · intro w'
    go_simp
    with_reducible rfl
  rotate_left
  · simp only [Act.put,NRM]
    rfl
  refine pure_ (i := 13) (N := some 28) (v := undef) (a' := ?_) (ba 30 16383) rfl rfl (by kernel_rfl) (fun _ _ _ h => h) (Or.inr ⟨by rfl,rfl⟩) ?_ ?_
  rotate_left
  · simp only [Act.put,NRM]
    rfl
  refine pure_ (i := 14) (N := some 29) (v := undef) (a' := ?_) (ba 30 32767) rfl rfl (by kernel_rfl) (fun _ _ _ h => h) (Or.inr ⟨by rfl,rfl⟩) ?_ ?_
  rotate_left
  · simp only [Act.put,NRM]
    rfl
  refine pure_ (i := 15) (N := some 30) (v := undef) (a' := ?_) (ba 30 65535) rfl rfl (by kernel_rfl) (fun _ _ _ h => h) (Or.inr ⟨by rfl,rfl⟩) ?_ ?_
  rotate_left
  · simp only [Act.put,NRM]
    rfl
  refine pure_ (i := 16) (N := some 31) (v := undef) (a' := ?_) (ba 30 131071) rfl rfl (by kernel_rfl) (fun _ _ _ h => h) (Or.inr ⟨by rfl,rfl⟩) ?_ ?_
  rotate_left
  · simp only [Act.put,NRM]
    rfl
  refine pure_ (i := 17) (N := some 32) (v := undef) (a' := ?_) (ba 30 262143) rfl rfl (by kernel_rfl) (fun _ _ _ h => h) (Or.inr ⟨by rfl,rfl⟩) ?_ ?_
  rotate_left
  · simp only [Act.put,NRM]
    rfl
  refine pure_ (i := 18) (N := some 33) (v := undef) (a' := ?_) (ba 30 524287) rfl rfl (by kernel_rfl) (fun _ _ _ h => h) (Or.inr ⟨by rfl,rfl⟩) ?_ ?_
  rotate_left
  · simp only [Act.put,NRM]
    rfl
  refine pure_ (i := 19) (N := some 34) (v := undef) (a' := ?_) (ba 30 1048575) rfl rfl (by kernel_rfl) (fun _ _ _ h => h) (Or.inr ⟨by rfl,rfl⟩) ?_ ?_
  rotate_left
  · simp only [Act.put,NRM]
    rfl
  refine pure_ (i := 20) (N := some 35) (v := undef) (a' := ?_) (ba 30 2097151) rfl rfl (by kernel_rfl) (fun _ _ _ h => h) (Or.inr ⟨by rfl,rfl⟩) ?_ ?_
  rotate_left
  · simp only [Act.put,NRM]
    rfl
  refine pure_ (i := 21) (N := some 36) (v := undef) (a' := ?_) (ba 30 4194303) rfl rfl (by kernel_rfl) (fun _ _ _ h => h) (Or.inr ⟨by rfl,rfl⟩) ?_ ?_
  rotate_left
  · simp only [Act.put,NRM]
    rfl
  refine pure_ (i := 22) (N := some 37) (v := undef) (a' := ?_) (ba 30 8388607) rfl rfl (by kernel_rfl) (fun _ _ _ h => h) (Or.inr ⟨by rfl,rfl⟩) ?_ ?_
  rotate_left
  · simp only [Act.put,NRM]
    rfl
  refine pure_ (i := 23) (N := some 38) (v := undef) (a' := ?_) (ba 30 16777215) rfl rfl (by kernel_rfl) (fun _ _ _ h => h) (Or.inr ⟨by rfl,rfl⟩) ?_ ?_
  rotate_left
  · simp only [Act.put,NRM]
    rfl
  refine pure_ (i := 24) (N := some 39) (v := ?_) (a' := ?_) (ba 30 33554431) rfl rfl (by kernel_rfl) (fun _ _ _ h => h) (Or.inl ⟨by rfl,?_⟩) ?_ ?_
  rotate_left
  · intro w'
    go_simp
    with_reducible rfl
  rotate_left
  · simp only [Act.put,NRM]
    rfl
  refine pure_ (i := 25) (N := some 40) (v := ?_) (a' := ?_) (ba 30 67108863) rfl rfl (by kernel_rfl) (fun _ _ _ h => h) (Or.inl ⟨by rfl,?_⟩) ?_ ?_
  rotate_left
  · intro w'
    go_simp
    with_reducible rfl
  rotate_left
  · simp only [Act.put,NRM]
    rfl
  refine pure_ (i := 26) (N := some 41) (v := undef) (a' := ?_) (ba 30 134217727) rfl rfl (by kernel_rfl) (fun _ _ _ h => h) (Or.inr ⟨by rfl,rfl⟩) ?_ ?_
  rotate_left
  · simp only [Act.put,NRM]
    rfl
  refine pure_ (i := 27) (N := some 42) (v := undef) (a' := ?_) (ba 30 268435455) rfl rfl (by kernel_rfl) (fun _ _ _ h => h) (Or.inr ⟨by rfl,rfl⟩) ?_ ?_
  rotate_left
  · simp only [Act.put,NRM]
    rfl
  refine pure_ (i := 28) (N := some 43) (v := undef) (a' := ?_) (ba 30 536870911) rfl rfl (by kernel_rfl) (fun _ _ _ h => h) (Or.inr ⟨by rfl,rfl⟩) ?_ ?_
  rotate_left
  · simp only [Act.put,NRM]
    rfl
  refine pure_ (i := 29) (N := some 44) (v := ?_) (a' := ?_) (ba 30 1073741823) rfl rfl (by kernel_rfl) (fun _ _ _ h => h) (Or.inl ⟨by rfl,?_⟩) ?_ ?_
  rotate_left
  · intro w'
    go_simp
    with_reducible rfl
  rotate_left
  · simp only [Act.put,NRM]
    rfl
  refine done_ (by kernel_rfl) ?_
  go_wp2
  go_ret2
  exact ⟨rfl,HB.out⟩
 | true =>
  rw [if_pos rfl] at h
  obtain ⟨u,hu2,h⟩ := obm h
  have H2 := am hu2
  clear hu2
  cases u with
  | false =>
   rw [if_neg (by decide)] at h
   simp only [Option.some.injEq,Prod.mk.injEq] at h
   obtain ⟨rfl,rfl⟩ := h
   go_enter Tryz.func35,Tryz.ntmps35
   go_wp2_with (first | ((refine gate_dst (N := 4) rfl ?_);(try (refine gate_guard (by rfl) ?_;dsimp only));refine box_event rfl (N := 4) rfl (cs := #[.slice A0_0 l0_0.length c0_0,.slice A0_1 l0_1.length c0_1]) (t := 59) ?hr ?_;(case hr => go_simp;try rfl);intro gc hg w1 hbox hb;replace HB := (bmv HB hb);clear hg;have BKgc := am hbox;clear hbox;(try clear hczgc_0 hfzgc_0);have hczgc_0 := cO1 BKgc.out;(try clear hczgc_1 hfzgc_1);have hczgc_1 : w1.cell? ⟨gc,1,none⟩ = some (.slice A0_1 l0_1.length c0_1) := (blk_cell BKgc.out 1).trans rfl;clear hb) | ((refine gate_dst (N := 5) rfl ?_);(try (refine gate_guard (by rfl) ?_;dsimp only));refine box_event rfl (N := 5) rfl (cs := #[.int .i64 a1]) (t := 3) ?hr ?_;(case hr => go_simp;try rfl);intro g1 hg w2 hbox hb;replace HB := (bmv HB hb);replace BKgc := (kmv hb BKgc);clear hg;have BKg1 := am hbox;clear hbox;(try clear hczgc_0 hfzgc_0);have hczgc_0 := cO1 BKgc.out;(try clear hczgc_1 hfzgc_1);have hczgc_1 : w2.cell? ⟨gc,1,none⟩ = some (.slice A0_1 l0_1.length c0_1) := (blk_cell BKgc.out 1).trans rfl;(try clear hczg1_0 hfzg1_0);have hczg1_0 := cO1 BKg1.out;clear hb) | ((refine gate_dst (N := 6) rfl ?_);(try (refine gate_guard (by rfl) ?_;dsimp only));refine box_event rfl (N := 6) rfl (cs := #[.int .i64 a2]) (t := 3) ?hr ?_;(case hr => go_simp;try rfl);intro g2 hg w3 hbox hb;replace HB := (bmv HB hb);replace BKgc := (kmv hb BKgc);replace BKg1 := (kmv hb BKg1);clear hg;have BKg2 := am hbox;clear hbox;(try clear hczgc_0 hfzgc_0);have hczgc_0 := cO1 BKgc.out;(try clear hczgc_1 hfzgc_1);have hczgc_1 : w3.cell? ⟨gc,1,none⟩ = some (.slice A0_1 l0_1.length c0_1) := (blk_cell BKgc.out 1).trans rfl;(try clear hczg1_0 hfzg1_0);have hczg1_0 := cO1 BKg1.out;(try clear hczg2_0 hfzg2_0);have hczg2_0 := cO1 BKg2.out;clear hb) | ((refine gate_dst (N := 7) rfl ?_);(try (refine gate_guard (by rfl) ?_;dsimp only));refine box_event rfl (N := 7) rfl (cs := #[.int .i64 a3]) (t := 3) ?hr ?_;(case hr => go_simp;try rfl);intro g3 hg w4 hbox hb;replace HB := (bmv HB hb);replace BKgc := (kmv hb BKgc);replace BKg1 := (kmv hb BKg1);replace BKg2 := (kmv hb BKg2);clear hg;have BKg3 := am hbox;clear hbox;(try clear hczgc_0 hfzgc_0);have hczgc_0 := cO1 BKgc.out;(try clear hczgc_1 hfzgc_1);have hczgc_1 : w4.cell? ⟨gc,1,none⟩ = some (.slice A0_1 l0_1.length c0_1) := (blk_cell BKgc.out 1).trans rfl;(try clear hczg1_0 hfzg1_0);have hczg1_0 := cO1 BKg1.out;(try clear hczg2_0 hfzg2_0);have hczg2_0 := cO1 BKg2.out;(try clear hczg3_0 hfzg3_0);have hczg3_0 := cO1 BKg3.out;clear hb))
   refine start_ (n := 30) (S := fun W => W.cell? ⟨gc,0,none⟩ = some (.slice A0_0 l0_0.length c0_0) ∧ W.cell? ⟨gc,1,none⟩ = some (.slice A0_1 l0_1.length c0_1) ∧ W.cell? ⟨g1,0,none⟩ = some (.int .i64 a1) ∧ W.cell? ⟨g2,0,none⟩ = some (.int .i64 a2) ∧ W.cell? ⟨g3,0,none⟩ = some (.int .i64 a3)) (ds := []) (ba 30 0) (by kernel_rfl) rfl rfl ⟨(blk_cell (blk_drew BKgc.out) 0).trans rfl,(blk_cell (blk_drew BKgc.out) 1).trans rfl,(blk_cell (blk_drew BKg1.out) 0).trans rfl,(blk_cell (blk_drew BKg2.out) 0).trans rfl,(blk_cell (blk_drew BKg3.out) 0).trans rfl⟩ (fun hHeld => ?_)
   replace BKgc := am (blk_drew BKgc.out)
   replace BKg1 := am (blk_drew BKg1.out)
   replace BKg2 := am (blk_drew BKg2.out)
   replace BKg3 := am (blk_drew BKg3.out)
   replace HB := am (below_drew1 HB.out)
   (try clear hczgc_0 hczgc_1 hczg1_0 hczg2_0 hczg3_0)
   (try clear hfzgc_0 hfzgc_1 hfzg1_0 hfzg2_0 hfzg3_0)
   generalize w4.drew = wd at BKgc BKg1 BKg2 BKg3 HB hHeld ⊢
   refine take_ (i := 0) (N := some 15) (v := ?_) (a' := ?_) (ba 30 1) rfl rfl (by kernel_rfl) (fun _ _ _ h => h) (Or.inl ⟨by rfl,?_⟩) hHeld ?_ ?_
   rotate_left
   · rintro w' ⟨s0,s1,s2,s3,s4⟩
     go_simp
     with_reducible rfl
   rotate_left
   · simp only [Act.put,NRM]
     rfl
   refine one_ (i := 1) (N := some 16) (ba 30 3) rfl rfl (by kernel_rfl) (by decide) (fun K hK => ?_)
   refine goes_ Tryz.func80 (by kernel_rfl) rfl #[.agg #[.slice A0_0 l0_0.length c0_0,.slice A0_1 l0_1.length c0_1]] (by rfl) rfl rfl (by (try simp only [List.map_toArray,List.map_cons,List.map_nil]);first | done | rfl) ?_
   refine (ca_isChain.calls A0_0 c0_0 l0_0 A0_1 c0_1 l0_1 true _ (kC HR0.out HB.out) HC0.out (kC HR1.out HB.out) HC1.out H1.out).mono ?_
   rintro e wc ⟨rfl,hb⟩
   replace HB := (bmv HB hb)
   replace BKgc := (kmv hb BKgc)
   replace BKg1 := (kmv hb BKg1)
   replace BKg2 := (kmv hb BKg2)
   replace BKg3 := (kmv hb BKg3)
   clear hb
   refine ⟨_,rfl,?_⟩
   refine hK.out _ _ ⟨(blk_cell BKgc.out 0).trans rfl,(blk_cell BKgc.out 1).trans rfl,(blk_cell BKg1.out 0).trans rfl,(blk_cell BKg2.out 0).trans rfl,(blk_cell BKg3.out 0).trans rfl⟩ (fun hHeld => ?_)
   clear hK K
   refine norm_ (a' := ?_) ?_ ?_
   rotate_left
   · show Act.put _ (some 16) _ = _
     simp only [Act.put,NRM]
     rfl
   refine pure_ (i := 2) (N := some 17) (v := ?_) (a' := ?_) (ba 30 7) rfl rfl (by kernel_rfl) (fun _ _ _ h => h) (Or.inl ⟨by rfl,?_⟩) ?_ ?_
   rotate_left
   · intro w'
     go_simp
     with_reducible rfl
   rotate_left
   · simp only [Act.put,NRM]
     rfl
   refine pure_ (i := 3) (N := some 18) (v := ?_) (a' := ?_) (ba 30 15) rfl rfl (by kernel_rfl) (fun _ _ _ h => h) (Or.inl ⟨by rfl,?_⟩) ?_ ?_
   rotate_left
   · intro w'
     go_simp
     with_reducible rfl
   rotate_left
   · simp only [Act.put,NRM]
     rfl
   refine pure_ (i := 5) (N := some 20) (v := ?_) (a' := ?_) (ba 30 47) rfl rfl (by kernel_rfl) (fun _ _ _ h => h) (Or.inl ⟨by rfl,?_⟩) ?_ ?_
   rotate_left
   · intro w'
     go_simp
     with_reducible rfl
   rotate_left
   · simp only [Act.put,NRM]
     rfl
   refine take_ (i := 4) (N := some 19) (v := ?_) (a' := ?_) (ba 30 63) rfl rfl (by kernel_rfl) (fun _ _ _ h => h) (Or.inl ⟨by rfl,?_⟩) hHeld ?_ ?_
   rotate_left
   · rintro w' ⟨s0,s1,s2,s3,s4⟩
     go_simp
     with_reducible rfl
   rotate_left
   · simp only [Act.put,NRM]
     rfl
   refine take_ (i := 6) (N := some 21) (v := ?_) (a' := ?_) (ba 30 127) rfl rfl (by kernel_rfl) (fun _ _ _ h => h) (Or.inl ⟨by rfl,?_⟩) hHeld ?_ ?_
   rotate_left
   · rintro w' ⟨s0,s1,s2,s3,s4⟩
     go_simp
     with_reducible rfl
   rotate_left
   · simp only [Act.put,NRM]
     rfl
   refine pure_ (i := 7) (N := some 22) (v := ?_) (a' := ?_) (ba 30 255) rfl rfl (by kernel_rfl) (fun _ _ _ h => h) (Or.inl ⟨by rfl,?_⟩) ?_ ?_
   rotate_left
   · intro w'
     go_simp
     with_reducible rfl
   rotate_left
   · simp only [Act.put,NRM]
     rfl
   refine pure_ (i := 8) (N := some 23) (v := ?_) (a' := ?_) (ba 30 511) rfl rfl (by kernel_rfl) (fun _ _ _ h => h) (Or.inl ⟨by rfl,?_⟩) ?_ ?_
   rotate_left
   · intro w'
     go_simp
     with_reducible rfl
   rotate_left
   · simp only [Act.put,NRM]
     rfl
   refine one_ (i := 9) (N := some 24) (ba 30 1023) rfl rfl (by kernel_rfl) (by decide) (fun K hK => ?_)
   refine goes_ Tryz.func79 (by kernel_rfl) rfl #[.int .i64 a1,.int .i64 0,.int .i64 (wrap64 ((l0_0.length : Int) - 1))] (by rfl) rfl rfl (by (try simp only [List.map_toArray,List.map_cons,List.map_nil]);first | done | rfl) ?_
   refine (ca_in.calls a1 0 (wrap64 ((l0_0.length : Int) - 1)) false _ H2.out).mono ?_
   rintro e wi ⟨rfl,hd⟩
   have hb := hd.below
   clear hd
   replace HB := (bmv HB hb)
   replace BKgc := (kmv hb BKgc)
   replace BKg1 := (kmv hb BKg1)
   replace BKg2 := (kmv hb BKg2)
   replace BKg3 := (kmv hb BKg3)
   clear hb
   refine ⟨_,rfl,?_⟩
   refine hK.out _ _ ⟨(blk_cell BKgc.out 0).trans rfl,(blk_cell BKgc.out 1).trans rfl,(blk_cell BKg1.out 0).trans rfl,(blk_cell BKg2.out 0).trans rfl,(blk_cell BKg3.out 0).trans rfl⟩ (fun hHeld => ?_)
   clear hK K
   refine norm_ (a' := ?_) ?_ ?_
   rotate_left
   · show Act.put _ (some 24) _ = _
     simp only [Act.put,NRM]
     rfl
   refine pure_ (i := 10) (N := some 25) (v := ?_) (a' := ?_) (ba 30 2047) rfl rfl (by kernel_rfl) (fun _ _ _ h => h) (Or.inl ⟨by rfl,?_⟩) ?_ ?_
   rotate_left
   · intro w'
     go_simp
     with_reducible rfl
   rotate_left
   · simp only [Act.put,NRM]
     rfl
   refine pure_ (i := 11) (N := some 26) (v := ?_) (a' := ?_) (ba 30 4095) rfl rfl (by kernel_rfl) (fun _ _ _ h => h) (Or.inl ⟨by rfl,?_⟩) ?_ ?_
   rotate_left
   · intro w'
     go_simp
     with_reducible rfl
   rotate_left
   · simp only [Act.put,NRM]
     rfl
   refine pure_ (i := 12) (N := some 27) (v := ?_) (a' := ?_) (ba 30 8191) rfl rfl (by kernel_rfl) (fun _ _ _ h => h) (Or.inl ⟨by rfl,?_⟩) ?_ ?_
   rotate_left
   · intro w'
     go_simp
     with_reducible rfl
   rotate_left
   · simp only [Act.put,NRM]
     rfl
   refine pure_ (i := 13) (N := some 28) (v := undef) (a' := ?_) (ba 30 16383) rfl rfl (by kernel_rfl) (fun _ _ _ h => h) (Or.inr ⟨by rfl,rfl⟩) ?_ ?_
   rotate_left
   · simp only [Act.put,NRM]
     rfl
   refine pure_ (i := 14) (N := some 29) (v := undef) (a' := ?_) (ba 30 32767) rfl rfl (by kernel_rfl) (fun _ _ _ h => h) (Or.inr ⟨by rfl,rfl⟩) ?_ ?_
   rotate_left
   · simp only [Act.put,NRM]
     rfl
   refine pure_ (i := 15) (N := some 30) (v := undef) (a' := ?_) (ba 30 65535) rfl rfl (by kernel_rfl) (fun _ _ _ h => h) (Or.inr ⟨by rfl,rfl⟩) ?_ ?_
   rotate_left
   · simp only [Act.put,NRM]
     rfl
   refine pure_ (i := 16) (N := some 31) (v := undef) (a' := ?_) (ba 30 131071) rfl rfl (by kernel_rfl) (fun _ _ _ h => h) (Or.inr ⟨by rfl,rfl⟩) ?_ ?_
   rotate_left
   · simp only [Act.put,NRM]
     rfl
   refine pure_ (i := 17) (N := some 32) (v := undef) (a' := ?_) (ba 30 262143) rfl rfl (by kernel_rfl) (fun _ _ _ h => h) (Or.inr ⟨by rfl,rfl⟩) ?_ ?_
   rotate_left
   · simp only [Act.put,NRM]
     rfl
   refine pure_ (i := 18) (N := some 33) (v := undef) (a' := ?_) (ba 30 524287) rfl rfl (by kernel_rfl) (fun _ _ _ h => h) (Or.inr ⟨by rfl,rfl⟩) ?_ ?_
   rotate_left
   · simp only [Act.put,NRM]
     rfl
   refine pure_ (i := 19) (N := some 34) (v := undef) (a' := ?_) (ba 30 1048575) rfl rfl (by kernel_rfl) (fun _ _ _ h => h) (Or.inr ⟨by rfl,rfl⟩) ?_ ?_
   rotate_left
   · simp only [Act.put,NRM]
     rfl
   refine pure_ (i := 20) (N := some 35) (v := undef) (a' := ?_) (ba 30 2097151) rfl rfl (by kernel_rfl) (fun _ _ _ h => h) (Or.inr ⟨by rfl,rfl⟩) ?_ ?_
   rotate_left
   · simp only [Act.put,NRM]
     rfl
   refine pure_ (i := 21) (N := some 36) (v := undef) (a' := ?_) (ba 30 4194303) rfl rfl (by kernel_rfl) (fun _ _ _ h => h) (Or.inr ⟨by rfl,rfl⟩) ?_ ?_
   rotate_left
   · simp only [Act.put,NRM]
     rfl
   refine pure_ (i := 22) (N := some 37) (v := undef) (a' := ?_) (ba 30 8388607) rfl rfl (by kernel_rfl) (fun _ _ _ h => h) (Or.inr ⟨by rfl,rfl⟩) ?_ ?_
   rotate_left
   · simp only [Act.put,NRM]
     rfl
   refine pure_ (i := 23) (N := some 38) (v := undef) (a' := ?_) (ba 30 16777215) rfl rfl (by kernel_rfl) (fun _ _ _ h => h) (Or.inr ⟨by rfl,rfl⟩) ?_ ?_
   rotate_left
   · simp only [Act.put,NRM]
     rfl
   refine pure_ (i := 24) (N := some 39) (v := ?_) (a' := ?_) (ba 30 33554431) rfl rfl (by kernel_rfl) (fun _ _ _ h => h) (Or.inl ⟨by rfl,?_⟩) ?_ ?_
   rotate_left
   · intro w'
     go_simp
     with_reducible rfl
   rotate_left
   · simp only [Act.put,NRM]
     rfl
   refine pure_ (i := 25) (N := some 40) (v := ?_) (a' := ?_) (ba 30 67108863) rfl rfl (by kernel_rfl) (fun _ _ _ h => h) (Or.inl ⟨by rfl,?_⟩) ?_ ?_
   rotate_left
   · intro w'
     go_simp
     with_reducible rfl
   rotate_left
   · simp only [Act.put,NRM]
     rfl
   refine pure_ (i := 26) (N := some 41) (v := undef) (a' := ?_) (ba 30 134217727) rfl rfl (by kernel_rfl) (fun _ _ _ h => h) (Or.inr ⟨by rfl,rfl⟩) ?_ ?_
   rotate_left
   · simp only [Act.put,NRM]
     rfl
   refine pure_ (i := 27) (N := some 42) (v := undef) (a' := ?_) (ba 30 268435455) rfl rfl (by kernel_rfl) (fun _ _ _ h => h) (Or.inr ⟨by rfl,rfl⟩) ?_ ?_
   rotate_left
   · simp only [Act.put,NRM]
     rfl
   refine pure_ (i := 28) (N := some 43) (v := undef) (a' := ?_) (ba 30 536870911) rfl rfl (by kernel_rfl) (fun _ _ _ h => h) (Or.inr ⟨by rfl,rfl⟩) ?_ ?_
   rotate_left
   · simp only [Act.put,NRM]
     rfl
   refine pure_ (i := 29) (N := some 44) (v := ?_) (a' := ?_) (ba 30 1073741823) rfl rfl (by kernel_rfl) (fun _ _ _ h => h) (Or.inl ⟨by rfl,?_⟩) ?_ ?_
   rotate_left
   · intro w'
     go_simp
     with_reducible rfl
   rotate_left
   · simp only [Act.put,NRM]
     rfl
   refine done_ (by kernel_rfl) ?_
   go_wp2
   go_ret2
   exact ⟨rfl,HB.out⟩
  | true =>
   rw [if_pos rfl] at h
   by_cases q0 : 0 ≤ a1
   case neg => rw [if_neg q0] at h;cases h
   rw [if_pos q0] at h
   by_cases q1 : a1 < (l0_0.length : Int)
   case neg => rw [if_neg q1] at h;cases h
   rw [if_pos q1] at h
   obtain ⟨adb,A0,c0,A2,c2,eb,hy0,hy1,hy2,hy3,hy4,g1,g2,g3,g4⟩ := at_T27 HR0.out a1 q0 q1
   cases eb
   have HY := am hy2
   clear hy0 hy1 hy2 hy3 hy4 g1 g2 g3 g4
   obtain ⟨v,hv,h⟩ := obm h
   have H3 := am hv
   clear hv
   cases v with
   | false =>
    rw [if_neg (by decide)] at h
    simp only [Option.some.injEq,Prod.mk.injEq] at h
    obtain ⟨rfl,rfl⟩ := h
    go_enter Tryz.func35,Tryz.ntmps35
    go_wp2_with (first | ((refine gate_dst (N := 4) rfl ?_);(try (refine gate_guard (by rfl) ?_;dsimp only));refine box_event rfl (N := 4) rfl (cs := #[.slice (some adb) l0_0.length c0_0,.slice A0_1 l0_1.length c0_1]) (t := 59) ?hr ?_;(case hr => go_simp;try rfl);intro gc hg w1 hbox hb;replace HB := (bmv HB hb);clear hg;have BKgc := am hbox;clear hbox;(try clear hczgc_0 hfzgc_0);have hczgc_0 := cO1 BKgc.out;(try clear hczgc_1 hfzgc_1);have hczgc_1 : w1.cell? ⟨gc,1,none⟩ = some (.slice A0_1 l0_1.length c0_1) := (blk_cell BKgc.out 1).trans rfl;clear hb) | ((refine gate_dst (N := 5) rfl ?_);(try (refine gate_guard (by rfl) ?_;dsimp only));refine box_event rfl (N := 5) rfl (cs := #[.int .i64 a1]) (t := 3) ?hr ?_;(case hr => go_simp;try rfl);intro g1 hg w2 hbox hb;replace HB := (bmv HB hb);replace BKgc := (kmv hb BKgc);clear hg;have BKg1 := am hbox;clear hbox;(try clear hczgc_0 hfzgc_0);have hczgc_0 := cO1 BKgc.out;(try clear hczgc_1 hfzgc_1);have hczgc_1 : w2.cell? ⟨gc,1,none⟩ = some (.slice A0_1 l0_1.length c0_1) := (blk_cell BKgc.out 1).trans rfl;(try clear hczg1_0 hfzg1_0);have hczg1_0 := cO1 BKg1.out;clear hb) | ((refine gate_dst (N := 6) rfl ?_);(try (refine gate_guard (by rfl) ?_;dsimp only));refine box_event rfl (N := 6) rfl (cs := #[.int .i64 a2]) (t := 3) ?hr ?_;(case hr => go_simp;try rfl);intro g2 hg w3 hbox hb;replace HB := (bmv HB hb);replace BKgc := (kmv hb BKgc);replace BKg1 := (kmv hb BKg1);clear hg;have BKg2 := am hbox;clear hbox;(try clear hczgc_0 hfzgc_0);have hczgc_0 := cO1 BKgc.out;(try clear hczgc_1 hfzgc_1);have hczgc_1 : w3.cell? ⟨gc,1,none⟩ = some (.slice A0_1 l0_1.length c0_1) := (blk_cell BKgc.out 1).trans rfl;(try clear hczg1_0 hfzg1_0);have hczg1_0 := cO1 BKg1.out;(try clear hczg2_0 hfzg2_0);have hczg2_0 := cO1 BKg2.out;clear hb) | ((refine gate_dst (N := 7) rfl ?_);(try (refine gate_guard (by rfl) ?_;dsimp only));refine box_event rfl (N := 7) rfl (cs := #[.int .i64 a3]) (t := 3) ?hr ?_;(case hr => go_simp;try rfl);intro g3 hg w4 hbox hb;replace HB := (bmv HB hb);replace BKgc := (kmv hb BKgc);replace BKg1 := (kmv hb BKg1);replace BKg2 := (kmv hb BKg2);clear hg;have BKg3 := am hbox;clear hbox;(try clear hczgc_0 hfzgc_0);have hczgc_0 := cO1 BKgc.out;(try clear hczgc_1 hfzgc_1);have hczgc_1 : w4.cell? ⟨gc,1,none⟩ = some (.slice A0_1 l0_1.length c0_1) := (blk_cell BKgc.out 1).trans rfl;(try clear hczg1_0 hfzg1_0);have hczg1_0 := cO1 BKg1.out;(try clear hczg2_0 hfzg2_0);have hczg2_0 := cO1 BKg2.out;(try clear hczg3_0 hfzg3_0);have hczg3_0 := cO1 BKg3.out;clear hb))
    refine start_ (n := 30) (S := fun W => W.cell? ⟨gc,0,none⟩ = some (.slice (some adb) l0_0.length c0_0) ∧ W.cell? ⟨gc,1,none⟩ = some (.slice A0_1 l0_1.length c0_1) ∧ W.cell? ⟨g1,0,none⟩ = some (.int .i64 a1) ∧ W.cell? ⟨g2,0,none⟩ = some (.int .i64 a2) ∧ W.cell? ⟨g3,0,none⟩ = some (.int .i64 a3) ∧ W.cell? ⟨(adb.add (a1.toNat * 5)).block,(adb.add (a1.toNat * 5)).off + 2,none⟩ = some (.slice A2 (rd_T27 l0_0 a1).f1.length c2)) (ds := []) (ba 30 0) (by kernel_rfl) rfl rfl ⟨(blk_cell (blk_drew BKgc.out) 0).trans rfl,(blk_cell (blk_drew BKgc.out) 1).trans rfl,(blk_cell (blk_drew BKg1.out) 0).trans rfl,(blk_cell (blk_drew BKg2.out) 0).trans rfl,(blk_cell (blk_drew BKg3.out) 0).trans rfl,((below_drew1 HB.out).cell (wbl HY.out)).trans HY.out⟩ (fun hHeld => ?_)
    replace BKgc := am (blk_drew BKgc.out)
    replace BKg1 := am (blk_drew BKg1.out)
    replace BKg2 := am (blk_drew BKg2.out)
    replace BKg3 := am (blk_drew BKg3.out)
    replace HB := am (below_drew1 HB.out)
    (try clear hczgc_0 hczgc_1 hczg1_0 hczg2_0 hczg3_0)
    (try clear hfzgc_0 hfzgc_1 hfzg1_0 hfzg2_0 hfzg3_0)
    generalize w4.drew = wd at BKgc BKg1 BKg2 BKg3 HB hHeld ⊢
    refine take_ (i := 0) (N := some 15) (v := ?_) (a' := ?_) (ba 30 1) rfl rfl (by kernel_rfl) (fun _ _ _ h => h) (Or.inl ⟨by rfl,?_⟩) hHeld ?_ ?_
    rotate_left
    · rintro w' ⟨s0,s1,s2,s3,s4,s5⟩
      go_simp
      with_reducible rfl
    rotate_left
    · simp only [Act.put,NRM]
      rfl
    refine one_ (i := 1) (N := some 16) (ba 30 3) rfl rfl (by kernel_rfl) (by decide) (fun K hK => ?_)
    refine goes_ Tryz.func80 (by kernel_rfl) rfl #[.agg #[.slice (some adb) l0_0.length c0_0,.slice A0_1 l0_1.length c0_1]] (by rfl) rfl rfl (by (try simp only [List.map_toArray,List.map_cons,List.map_nil]);first | done | rfl) ?_
    refine (ca_isChain.calls (some adb) c0_0 l0_0 A0_1 c0_1 l0_1 true _ (kC HR0.out HB.out) HC0.out (kC HR1.out HB.out) HC1.out H1.out).mono ?_
    rintro e wc ⟨rfl,hb⟩
    replace HB := (bmv HB hb)
    replace BKgc := (kmv hb BKgc)
    replace BKg1 := (kmv hb BKg1)
    replace BKg2 := (kmv hb BKg2)
    replace BKg3 := (kmv hb BKg3)
    clear hb
    refine ⟨_,rfl,?_⟩
    refine hK.out _ _ ⟨(blk_cell BKgc.out 0).trans rfl,(blk_cell BKgc.out 1).trans rfl,(blk_cell BKg1.out 0).trans rfl,(blk_cell BKg2.out 0).trans rfl,(blk_cell BKg3.out 0).trans rfl,(HB.out.cell (wbl HY.out)).trans HY.out⟩ (fun hHeld => ?_)
    clear hK K
    refine norm_ (a' := ?_) ?_ ?_
    rotate_left
    · show Act.put _ (some 16) _ = _
      simp only [Act.put,NRM]
      rfl
    refine pure_ (i := 2) (N := some 17) (v := ?_) (a' := ?_) (ba 30 7) rfl rfl (by kernel_rfl) (fun _ _ _ h => h) (Or.inl ⟨by rfl,?_⟩) ?_ ?_
    rotate_left
    · intro w'
      go_simp
      with_reducible rfl
    rotate_left
    · simp only [Act.put,NRM]
      rfl
    refine pure_ (i := 3) (N := some 18) (v := ?_) (a' := ?_) (ba 30 15) rfl rfl (by kernel_rfl) (fun _ _ _ h => h) (Or.inl ⟨by rfl,?_⟩) ?_ ?_
    rotate_left
    · intro w'
      go_simp
      with_reducible rfl
    rotate_left
    · simp only [Act.put,NRM]
      rfl
    refine pure_ (i := 5) (N := some 20) (v := ?_) (a' := ?_) (ba 30 47) rfl rfl (by kernel_rfl) (fun _ _ _ h => h) (Or.inl ⟨by rfl,?_⟩) ?_ ?_
    rotate_left
    · intro w'
      go_simp
      with_reducible rfl
    rotate_left
    · simp only [Act.put,NRM]
      rfl
    refine take_ (i := 4) (N := some 19) (v := ?_) (a' := ?_) (ba 30 63) rfl rfl (by kernel_rfl) (fun _ _ _ h => h) (Or.inl ⟨by rfl,?_⟩) hHeld ?_ ?_
    rotate_left
    · rintro w' ⟨s0,s1,s2,s3,s4,s5⟩
      go_simp
      with_reducible rfl
    rotate_left
    · simp only [Act.put,NRM]
      rfl
    refine take_ (i := 6) (N := some 21) (v := ?_) (a' := ?_) (ba 30 127) rfl rfl (by kernel_rfl) (fun _ _ _ h => h) (Or.inl ⟨by rfl,?_⟩) hHeld ?_ ?_
    rotate_left
    · rintro w' ⟨s0,s1,s2,s3,s4,s5⟩
      go_simp
      with_reducible rfl
    rotate_left
    · simp only [Act.put,NRM]
      rfl
    refine pure_ (i := 7) (N := some 22) (v := ?_) (a' := ?_) (ba 30 255) rfl rfl (by kernel_rfl) (fun _ _ _ h => h) (Or.inl ⟨by rfl,?_⟩) ?_ ?_
    rotate_left
    · intro w'
      go_simp
      with_reducible rfl
    rotate_left
    · simp only [Act.put,NRM]
      rfl
    refine pure_ (i := 8) (N := some 23) (v := ?_) (a' := ?_) (ba 30 511) rfl rfl (by kernel_rfl) (fun _ _ _ h => h) (Or.inl ⟨by rfl,?_⟩) ?_ ?_
    rotate_left
    · intro w'
      go_simp
      with_reducible rfl
    rotate_left
    · simp only [Act.put,NRM]
      rfl
    refine one_ (i := 9) (N := some 24) (ba 30 1023) rfl rfl (by kernel_rfl) (by decide) (fun K hK => ?_)
    refine goes_ Tryz.func79 (by kernel_rfl) rfl #[.int .i64 a1,.int .i64 0,.int .i64 (wrap64 ((l0_0.length : Int) - 1))] (by rfl) rfl rfl (by (try simp only [List.map_toArray,List.map_cons,List.map_nil]);first | done | rfl) ?_
    refine (ca_in.calls a1 0 (wrap64 ((l0_0.length : Int) - 1)) true _ H2.out).mono ?_
    rintro e wi ⟨rfl,hd⟩
    have hb := hd.below
    clear hd
    replace HB := (bmv HB hb)
    replace BKgc := (kmv hb BKgc)
    replace BKg1 := (kmv hb BKg1)
    replace BKg2 := (kmv hb BKg2)
    replace BKg3 := (kmv hb BKg3)
    clear hb
    refine ⟨_,rfl,?_⟩
    refine hK.out _ _ ⟨(blk_cell BKgc.out 0).trans rfl,(blk_cell BKgc.out 1).trans rfl,(blk_cell BKg1.out 0).trans rfl,(blk_cell BKg2.out 0).trans rfl,(blk_cell BKg3.out 0).trans rfl,(HB.out.cell (wbl HY.out)).trans HY.out⟩ (fun hHeld => ?_)
    clear hK K
    refine norm_ (a' := ?_) ?_ ?_
    rotate_left
    · show Act.put _ (some 24) _ = _
      simp only [Act.put,NRM]
      rfl
    refine pure_ (i := 10) (N := some 25) (v := ?_) (a' := ?_) (ba 30 2047) rfl rfl (by kernel_rfl) (fun _ _ _ h => h) (Or.inl ⟨by rfl,?_⟩) ?_ ?_
    rotate_left
    · intro w'
      go_simp
      with_reducible rfl
    rotate_left
    · simp only [Act.put,NRM]
      rfl
    refine pure_ (i := 11) (N := some 26) (v := ?_) (a' := ?_) (ba 30 4095) rfl rfl (by kernel_rfl) (fun _ _ _ h => h) (Or.inl ⟨by rfl,?_⟩) ?_ ?_
    rotate_left
    · intro w'
      go_simp
      with_reducible rfl
    rotate_left
    · simp only [Act.put,NRM]
      rfl
    refine pure_ (i := 12) (N := some 27) (v := ?_) (a' := ?_) (ba 30 8191) rfl rfl (by kernel_rfl) (fun _ _ _ h => h) (Or.inl ⟨by rfl,?_⟩) ?_ ?_
    rotate_left
    · intro w'
      go_simp
      with_reducible rfl
    rotate_left
    · simp only [Act.put,NRM]
      rfl
    refine pure_ (i := 14) (N := some 29) (v := ?_) (a' := ?_) (ba 30 24575) rfl rfl (by kernel_rfl) (fun _ _ _ h => h) (Or.inl ⟨by rfl,?_⟩) ?_ ?_
    rotate_left
    · intro w'
      go_simp
      with_reducible rfl
    rotate_left
    · simp only [Act.put,NRM]
      rfl
    refine take_ (i := 13) (N := some 28) (v := ?_) (a' := ?_) (ba 30 32767) rfl rfl (by kernel_rfl) (fun _ _ _ h => h) (Or.inl ⟨by rfl,?_⟩) hHeld ?_ ?_
    rotate_left
    · rintro w' ⟨s0,s1,s2,s3,s4,s5⟩
      go_simp
      with_reducible rfl
    rotate_left
    · simp only [Act.put,NRM]
      rfl
    refine take_ (i := 15) (N := some 30) (v := ?_) (a' := ?_) (ba 30 65535) rfl rfl (by kernel_rfl) (fun _ _ _ h => h) (Or.inl ⟨by rfl,?_⟩) hHeld ?_ ?_
    rotate_left
    · rintro w' ⟨s0,s1,s2,s3,s4,s5⟩
      go_simp
      with_reducible rfl
    rotate_left
    · simp only [Act.put,NRM]
      rfl
    refine take_ (i := 16) (N := some 31) (v := ?_) (a' := ?_) (ba 30 131071) rfl rfl (by kernel_rfl) (fun _ _ _ h => h) (Or.inl ⟨by rfl,?_⟩) hHeld ?_ ?_
    rotate_left
    · rintro w' ⟨s0,s1,s2,s3,s4,s5⟩
      go_simp
      with_reducible rfl
    rotate_left
    · simp only [Act.put,NRM]
      rfl
    refine pure_ (i := 17) (N := some 32) (v := ?_) (a' := ?_) (ba 30 262143) rfl rfl (by kernel_rfl) (fun _ _ _ h => h) (Or.inl ⟨by rfl,?_⟩) ?_ ?_
    rotate_left
    · intro w'
      go_simp
      with_reducible rfl
    rotate_left
    · simp only [Act.put,NRM]
      rfl
    refine pure_ (i := 18) (N := some 33) (v := ?_) (a' := ?_) (ba 30 524287) rfl rfl (by kernel_rfl) (fun _ _ _ h => h) (Or.inl ⟨by rfl,?_⟩) ?_ ?_
    rotate_left
    · intro w'
      go_simp
      with_reducible rfl
    rotate_left
    · simp only [Act.put,NRM]
      rfl
    refine take_ (i := 19) (N := some 34) (v := ?_) (a' := ?_) (ba 30 1048575) rfl rfl (by kernel_rfl) (fun _ _ _ h => h) (Or.inl ⟨by rfl,?_⟩) hHeld ?_ ?_
    rotate_left
    · rintro w' ⟨s0,s1,s2,s3,s4,s5⟩
      go_simp
      with_reducible rfl
    rotate_left
    · simp only [Act.put,NRM]
      rfl
    refine pure_ (i := 20) (N := some 35) (v := ?_) (a' := ?_) (ba 30 2097151) rfl rfl (by kernel_rfl) (fun _ _ _ h => h) (Or.inl ⟨by rfl,?_⟩) ?_ ?_
    rotate_left
    · intro w'
      go_simp
      with_reducible rfl
    rotate_left
    · simp only [Act.put,NRM]
      rfl
    refine pure_ (i := 21) (N := some 36) (v := ?_) (a' := ?_) (ba 30 4194303) rfl rfl (by kernel_rfl) (fun _ _ _ h => h) (Or.inl ⟨by rfl,?_⟩) ?_ ?_
    rotate_left
    · intro w'
      go_simp
      with_reducible rfl
    rotate_left
    · simp only [Act.put,NRM]
      rfl
    refine one_ (i := 22) (N := some 37) (ba 30 8388607) rfl rfl (by kernel_rfl) (by decide) (fun K hK => ?_)
    refine goes_ Tryz.func79 (by kernel_rfl) rfl #[.int .i64 a2,.int .i64 0,.int .i64 (wrap64 (((rd_T27 l0_0 a1).f1.length : Int) - 1))] (by rfl) rfl rfl (by (try simp only [List.map_toArray,List.map_cons,List.map_nil]);first | done | rfl) ?_
    refine (ca_in.calls a2 0 (wrap64 (((rd_T27 l0_0 a1).f1.length : Int) - 1)) false _ H3.out).mono ?_
    rintro e wj ⟨rfl,hd⟩
    have hb := hd.below
    clear hd
    replace HB := (bmv HB hb)
    replace BKgc := (kmv hb BKgc)
    replace BKg1 := (kmv hb BKg1)
    replace BKg2 := (kmv hb BKg2)
    replace BKg3 := (kmv hb BKg3)
    clear hb
    refine ⟨_,rfl,?_⟩
    refine hK.out _ _ ⟨(blk_cell BKgc.out 0).trans rfl,(blk_cell BKgc.out 1).trans rfl,(blk_cell BKg1.out 0).trans rfl,(blk_cell BKg2.out 0).trans rfl,(blk_cell BKg3.out 0).trans rfl,(HB.out.cell (wbl HY.out)).trans HY.out⟩ (fun hHeld => ?_)
    clear hK K
    refine norm_ (a' := ?_) ?_ ?_
    rotate_left
    · show Act.put _ (some 37) _ = _
      simp only [Act.put,NRM]
      rfl
    refine pure_ (i := 23) (N := some 38) (v := ?_) (a' := ?_) (ba 30 16777215) rfl rfl (by kernel_rfl) (fun _ _ _ h => h) (Or.inl ⟨by rfl,?_⟩) ?_ ?_
    rotate_left
    · intro w'
      go_simp
      with_reducible rfl
    rotate_left
    · simp only [Act.put,NRM]
      rfl
    refine pure_ (i := 24) (N := some 39) (v := ?_) (a' := ?_) (ba 30 33554431) rfl rfl (by kernel_rfl) (fun _ _ _ h => h) (Or.inl ⟨by rfl,?_⟩) ?_ ?_
    rotate_left
    · intro w'
      go_simp
      with_reducible rfl
    rotate_left
    · simp only [Act.put,NRM]
      rfl
    refine pure_ (i := 25) (N := some 40) (v := ?_) (a' := ?_) (ba 30 67108863) rfl rfl (by kernel_rfl) (fun _ _ _ h => h) (Or.inl ⟨by rfl,?_⟩) ?_ ?_
    rotate_left
    · intro w'
      go_simp
      with_reducible rfl
    rotate_left
    · simp only [Act.put,NRM]
      rfl
    refine pure_ (i := 26) (N := some 41) (v := undef) (a' := ?_) (ba 30 134217727) rfl rfl (by kernel_rfl) (fun _ _ _ h => h) (Or.inr ⟨by rfl,rfl⟩) ?_ ?_
    rotate_left
    · simp only [Act.put,NRM]
      rfl
    refine pure_ (i := 27) (N := some 42) (v := undef) (a' := ?_) (ba 30 268435455) rfl rfl (by kernel_rfl) (fun _ _ _ h => h) (Or.inr ⟨by rfl,rfl⟩) ?_ ?_
    rotate_left
    · simp only [Act.put,NRM]
      rfl
    refine pure_ (i := 28) (N := some 43) (v := undef) (a' := ?_) (ba 30 536870911) rfl rfl (by kernel_rfl) (fun _ _ _ h => h) (Or.inr ⟨by rfl,rfl⟩) ?_ ?_
    rotate_left
    · simp only [Act.put,NRM]
      rfl
    refine pure_ (i := 29) (N := some 44) (v := ?_) (a' := ?_) (ba 30 1073741823) rfl rfl (by kernel_rfl) (fun _ _ _ h => h) (Or.inl ⟨by rfl,?_⟩) ?_ ?_
    rotate_left
    · intro w'
      go_simp
      with_reducible rfl
    rotate_left
    · simp only [Act.put,NRM]
      rfl
    refine done_ (by kernel_rfl) ?_
    go_wp2
    go_ret2
    exact ⟨rfl,HB.out⟩
   | true =>
    rw [if_pos rfl] at h
    obtain ⟨y,hy_,h⟩ := obm h
    have H4 := am hy_
    clear hy_
    cases y with
    | false =>
     rw [if_neg (by decide)] at h
     simp only [Option.some.injEq,Prod.mk.injEq] at h
     obtain ⟨rfl,rfl⟩ := h
     go_enter Tryz.func35,Tryz.ntmps35
     go_wp2_with (first | ((refine gate_dst (N := 4) rfl ?_);(try (refine gate_guard (by rfl) ?_;dsimp only));refine box_event rfl (N := 4) rfl (cs := #[.slice (some adb) l0_0.length c0_0,.slice A0_1 l0_1.length c0_1]) (t := 59) ?hr ?_;(case hr => go_simp;try rfl);intro gc hg w1 hbox hb;replace HB := (bmv HB hb);clear hg;have BKgc := am hbox;clear hbox;(try clear hczgc_0 hfzgc_0);have hczgc_0 := cO1 BKgc.out;(try clear hczgc_1 hfzgc_1);have hczgc_1 : w1.cell? ⟨gc,1,none⟩ = some (.slice A0_1 l0_1.length c0_1) := (blk_cell BKgc.out 1).trans rfl;clear hb) | ((refine gate_dst (N := 5) rfl ?_);(try (refine gate_guard (by rfl) ?_;dsimp only));refine box_event rfl (N := 5) rfl (cs := #[.int .i64 a1]) (t := 3) ?hr ?_;(case hr => go_simp;try rfl);intro g1 hg w2 hbox hb;replace HB := (bmv HB hb);replace BKgc := (kmv hb BKgc);clear hg;have BKg1 := am hbox;clear hbox;(try clear hczgc_0 hfzgc_0);have hczgc_0 := cO1 BKgc.out;(try clear hczgc_1 hfzgc_1);have hczgc_1 : w2.cell? ⟨gc,1,none⟩ = some (.slice A0_1 l0_1.length c0_1) := (blk_cell BKgc.out 1).trans rfl;(try clear hczg1_0 hfzg1_0);have hczg1_0 := cO1 BKg1.out;clear hb) | ((refine gate_dst (N := 6) rfl ?_);(try (refine gate_guard (by rfl) ?_;dsimp only));refine box_event rfl (N := 6) rfl (cs := #[.int .i64 a2]) (t := 3) ?hr ?_;(case hr => go_simp;try rfl);intro g2 hg w3 hbox hb;replace HB := (bmv HB hb);replace BKgc := (kmv hb BKgc);replace BKg1 := (kmv hb BKg1);clear hg;have BKg2 := am hbox;clear hbox;(try clear hczgc_0 hfzgc_0);have hczgc_0 := cO1 BKgc.out;(try clear hczgc_1 hfzgc_1);have hczgc_1 : w3.cell? ⟨gc,1,none⟩ = some (.slice A0_1 l0_1.length c0_1) := (blk_cell BKgc.out 1).trans rfl;(try clear hczg1_0 hfzg1_0);have hczg1_0 := cO1 BKg1.out;(try clear hczg2_0 hfzg2_0);have hczg2_0 := cO1 BKg2.out;clear hb) | ((refine gate_dst (N := 7) rfl ?_);(try (refine gate_guard (by rfl) ?_;dsimp only));refine box_event rfl (N := 7) rfl (cs := #[.int .i64 a3]) (t := 3) ?hr ?_;(case hr => go_simp;try rfl);intro g3 hg w4 hbox hb;replace HB := (bmv HB hb);replace BKgc := (kmv hb BKgc);replace BKg1 := (kmv hb BKg1);replace BKg2 := (kmv hb BKg2);clear hg;have BKg3 := am hbox;clear hbox;(try clear hczgc_0 hfzgc_0);have hczgc_0 := cO1 BKgc.out;(try clear hczgc_1 hfzgc_1);have hczgc_1 : w4.cell? ⟨gc,1,none⟩ = some (.slice A0_1 l0_1.length c0_1) := (blk_cell BKgc.out 1).trans rfl;(try clear hczg1_0 hfzg1_0);have hczg1_0 := cO1 BKg1.out;(try clear hczg2_0 hfzg2_0);have hczg2_0 := cO1 BKg2.out;(try clear hczg3_0 hfzg3_0);have hczg3_0 := cO1 BKg3.out;clear hb))
     refine start_ (n := 30) (S := fun W => W.cell? ⟨gc,0,none⟩ = some (.slice (some adb) l0_0.length c0_0) ∧ W.cell? ⟨gc,1,none⟩ = some (.slice A0_1 l0_1.length c0_1) ∧ W.cell? ⟨g1,0,none⟩ = some (.int .i64 a1) ∧ W.cell? ⟨g2,0,none⟩ = some (.int .i64 a2) ∧ W.cell? ⟨g3,0,none⟩ = some (.int .i64 a3) ∧ W.cell? ⟨(adb.add (a1.toNat * 5)).block,(adb.add (a1.toNat * 5)).off + 2,none⟩ = some (.slice A2 (rd_T27 l0_0 a1).f1.length c2)) (ds := []) (ba 30 0) (by kernel_rfl) rfl rfl ⟨(blk_cell (blk_drew BKgc.out) 0).trans rfl,(blk_cell (blk_drew BKgc.out) 1).trans rfl,(blk_cell (blk_drew BKg1.out) 0).trans rfl,(blk_cell (blk_drew BKg2.out) 0).trans rfl,(blk_cell (blk_drew BKg3.out) 0).trans rfl,((below_drew1 HB.out).cell (wbl HY.out)).trans HY.out⟩ (fun hHeld => ?_)
     replace BKgc := am (blk_drew BKgc.out)
     replace BKg1 := am (blk_drew BKg1.out)
     replace BKg2 := am (blk_drew BKg2.out)
     replace BKg3 := am (blk_drew BKg3.out)
     replace HB := am (below_drew1 HB.out)
     (try clear hczgc_0 hczgc_1 hczg1_0 hczg2_0 hczg3_0)
     (try clear hfzgc_0 hfzgc_1 hfzg1_0 hfzg2_0 hfzg3_0)
     generalize w4.drew = wd at BKgc BKg1 BKg2 BKg3 HB hHeld ⊢
     refine take_ (i := 0) (N := some 15) (v := ?_) (a' := ?_) (ba 30 1) rfl rfl (by kernel_rfl) (fun _ _ _ h => h) (Or.inl ⟨by rfl,?_⟩) hHeld ?_ ?_
     rotate_left
     · rintro w' ⟨s0,s1,s2,s3,s4,s5⟩
       go_simp
       with_reducible rfl
     rotate_left
     · simp only [Act.put,NRM]
       rfl
     refine one_ (i := 1) (N := some 16) (ba 30 3) rfl rfl (by kernel_rfl) (by decide) (fun K hK => ?_)
     refine goes_ Tryz.func80 (by kernel_rfl) rfl #[.agg #[.slice (some adb) l0_0.length c0_0,.slice A0_1 l0_1.length c0_1]] (by rfl) rfl rfl (by (try simp only [List.map_toArray,List.map_cons,List.map_nil]);first | done | rfl) ?_
     refine (ca_isChain.calls (some adb) c0_0 l0_0 A0_1 c0_1 l0_1 true _ (kC HR0.out HB.out) HC0.out (kC HR1.out HB.out) HC1.out H1.out).mono ?_
     rintro e wc ⟨rfl,hb⟩
     replace HB := (bmv HB hb)
     replace BKgc := (kmv hb BKgc)
     replace BKg1 := (kmv hb BKg1)
     replace BKg2 := (kmv hb BKg2)
     replace BKg3 := (kmv hb BKg3)
     clear hb
     refine ⟨_,rfl,?_⟩
     refine hK.out _ _ ⟨(blk_cell BKgc.out 0).trans rfl,(blk_cell BKgc.out 1).trans rfl,(blk_cell BKg1.out 0).trans rfl,(blk_cell BKg2.out 0).trans rfl,(blk_cell BKg3.out 0).trans rfl,(HB.out.cell (wbl HY.out)).trans HY.out⟩ (fun hHeld => ?_)
     clear hK K
     refine norm_ (a' := ?_) ?_ ?_
     rotate_left
     · show Act.put _ (some 16) _ = _
       simp only [Act.put,NRM]
       rfl
     refine pure_ (i := 2) (N := some 17) (v := ?_) (a' := ?_) (ba 30 7) rfl rfl (by kernel_rfl) (fun _ _ _ h => h) (Or.inl ⟨by rfl,?_⟩) ?_ ?_
     rotate_left
     · intro w'
       go_simp
       with_reducible rfl
     rotate_left
     · simp only [Act.put,NRM]
       rfl
     refine pure_ (i := 3) (N := some 18) (v := ?_) (a' := ?_) (ba 30 15) rfl rfl (by kernel_rfl) (fun _ _ _ h => h) (Or.inl ⟨by rfl,?_⟩) ?_ ?_
     rotate_left
     · intro w'
       go_simp
       with_reducible rfl
     rotate_left
     · simp only [Act.put,NRM]
       rfl
     refine pure_ (i := 5) (N := some 20) (v := ?_) (a' := ?_) (ba 30 47) rfl rfl (by kernel_rfl) (fun _ _ _ h => h) (Or.inl ⟨by rfl,?_⟩) ?_ ?_
     rotate_left
     · intro w'
       go_simp
       with_reducible rfl
     rotate_left
     · simp only [Act.put,NRM]
       rfl
     refine take_ (i := 4) (N := some 19) (v := ?_) (a' := ?_) (ba 30 63) rfl rfl (by kernel_rfl) (fun _ _ _ h => h) (Or.inl ⟨by rfl,?_⟩) hHeld ?_ ?_
     rotate_left
     · rintro w' ⟨s0,s1,s2,s3,s4,s5⟩
       go_simp
       with_reducible rfl
     rotate_left
     · simp only [Act.put,NRM]
       rfl
     refine take_ (i := 6) (N := some 21) (v := ?_) (a' := ?_) (ba 30 127) rfl rfl (by kernel_rfl) (fun _ _ _ h => h) (Or.inl ⟨by rfl,?_⟩) hHeld ?_ ?_
     rotate_left
     · rintro w' ⟨s0,s1,s2,s3,s4,s5⟩
       go_simp
       with_reducible rfl
     rotate_left
     · simp only [Act.put,NRM]
       rfl
     refine pure_ (i := 7) (N := some 22) (v := ?_) (a' := ?_) (ba 30 255) rfl rfl (by kernel_rfl) (fun _ _ _ h => h) (Or.inl ⟨by rfl,?_⟩) ?_ ?_
     rotate_left
     · intro w'
       go_simp
       with_reducible rfl
     rotate_left
     · simp only [Act.put,NRM]
       rfl
     refine pure_ (i := 8) (N := some 23) (v := ?_) (a' := ?_) (ba 30 511) rfl rfl (by kernel_rfl) (fun _ _ _ h => h) (Or.inl ⟨by rfl,?_⟩) ?_ ?_
     rotate_left
     · intro w'
       go_simp
       with_reducible rfl
     rotate_left
     · simp only [Act.put,NRM]
       rfl
     refine one_ (i := 9) (N := some 24) (ba 30 1023) rfl rfl (by kernel_rfl) (by decide) (fun K hK => ?_)
     refine goes_ Tryz.func79 (by kernel_rfl) rfl #[.int .i64 a1,.int .i64 0,.int .i64 (wrap64 ((l0_0.length : Int) - 1))] (by rfl) rfl rfl (by (try simp only [List.map_toArray,List.map_cons,List.map_nil]);first | done | rfl) ?_
     refine (ca_in.calls a1 0 (wrap64 ((l0_0.length : Int) - 1)) true _ H2.out).mono ?_
     rintro e wi ⟨rfl,hd⟩
     have hb := hd.below
     clear hd
     replace HB := (bmv HB hb)
     replace BKgc := (kmv hb BKgc)
     replace BKg1 := (kmv hb BKg1)
     replace BKg2 := (kmv hb BKg2)
     replace BKg3 := (kmv hb BKg3)
     clear hb
     refine ⟨_,rfl,?_⟩
     refine hK.out _ _ ⟨(blk_cell BKgc.out 0).trans rfl,(blk_cell BKgc.out 1).trans rfl,(blk_cell BKg1.out 0).trans rfl,(blk_cell BKg2.out 0).trans rfl,(blk_cell BKg3.out 0).trans rfl,(HB.out.cell (wbl HY.out)).trans HY.out⟩ (fun hHeld => ?_)
     clear hK K
     refine norm_ (a' := ?_) ?_ ?_
     rotate_left
     · show Act.put _ (some 24) _ = _
       simp only [Act.put,NRM]
       rfl
     refine pure_ (i := 10) (N := some 25) (v := ?_) (a' := ?_) (ba 30 2047) rfl rfl (by kernel_rfl) (fun _ _ _ h => h) (Or.inl ⟨by rfl,?_⟩) ?_ ?_
     rotate_left
     · intro w'
       go_simp
       with_reducible rfl
     rotate_left
     · simp only [Act.put,NRM]
       rfl
     refine pure_ (i := 11) (N := some 26) (v := ?_) (a' := ?_) (ba 30 4095) rfl rfl (by kernel_rfl) (fun _ _ _ h => h) (Or.inl ⟨by rfl,?_⟩) ?_ ?_
     rotate_left
     · intro w'
       go_simp
       with_reducible rfl
     rotate_left
     · simp only [Act.put,NRM]
       rfl
     refine pure_ (i := 12) (N := some 27) (v := ?_) (a' := ?_) (ba 30 8191) rfl rfl (by kernel_rfl) (fun _ _ _ h => h) (Or.inl ⟨by rfl,?_⟩) ?_ ?_
     rotate_left
     · intro w'
       go_simp
       with_reducible rfl
     rotate_left
     · simp only [Act.put,NRM]
       rfl
     refine pure_ (i := 14) (N := some 29) (v := ?_) (a' := ?_) (ba 30 24575) rfl rfl (by kernel_rfl) (fun _ _ _ h => h) (Or.inl ⟨by rfl,?_⟩) ?_ ?_
     rotate_left
     · intro w'
       go_simp
       with_reducible rfl
     rotate_left
     · simp only [Act.put,NRM]
       rfl
     refine take_ (i := 13) (N := some 28) (v := ?_) (a' := ?_) (ba 30 32767) rfl rfl (by kernel_rfl) (fun _ _ _ h => h) (Or.inl ⟨by rfl,?_⟩) hHeld ?_ ?_
     rotate_left
     · rintro w' ⟨s0,s1,s2,s3,s4,s5⟩
       go_simp
       with_reducible rfl
     rotate_left
     · simp only [Act.put,NRM]
       rfl
     refine take_ (i := 15) (N := some 30) (v := ?_) (a' := ?_) (ba 30 65535) rfl rfl (by kernel_rfl) (fun _ _ _ h => h) (Or.inl ⟨by rfl,?_⟩) hHeld ?_ ?_
     rotate_left
     · rintro w' ⟨s0,s1,s2,s3,s4,s5⟩
       go_simp
       with_reducible rfl
     rotate_left
     · simp only [Act.put,NRM]
       rfl
     refine take_ (i := 16) (N := some 31) (v := ?_) (a' := ?_) (ba 30 131071) rfl rfl (by kernel_rfl) (fun _ _ _ h => h) (Or.inl ⟨by rfl,?_⟩) hHeld ?_ ?_
     rotate_left
     · rintro w' ⟨s0,s1,s2,s3,s4,s5⟩
       go_simp
       with_reducible rfl
     rotate_left
     · simp only [Act.put,NRM]
       rfl
     refine pure_ (i := 17) (N := some 32) (v := ?_) (a' := ?_) (ba 30 262143) rfl rfl (by kernel_rfl) (fun _ _ _ h => h) (Or.inl ⟨by rfl,?_⟩) ?_ ?_
     rotate_left
     · intro w'
       go_simp
       with_reducible rfl
     rotate_left
     · simp only [Act.put,NRM]
       rfl
     refine pure_ (i := 18) (N := some 33) (v := ?_) (a' := ?_) (ba 30 524287) rfl rfl (by kernel_rfl) (fun _ _ _ h => h) (Or.inl ⟨by rfl,?_⟩) ?_ ?_
     rotate_left
     · intro w'
       go_simp
       with_reducible rfl
     rotate_left
     · simp only [Act.put,NRM]
       rfl
     refine take_ (i := 19) (N := some 34) (v := ?_) (a' := ?_) (ba 30 1048575) rfl rfl (by kernel_rfl) (fun _ _ _ h => h) (Or.inl ⟨by rfl,?_⟩) hHeld ?_ ?_
     rotate_left
     · rintro w' ⟨s0,s1,s2,s3,s4,s5⟩
       go_simp
       with_reducible rfl
     rotate_left
     · simp only [Act.put,NRM]
       rfl
     refine pure_ (i := 20) (N := some 35) (v := ?_) (a' := ?_) (ba 30 2097151) rfl rfl (by kernel_rfl) (fun _ _ _ h => h) (Or.inl ⟨by rfl,?_⟩) ?_ ?_
     rotate_left
     · intro w'
       go_simp
       with_reducible rfl
     rotate_left
     · simp only [Act.put,NRM]
       rfl
     refine pure_ (i := 21) (N := some 36) (v := ?_) (a' := ?_) (ba 30 4194303) rfl rfl (by kernel_rfl) (fun _ _ _ h => h) (Or.inl ⟨by rfl,?_⟩) ?_ ?_
     rotate_left
     · intro w'
       go_simp
       with_reducible rfl
     rotate_left
     · simp only [Act.put,NRM]
       rfl
     refine one_ (i := 22) (N := some 37) (ba 30 8388607) rfl rfl (by kernel_rfl) (by decide) (fun K hK => ?_)
     refine goes_ Tryz.func79 (by kernel_rfl) rfl #[.int .i64 a2,.int .i64 0,.int .i64 (wrap64 (((rd_T27 l0_0 a1).f1.length : Int) - 1))] (by rfl) rfl rfl (by (try simp only [List.map_toArray,List.map_cons,List.map_nil]);first | done | rfl) ?_
     refine (ca_in.calls a2 0 (wrap64 (((rd_T27 l0_0 a1).f1.length : Int) - 1)) true _ H3.out).mono ?_
     rintro e wj ⟨rfl,hd⟩
     have hb := hd.below
     clear hd
     replace HB := (bmv HB hb)
     replace BKgc := (kmv hb BKgc)
     replace BKg1 := (kmv hb BKg1)
     replace BKg2 := (kmv hb BKg2)
     replace BKg3 := (kmv hb BKg3)
     clear hb
     refine ⟨_,rfl,?_⟩
     refine hK.out _ _ ⟨(blk_cell BKgc.out 0).trans rfl,(blk_cell BKgc.out 1).trans rfl,(blk_cell BKg1.out 0).trans rfl,(blk_cell BKg2.out 0).trans rfl,(blk_cell BKg3.out 0).trans rfl,(HB.out.cell (wbl HY.out)).trans HY.out⟩ (fun hHeld => ?_)
     clear hK K
     refine norm_ (a' := ?_) ?_ ?_
     rotate_left
     · show Act.put _ (some 37) _ = _
       simp only [Act.put,NRM]
       rfl
     refine pure_ (i := 23) (N := some 38) (v := ?_) (a' := ?_) (ba 30 16777215) rfl rfl (by kernel_rfl) (fun _ _ _ h => h) (Or.inl ⟨by rfl,?_⟩) ?_ ?_
     rotate_left
     · intro w'
       go_simp
       with_reducible rfl
     rotate_left
     · simp only [Act.put,NRM]
       rfl
     refine pure_ (i := 24) (N := some 39) (v := ?_) (a' := ?_) (ba 30 33554431) rfl rfl (by kernel_rfl) (fun _ _ _ h => h) (Or.inl ⟨by rfl,?_⟩) ?_ ?_
     rotate_left
     · intro w'
       go_simp
       with_reducible rfl
     rotate_left
     · simp only [Act.put,NRM]
       rfl
     refine pure_ (i := 25) (N := some 40) (v := ?_) (a' := ?_) (ba 30 67108863) rfl rfl (by kernel_rfl) (fun _ _ _ h => h) (Or.inl ⟨by rfl,?_⟩) ?_ ?_
     rotate_left
     · intro w'
       go_simp
       with_reducible rfl
     rotate_left
     · simp only [Act.put,NRM]
       rfl
     refine take_ (i := 26) (N := some 41) (v := ?_) (a' := ?_) (ba 30 134217727) rfl rfl (by kernel_rfl) (fun _ _ _ h => h) (Or.inl ⟨by rfl,?_⟩) hHeld ?_ ?_
     rotate_left
     · rintro w' ⟨s0,s1,s2,s3,s4,s5⟩
       go_simp
       with_reducible rfl
     rotate_left
     · simp only [Act.put,NRM]
       rfl
     refine one_ (i := 27) (N := some 42) (ba 30 268435455) rfl rfl (by kernel_rfl) (by decide) (fun K hK => ?_)
     refine goes_ Tryz.func67 (by kernel_rfl) rfl #[.int .i64 a3] (by rfl) rfl rfl (by (try simp only [List.map_toArray,List.map_cons,List.map_nil]);first | done | rfl) ?_
     refine (ca_isFlow.calls a3 false _ H4.out).mono ?_
     rintro e wk ⟨rfl,hd⟩
     have hb := hd.below
     clear hd
     replace HB := (bmv HB hb)
     replace BKgc := (kmv hb BKgc)
     replace BKg1 := (kmv hb BKg1)
     replace BKg2 := (kmv hb BKg2)
     replace BKg3 := (kmv hb BKg3)
     clear hb
     refine ⟨_,rfl,?_⟩
     refine hK.out _ _ ⟨(blk_cell BKgc.out 0).trans rfl,(blk_cell BKgc.out 1).trans rfl,(blk_cell BKg1.out 0).trans rfl,(blk_cell BKg2.out 0).trans rfl,(blk_cell BKg3.out 0).trans rfl,(HB.out.cell (wbl HY.out)).trans HY.out⟩ (fun hHeld => ?_)
     clear hK K
     refine norm_ (a' := ?_) ?_ ?_
     rotate_left
     · show Act.put _ (some 42) _ = _
       simp only [Act.put,NRM]
       rfl
     refine pure_ (i := 28) (N := some 43) (v := ?_) (a' := ?_) (ba 30 536870911) rfl rfl (by kernel_rfl) (fun _ _ _ h => h) (Or.inl ⟨by rfl,?_⟩) ?_ ?_
     rotate_left
     · intro w'
       go_simp
       with_reducible rfl
     rotate_left
     · simp only [Act.put,NRM]
       rfl
     refine pure_ (i := 29) (N := some 44) (v := ?_) (a' := ?_) (ba 30 1073741823) rfl rfl (by kernel_rfl) (fun _ _ _ h => h) (Or.inl ⟨by rfl,?_⟩) ?_ ?_
     rotate_left
     · intro w'
       go_simp
       with_reducible rfl
     rotate_left
     · simp only [Act.put,NRM]
       rfl
     refine done_ (by kernel_rfl) ?_
     go_wp2
     go_ret2
     exact ⟨rfl,HB.out⟩
    | true =>
     rw [if_pos rfl] at h
     obtain ⟨fs,hf,h⟩ := obm h
     have H5 := am hf
     clear hf
     obtain ⟨z,hz,h⟩ := obm h
     have H6 := am hz
     clear hz
     cases z with
     | false =>
      rw [if_neg (by decide)] at h
      simp only [Option.some.injEq,Prod.mk.injEq] at h
      obtain ⟨rfl,rfl⟩ := h
      go_enter Tryz.func35,Tryz.ntmps35
      go_wp2_with (first | ((refine gate_dst (N := 4) rfl ?_);(try (refine gate_guard (by rfl) ?_;dsimp only));refine box_event rfl (N := 4) rfl (cs := #[.slice (some adb) l0_0.length c0_0,.slice A0_1 l0_1.length c0_1]) (t := 59) ?hr ?_;(case hr => go_simp;try rfl);intro gc hg w1 hbox hb;replace HB := (bmv HB hb);clear hg;have BKgc := am hbox;clear hbox;(try clear hczgc_0 hfzgc_0);have hczgc_0 := cO1 BKgc.out;(try clear hczgc_1 hfzgc_1);have hczgc_1 : w1.cell? ⟨gc,1,none⟩ = some (.slice A0_1 l0_1.length c0_1) := (blk_cell BKgc.out 1).trans rfl;clear hb) | ((refine gate_dst (N := 5) rfl ?_);(try (refine gate_guard (by rfl) ?_;dsimp only));refine box_event rfl (N := 5) rfl (cs := #[.int .i64 a1]) (t := 3) ?hr ?_;(case hr => go_simp;try rfl);intro g1 hg w2 hbox hb;replace HB := (bmv HB hb);replace BKgc := (kmv hb BKgc);clear hg;have BKg1 := am hbox;clear hbox;(try clear hczgc_0 hfzgc_0);have hczgc_0 := cO1 BKgc.out;(try clear hczgc_1 hfzgc_1);have hczgc_1 : w2.cell? ⟨gc,1,none⟩ = some (.slice A0_1 l0_1.length c0_1) := (blk_cell BKgc.out 1).trans rfl;(try clear hczg1_0 hfzg1_0);have hczg1_0 := cO1 BKg1.out;clear hb) | ((refine gate_dst (N := 6) rfl ?_);(try (refine gate_guard (by rfl) ?_;dsimp only));refine box_event rfl (N := 6) rfl (cs := #[.int .i64 a2]) (t := 3) ?hr ?_;(case hr => go_simp;try rfl);intro g2 hg w3 hbox hb;replace HB := (bmv HB hb);replace BKgc := (kmv hb BKgc);replace BKg1 := (kmv hb BKg1);clear hg;have BKg2 := am hbox;clear hbox;(try clear hczgc_0 hfzgc_0);have hczgc_0 := cO1 BKgc.out;(try clear hczgc_1 hfzgc_1);have hczgc_1 : w3.cell? ⟨gc,1,none⟩ = some (.slice A0_1 l0_1.length c0_1) := (blk_cell BKgc.out 1).trans rfl;(try clear hczg1_0 hfzg1_0);have hczg1_0 := cO1 BKg1.out;(try clear hczg2_0 hfzg2_0);have hczg2_0 := cO1 BKg2.out;clear hb) | ((refine gate_dst (N := 7) rfl ?_);(try (refine gate_guard (by rfl) ?_;dsimp only));refine box_event rfl (N := 7) rfl (cs := #[.int .i64 a3]) (t := 3) ?hr ?_;(case hr => go_simp;try rfl);intro g3 hg w4 hbox hb;replace HB := (bmv HB hb);replace BKgc := (kmv hb BKgc);replace BKg1 := (kmv hb BKg1);replace BKg2 := (kmv hb BKg2);clear hg;have BKg3 := am hbox;clear hbox;(try clear hczgc_0 hfzgc_0);have hczgc_0 := cO1 BKgc.out;(try clear hczgc_1 hfzgc_1);have hczgc_1 : w4.cell? ⟨gc,1,none⟩ = some (.slice A0_1 l0_1.length c0_1) := (blk_cell BKgc.out 1).trans rfl;(try clear hczg1_0 hfzg1_0);have hczg1_0 := cO1 BKg1.out;(try clear hczg2_0 hfzg2_0);have hczg2_0 := cO1 BKg2.out;(try clear hczg3_0 hfzg3_0);have hczg3_0 := cO1 BKg3.out;clear hb))
      refine start_ (n := 30) (S := fun W => W.cell? ⟨gc,0,none⟩ = some (.slice (some adb) l0_0.length c0_0) ∧ W.cell? ⟨gc,1,none⟩ = some (.slice A0_1 l0_1.length c0_1) ∧ W.cell? ⟨g1,0,none⟩ = some (.int .i64 a1) ∧ W.cell? ⟨g2,0,none⟩ = some (.int .i64 a2) ∧ W.cell? ⟨g3,0,none⟩ = some (.int .i64 a3) ∧ W.cell? ⟨(adb.add (a1.toNat * 5)).block,(adb.add (a1.toNat * 5)).off + 2,none⟩ = some (.slice A2 (rd_T27 l0_0 a1).f1.length c2)) (ds := []) (ba 30 0) (by kernel_rfl) rfl rfl ⟨(blk_cell (blk_drew BKgc.out) 0).trans rfl,(blk_cell (blk_drew BKgc.out) 1).trans rfl,(blk_cell (blk_drew BKg1.out) 0).trans rfl,(blk_cell (blk_drew BKg2.out) 0).trans rfl,(blk_cell (blk_drew BKg3.out) 0).trans rfl,((below_drew1 HB.out).cell (wbl HY.out)).trans HY.out⟩ (fun hHeld => ?_)
      replace BKgc := am (blk_drew BKgc.out)
      replace BKg1 := am (blk_drew BKg1.out)
      replace BKg2 := am (blk_drew BKg2.out)
      replace BKg3 := am (blk_drew BKg3.out)
      replace HB := am (below_drew1 HB.out)
      (try clear hczgc_0 hczgc_1 hczg1_0 hczg2_0 hczg3_0)
      (try clear hfzgc_0 hfzgc_1 hfzg1_0 hfzg2_0 hfzg3_0)
      generalize w4.drew = wd at BKgc BKg1 BKg2 BKg3 HB hHeld ⊢
      refine take_ (i := 0) (N := some 15) (v := ?_) (a' := ?_) (ba 30 1) rfl rfl (by kernel_rfl) (fun _ _ _ h => h) (Or.inl ⟨by rfl,?_⟩) hHeld ?_ ?_
      rotate_left
      · rintro w' ⟨s0,s1,s2,s3,s4,s5⟩
        go_simp
        with_reducible rfl
      rotate_left
      · simp only [Act.put,NRM]
        rfl
      refine one_ (i := 1) (N := some 16) (ba 30 3) rfl rfl (by kernel_rfl) (by decide) (fun K hK => ?_)
      refine goes_ Tryz.func80 (by kernel_rfl) rfl #[.agg #[.slice (some adb) l0_0.length c0_0,.slice A0_1 l0_1.length c0_1]] (by rfl) rfl rfl (by (try simp only [List.map_toArray,List.map_cons,List.map_nil]);first | done | rfl) ?_
      refine (ca_isChain.calls (some adb) c0_0 l0_0 A0_1 c0_1 l0_1 true _ (kC HR0.out HB.out) HC0.out (kC HR1.out HB.out) HC1.out H1.out).mono ?_
      rintro e wc ⟨rfl,hb⟩
      replace HB := (bmv HB hb)
      replace BKgc := (kmv hb BKgc)
      replace BKg1 := (kmv hb BKg1)
      replace BKg2 := (kmv hb BKg2)
      replace BKg3 := (kmv hb BKg3)
      clear hb
      refine ⟨_,rfl,?_⟩
      refine hK.out _ _ ⟨(blk_cell BKgc.out 0).trans rfl,(blk_cell BKgc.out 1).trans rfl,(blk_cell BKg1.out 0).trans rfl,(blk_cell BKg2.out 0).trans rfl,(blk_cell BKg3.out 0).trans rfl,(HB.out.cell (wbl HY.out)).trans HY.out⟩ (fun hHeld => ?_)
      clear hK K
      refine norm_ (a' := ?_) ?_ ?_
      rotate_left
      · show Act.put _ (some 16) _ = _
        simp only [Act.put,NRM]
        rfl
      refine pure_ (i := 2) (N := some 17) (v := ?_) (a' := ?_) (ba 30 7) rfl rfl (by kernel_rfl) (fun _ _ _ h => h) (Or.inl ⟨by rfl,?_⟩) ?_ ?_
      rotate_left
      · intro w'
        go_simp
        with_reducible rfl
      rotate_left
      · simp only [Act.put,NRM]
        rfl
      refine pure_ (i := 3) (N := some 18) (v := ?_) (a' := ?_) (ba 30 15) rfl rfl (by kernel_rfl) (fun _ _ _ h => h) (Or.inl ⟨by rfl,?_⟩) ?_ ?_
      rotate_left
      · intro w'
        go_simp
        with_reducible rfl
      rotate_left
      · simp only [Act.put,NRM]
        rfl
      refine pure_ (i := 5) (N := some 20) (v := ?_) (a' := ?_) (ba 30 47) rfl rfl (by kernel_rfl) (fun _ _ _ h => h) (Or.inl ⟨by rfl,?_⟩) ?_ ?_
      rotate_left
      · intro w'
        go_simp
        with_reducible rfl
      rotate_left
      · simp only [Act.put,NRM]
        rfl
      refine take_ (i := 4) (N := some 19) (v := ?_) (a' := ?_) (ba 30 63) rfl rfl (by kernel_rfl) (fun _ _ _ h => h) (Or.inl ⟨by rfl,?_⟩) hHeld ?_ ?_
      rotate_left
      · rintro w' ⟨s0,s1,s2,s3,s4,s5⟩
        go_simp
        with_reducible rfl
      rotate_left
      · simp only [Act.put,NRM]
        rfl
      refine take_ (i := 6) (N := some 21) (v := ?_) (a' := ?_) (ba 30 127) rfl rfl (by kernel_rfl) (fun _ _ _ h => h) (Or.inl ⟨by rfl,?_⟩) hHeld ?_ ?_
      rotate_left
      · rintro w' ⟨s0,s1,s2,s3,s4,s5⟩
        go_simp
        with_reducible rfl
      rotate_left
      · simp only [Act.put,NRM]
        rfl
      refine pure_ (i := 7) (N := some 22) (v := ?_) (a' := ?_) (ba 30 255) rfl rfl (by kernel_rfl) (fun _ _ _ h => h) (Or.inl ⟨by rfl,?_⟩) ?_ ?_
      rotate_left
      · intro w'
        go_simp
        with_reducible rfl
      rotate_left
      · simp only [Act.put,NRM]
        rfl
      refine pure_ (i := 8) (N := some 23) (v := ?_) (a' := ?_) (ba 30 511) rfl rfl (by kernel_rfl) (fun _ _ _ h => h) (Or.inl ⟨by rfl,?_⟩) ?_ ?_
      rotate_left
      · intro w'
        go_simp
        with_reducible rfl
      rotate_left
      · simp only [Act.put,NRM]
        rfl
      refine one_ (i := 9) (N := some 24) (ba 30 1023) rfl rfl (by kernel_rfl) (by decide) (fun K hK => ?_)
      refine goes_ Tryz.func79 (by kernel_rfl) rfl #[.int .i64 a1,.int .i64 0,.int .i64 (wrap64 ((l0_0.length : Int) - 1))] (by rfl) rfl rfl (by (try simp only [List.map_toArray,List.map_cons,List.map_nil]);first | done | rfl) ?_
      refine (ca_in.calls a1 0 (wrap64 ((l0_0.length : Int) - 1)) true _ H2.out).mono ?_
      rintro e wi ⟨rfl,hd⟩
      have hb := hd.below
      clear hd
      replace HB := (bmv HB hb)
      replace BKgc := (kmv hb BKgc)
      replace BKg1 := (kmv hb BKg1)
      replace BKg2 := (kmv hb BKg2)
      replace BKg3 := (kmv hb BKg3)
      clear hb
      refine ⟨_,rfl,?_⟩
      refine hK.out _ _ ⟨(blk_cell BKgc.out 0).trans rfl,(blk_cell BKgc.out 1).trans rfl,(blk_cell BKg1.out 0).trans rfl,(blk_cell BKg2.out 0).trans rfl,(blk_cell BKg3.out 0).trans rfl,(HB.out.cell (wbl HY.out)).trans HY.out⟩ (fun hHeld => ?_)
      clear hK K
      refine norm_ (a' := ?_) ?_ ?_
      rotate_left
      · show Act.put _ (some 24) _ = _
        simp only [Act.put,NRM]
        rfl
      refine pure_ (i := 10) (N := some 25) (v := ?_) (a' := ?_) (ba 30 2047) rfl rfl (by kernel_rfl) (fun _ _ _ h => h) (Or.inl ⟨by rfl,?_⟩) ?_ ?_
      rotate_left
      · intro w'
        go_simp
        with_reducible rfl
      rotate_left
      · simp only [Act.put,NRM]
        rfl
      refine pure_ (i := 11) (N := some 26) (v := ?_) (a' := ?_) (ba 30 4095) rfl rfl (by kernel_rfl) (fun _ _ _ h => h) (Or.inl ⟨by rfl,?_⟩) ?_ ?_
      rotate_left
      · intro w'
        go_simp
        with_reducible rfl
      rotate_left
      · simp only [Act.put,NRM]
        rfl
      refine pure_ (i := 12) (N := some 27) (v := ?_) (a' := ?_) (ba 30 8191) rfl rfl (by kernel_rfl) (fun _ _ _ h => h) (Or.inl ⟨by rfl,?_⟩) ?_ ?_
      rotate_left
      · intro w'
        go_simp
        with_reducible rfl
      rotate_left
      · simp only [Act.put,NRM]
        rfl
      refine pure_ (i := 14) (N := some 29) (v := ?_) (a' := ?_) (ba 30 24575) rfl rfl (by kernel_rfl) (fun _ _ _ h => h) (Or.inl ⟨by rfl,?_⟩) ?_ ?_
      rotate_left
      · intro w'
        go_simp
        with_reducible rfl
      rotate_left
      · simp only [Act.put,NRM]
        rfl
      refine take_ (i := 13) (N := some 28) (v := ?_) (a' := ?_) (ba 30 32767) rfl rfl (by kernel_rfl) (fun _ _ _ h => h) (Or.inl ⟨by rfl,?_⟩) hHeld ?_ ?_
      rotate_left
      · rintro w' ⟨s0,s1,s2,s3,s4,s5⟩
        go_simp
        with_reducible rfl
      rotate_left
      · simp only [Act.put,NRM]
        rfl
      refine take_ (i := 15) (N := some 30) (v := ?_) (a' := ?_) (ba 30 65535) rfl rfl (by kernel_rfl) (fun _ _ _ h => h) (Or.inl ⟨by rfl,?_⟩) hHeld ?_ ?_
      rotate_left
      · rintro w' ⟨s0,s1,s2,s3,s4,s5⟩
        go_simp
        with_reducible rfl
      rotate_left
      · simp only [Act.put,NRM]
        rfl
      refine take_ (i := 16) (N := some 31) (v := ?_) (a' := ?_) (ba 30 131071) rfl rfl (by kernel_rfl) (fun _ _ _ h => h) (Or.inl ⟨by rfl,?_⟩) hHeld ?_ ?_
      rotate_left
      · rintro w' ⟨s0,s1,s2,s3,s4,s5⟩
        go_simp
        with_reducible rfl
      rotate_left
      · simp only [Act.put,NRM]
        rfl
      refine pure_ (i := 17) (N := some 32) (v := ?_) (a' := ?_) (ba 30 262143) rfl rfl (by kernel_rfl) (fun _ _ _ h => h) (Or.inl ⟨by rfl,?_⟩) ?_ ?_
      rotate_left
      · intro w'
        go_simp
        with_reducible rfl
      rotate_left
      · simp only [Act.put,NRM]
        rfl
      refine pure_ (i := 18) (N := some 33) (v := ?_) (a' := ?_) (ba 30 524287) rfl rfl (by kernel_rfl) (fun _ _ _ h => h) (Or.inl ⟨by rfl,?_⟩) ?_ ?_
      rotate_left
      · intro w'
        go_simp
        with_reducible rfl
      rotate_left
      · simp only [Act.put,NRM]
        rfl
      refine take_ (i := 19) (N := some 34) (v := ?_) (a' := ?_) (ba 30 1048575) rfl rfl (by kernel_rfl) (fun _ _ _ h => h) (Or.inl ⟨by rfl,?_⟩) hHeld ?_ ?_
      rotate_left
      · rintro w' ⟨s0,s1,s2,s3,s4,s5⟩
        go_simp
        with_reducible rfl
      rotate_left
      · simp only [Act.put,NRM]
        rfl
      refine pure_ (i := 20) (N := some 35) (v := ?_) (a' := ?_) (ba 30 2097151) rfl rfl (by kernel_rfl) (fun _ _ _ h => h) (Or.inl ⟨by rfl,?_⟩) ?_ ?_
      rotate_left
      · intro w'
        go_simp
        with_reducible rfl
      rotate_left
      · simp only [Act.put,NRM]
        rfl
      refine pure_ (i := 21) (N := some 36) (v := ?_) (a' := ?_) (ba 30 4194303) rfl rfl (by kernel_rfl) (fun _ _ _ h => h) (Or.inl ⟨by rfl,?_⟩) ?_ ?_
      rotate_left
      · intro w'
        go_simp
        with_reducible rfl
      rotate_left
      · simp only [Act.put,NRM]
        rfl
      refine one_ (i := 22) (N := some 37) (ba 30 8388607) rfl rfl (by kernel_rfl) (by decide) (fun K hK => ?_)
      refine goes_ Tryz.func79 (by kernel_rfl) rfl #[.int .i64 a2,.int .i64 0,.int .i64 (wrap64 (((rd_T27 l0_0 a1).f1.length : Int) - 1))] (by rfl) rfl rfl (by (try simp only [List.map_toArray,List.map_cons,List.map_nil]);first | done | rfl) ?_
      refine (ca_in.calls a2 0 (wrap64 (((rd_T27 l0_0 a1).f1.length : Int) - 1)) true _ H3.out).mono ?_
      rintro e wj ⟨rfl,hd⟩
      have hb := hd.below
      clear hd
      replace HB := (bmv HB hb)
      replace BKgc := (kmv hb BKgc)
      replace BKg1 := (kmv hb BKg1)
      replace BKg2 := (kmv hb BKg2)
      replace BKg3 := (kmv hb BKg3)
      clear hb
      refine ⟨_,rfl,?_⟩
      refine hK.out _ _ ⟨(blk_cell BKgc.out 0).trans rfl,(blk_cell BKgc.out 1).trans rfl,(blk_cell BKg1.out 0).trans rfl,(blk_cell BKg2.out 0).trans rfl,(blk_cell BKg3.out 0).trans rfl,(HB.out.cell (wbl HY.out)).trans HY.out⟩ (fun hHeld => ?_)
      clear hK K
      refine norm_ (a' := ?_) ?_ ?_
      rotate_left
      · show Act.put _ (some 37) _ = _
        simp only [Act.put,NRM]
        rfl
      refine pure_ (i := 23) (N := some 38) (v := ?_) (a' := ?_) (ba 30 16777215) rfl rfl (by kernel_rfl) (fun _ _ _ h => h) (Or.inl ⟨by rfl,?_⟩) ?_ ?_
      rotate_left
      · intro w'
        go_simp
        with_reducible rfl
      rotate_left
      · simp only [Act.put,NRM]
        rfl
      refine pure_ (i := 24) (N := some 39) (v := ?_) (a' := ?_) (ba 30 33554431) rfl rfl (by kernel_rfl) (fun _ _ _ h => h) (Or.inl ⟨by rfl,?_⟩) ?_ ?_
      rotate_left
      · intro w'
        go_simp
        with_reducible rfl
      rotate_left
      · simp only [Act.put,NRM]
        rfl
      refine pure_ (i := 25) (N := some 40) (v := ?_) (a' := ?_) (ba 30 67108863) rfl rfl (by kernel_rfl) (fun _ _ _ h => h) (Or.inl ⟨by rfl,?_⟩) ?_ ?_
      rotate_left
      · intro w'
        go_simp
        with_reducible rfl
      rotate_left
      · simp only [Act.put,NRM]
        rfl
      refine take_ (i := 26) (N := some 41) (v := ?_) (a' := ?_) (ba 30 134217727) rfl rfl (by kernel_rfl) (fun _ _ _ h => h) (Or.inl ⟨by rfl,?_⟩) hHeld ?_ ?_
      rotate_left
      · rintro w' ⟨s0,s1,s2,s3,s4,s5⟩
        go_simp
        with_reducible rfl
      rotate_left
      · simp only [Act.put,NRM]
        rfl
      refine one_ (i := 27) (N := some 42) (ba 30 268435455) rfl rfl (by kernel_rfl) (by decide) (fun K hK => ?_)
      refine goes_ Tryz.func67 (by kernel_rfl) rfl #[.int .i64 a3] (by rfl) rfl rfl (by (try simp only [List.map_toArray,List.map_cons,List.map_nil]);first | done | rfl) ?_
      refine (ca_isFlow.calls a3 true _ H4.out).mono ?_
      rintro e wk ⟨rfl,hd⟩
      have hb := hd.below
      clear hd
      replace HB := (bmv HB hb)
      replace BKgc := (kmv hb BKgc)
      replace BKg1 := (kmv hb BKg1)
      replace BKg2 := (kmv hb BKg2)
      replace BKg3 := (kmv hb BKg3)
      clear hb
      refine ⟨_,rfl,?_⟩
      refine hK.out _ _ ⟨(blk_cell BKgc.out 0).trans rfl,(blk_cell BKgc.out 1).trans rfl,(blk_cell BKg1.out 0).trans rfl,(blk_cell BKg2.out 0).trans rfl,(blk_cell BKg3.out 0).trans rfl,(HB.out.cell (wbl HY.out)).trans HY.out⟩ (fun hHeld => ?_)
      clear hK K
      refine norm_ (a' := ?_) ?_ ?_
      rotate_left
      · show Act.put _ (some 42) _ = _
        simp only [Act.put,NRM]
        rfl
      refine pure_ (i := 28) (N := some 43) (v := ?_) (a' := ?_) (ba 30 536870911) rfl rfl (by kernel_rfl) (fun _ _ _ h => h) (Or.inl ⟨by rfl,?_⟩) ?_ ?_
      rotate_left
      · intro w'
        go_simp
        with_reducible rfl
      rotate_left
      · simp only [Act.put,NRM]
        rfl
      refine pure_ (i := 29) (N := some 44) (v := ?_) (a' := ?_) (ba 30 1073741823) rfl rfl (by kernel_rfl) (fun _ _ _ h => h) (Or.inl ⟨by rfl,?_⟩) ?_ ?_
      rotate_left
      · intro w'
        go_simp
        with_reducible rfl
      rotate_left
      · simp only [Act.put,NRM]
        rfl
      refine done_ (by kernel_rfl) ?_
      (try clear hczgc_0 hfzgc_0);have hczgc_0 : wk.cell? ⟨gc,0,none⟩ = some (.slice (some adb) l0_0.length c0_0) := (blk_cell BKgc.out 0).trans rfl;have hfzgc_0 := blk_frozen BKgc.out 0
      (try clear hczgc_1 hfzgc_1);have hczgc_1 : wk.cell? ⟨gc,1,none⟩ = some (.slice A0_1 l0_1.length c0_1) := (blk_cell BKgc.out 1).trans rfl;have hfzgc_1 := blk_frozen BKgc.out 1
      (try clear hczg1_0 hfzg1_0);have hczg1_0 : wk.cell? ⟨g1,0,none⟩ = some (.int .i64 a1) := (blk_cell BKg1.out 0).trans rfl;have hfzg1_0 := blk_frozen BKg1.out 0
      (try clear hczg2_0 hfzg2_0);have hczg2_0 : wk.cell? ⟨g2,0,none⟩ = some (.int .i64 a2) := (blk_cell BKg2.out 0).trans rfl;have hfzg2_0 := blk_frozen BKg2.out 0
      (try clear hczg3_0 hfzg3_0);have hczg3_0 : wk.cell? ⟨g3,0,none⟩ = some (.int .i64 a3) := (blk_cell BKg3.out 0).trans rfl;have hfzg3_0 := blk_frozen BKg3.out 0
      go_wp2_with (first | (go_at_call 82;refine (ca_basins.calls (some adb) c0_0 l0_0 A0_1 l0_1.length c0_1 fs _ (kC HR0.out HB.out) HC0.out H5.out).mono ?_;rintro e wb ⟨Af,cf,rfl,hlf,hcf,hb⟩;replace HB := (bmv HB hb);replace BKgc := (kmv hb BKgc);replace BKg1 := (kmv hb BKg1);replace BKg2 := (kmv hb BKg2);replace BKg3 := (kmv hb BKg3);(try clear hczgc_0 hfzgc_0);have hczgc_0 := cO1 BKgc.out;(try clear hczgc_1 hfzgc_1);have hczgc_1 : wb.cell? ⟨gc,1,none⟩ = some (.slice A0_1 l0_1.length c0_1) := (blk_cell BKgc.out 1).trans rfl;(try clear hczg1_0 hfzg1_0);have hczg1_0 := cO1 BKg1.out;(try clear hczg2_0 hfzg2_0);have hczg2_0 := cO1 BKg2.out;(try clear hczg3_0 hfzg3_0);have hczg3_0 := cO1 BKg3.out;have HCF := am hcf;clear hcf;(try clear hy);clear hb) | ((refine gate_dst (N := 10) rfl ?_);(try (refine gate_guard (by rfl) ?_;dsimp only));refine box_event rfl (N := 10) rfl (cs := #[.slice none 0 0]) (t := 122) ?hr ?_;(case hr => go_simp;try rfl);intro ga hg wa hbox hb;have HNgc_ga := am (show gc ≠ ga by have := blk_lt BKgc.out;omega);have HNg1_ga := am (show g1 ≠ ga by have := blk_lt BKg1.out;omega);have HNg2_ga := am (show g2 ≠ ga by have := blk_lt BKg2.out;omega);have HNg3_ga := am (show g3 ≠ ga by have := blk_lt BKg3.out;omega);have GA := am (show w.heap.size ≤ ga by have := HB.out.size;omega);have GC_ := am (show gc ≠ ga by have := blk_lt BKgc.out;omega);have G1_ := am (show g1 ≠ ga by have := blk_lt BKg1.out;omega);have G2_ := am (show g2 ≠ ga by have := blk_lt BKg2.out;omega);have G3_ := am (show g3 ≠ ga by have := blk_lt BKg3.out;omega);have GS_ := am (Nat.le_of_eq hg.symm);have GB_ := am hb;replace HB := (bmv HB hb);replace BKgc := (kmv hb BKgc);replace BKg1 := (kmv hb BKg1);replace BKg2 := (kmv hb BKg2);replace BKg3 := (kmv hb BKg3);have HCF0 := HCF;replace HCF := (cmv HCF hb);clear hg;have BKga := am hbox;clear hbox;(try clear hczgc_0 hfzgc_0);have hczgc_0 := cO1 BKgc.out;(try clear hczgc_1 hfzgc_1);have hczgc_1 : wa.cell? ⟨gc,1,none⟩ = some (.slice A0_1 l0_1.length c0_1) := (blk_cell BKgc.out 1).trans rfl;(try clear hczg1_0 hfzg1_0);have hczg1_0 := cO1 BKg1.out;(try clear hczg2_0 hfzg2_0);have hczg2_0 := cO1 BKg2.out;(try clear hczg3_0 hfzg3_0);have hczg3_0 := cO1 BKg3.out;(try clear hczga_0 hfzga_0);have hczga_0 := cO1 BKga.out;have hfzga_0 := blk_frozen BKga.out 0;clear hb) | ((with_reducible refine gate_store (t := 122) (p := 10) rfl ?_);refine skip_abs2 (fun W' => W'.heap[ga]? = some (.cells #[.slice Af fs.length cf] 122 (0,0)) ∧ W'.heap[gc]? = some (.cells #[.slice (some adb) l0_0.length c0_0,.slice A0_1 l0_1.length c0_1] 59 (0,0)) ∧ W'.heap[g1]? = some (.cells #[.int .i64 a1] 3 (0,0)) ∧ W'.heap[g2]? = some (.cells #[.int .i64 a2] 3 (0,0)) ∧ W'.heap[g3]? = some (.cells #[.int .i64 a3] 3 (0,0)) ∧ Kd.C k110 W' Af fs.length fs ∧ Below w.heap.size w W') ?hg ?hd ?hr ⟨(blk_set BKga.out 0 _).trans rfl,obj_far (p := ⟨ga,0,none⟩) BKgc.out GC_.out _,obj_far (p := ⟨ga,0,none⟩) BKg1.out G1_.out _,obj_far (p := ⟨ga,0,none⟩) BKg2.out G2_.out _,obj_far (p := ⟨ga,0,none⟩) BKg3.out G3_.out _,kC HCF0.out (below_set GB_.out GS_.out),below_set HB.out GA.out⟩ ?_;(case hg => rfl);(case hd => rfl);(case hr => go_simp;try rfl);rintro ws ⟨k1,k2,k3,k4,k5,k6,k7⟩;(try clear hczgc_0 hczgc_1 hczg1_0 hczg2_0 hczg3_0 hczga_0);(try clear hfzgc_0 hfzgc_1 hfzg1_0 hfzg2_0 hfzg3_0 hfzga_0);clear BKga BKgc BKg1 BKg2 BKg3 HCF HCF0 HB GB_ GS_;have BKga := am k1;have BKgc := am k2;have BKg1 := am k3;have BKg2 := am k4;have BKg3 := am k5;have HCF := am k6;have HB := am k7;clear k1 k2 k3 k4 k5 k6 k7) | (go_at_call 83;refine (ca_Least_1.calls k ga gc g1 g2 g3 Af cf fs (some adb) c0_0 l0_0 A0_1 c0_1 l0_1 a1 a2 a3 10000 false _ BKga.out BKgc.out BKg1.out BKg2.out BKg3.out HCF.out (kC HR1.out HB.out) H6.out).mono ?_;rintro e we ⟨rfl,hb⟩;replace HB := (bmv HB hb);replace BKgc := (kmv hb BKgc);replace BKg1 := (kmv hb BKg1);replace BKg2 := (kmv hb BKg2);replace BKg3 := (kmv hb BKg3);replace HCF := (cmv HCF hb);replace BKga := (kmv hb BKga);(try clear hczgc_0 hfzgc_0);have hczgc_0 := cO1 BKgc.out;(try clear hczgc_1 hfzgc_1);have hczgc_1 : we.cell? ⟨gc,1,none⟩ = some (.slice A0_1 l0_1.length c0_1) := (blk_cell BKgc.out 1).trans rfl;(try clear hczg1_0 hfzg1_0);have hczg1_0 := cO1 BKg1.out;(try clear hczg2_0 hfzg2_0);have hczg2_0 := cO1 BKg2.out;(try clear hczg3_0 hfzg3_0);have hczg3_0 := cO1 BKg3.out;(try clear hczga_0 hfzga_0);have hczga_0 := cO1 BKga.out;have hfzga_0 := blk_frozen BKga.out 0;clear hb))
      go_ret2
      exact ⟨rfl,HB.out⟩
     | true =>
      rw [if_pos rfl] at h
      obtain ⟨q,hq,h⟩ := obm h
      simp only [Option.some.injEq,Prod.mk.injEq] at h
      obtain ⟨rfl,rfl⟩ := h
      have HQ := am hq
      clear hq
      go_enter Tryz.func35,Tryz.ntmps35
      go_wp2_with (first | ((refine gate_dst (N := 4) rfl ?_);(try (refine gate_guard (by rfl) ?_;dsimp only));refine box_event rfl (N := 4) rfl (cs := #[.slice (some adb) l0_0.length c0_0,.slice A0_1 l0_1.length c0_1]) (t := 59) ?hr ?_;(case hr => go_simp;try rfl);intro gc hg w1 hbox hb;replace HB := (bmv HB hb);clear hg;have BKgc := am hbox;clear hbox;(try clear hczgc_0 hfzgc_0);have hczgc_0 := cO1 BKgc.out;(try clear hczgc_1 hfzgc_1);have hczgc_1 : w1.cell? ⟨gc,1,none⟩ = some (.slice A0_1 l0_1.length c0_1) := (blk_cell BKgc.out 1).trans rfl;clear hb) | ((refine gate_dst (N := 5) rfl ?_);(try (refine gate_guard (by rfl) ?_;dsimp only));refine box_event rfl (N := 5) rfl (cs := #[.int .i64 a1]) (t := 3) ?hr ?_;(case hr => go_simp;try rfl);intro g1 hg w2 hbox hb;replace HB := (bmv HB hb);replace BKgc := (kmv hb BKgc);clear hg;have BKg1 := am hbox;clear hbox;(try clear hczgc_0 hfzgc_0);have hczgc_0 := cO1 BKgc.out;(try clear hczgc_1 hfzgc_1);have hczgc_1 : w2.cell? ⟨gc,1,none⟩ = some (.slice A0_1 l0_1.length c0_1) := (blk_cell BKgc.out 1).trans rfl;(try clear hczg1_0 hfzg1_0);have hczg1_0 := cO1 BKg1.out;clear hb) | ((refine gate_dst (N := 6) rfl ?_);(try (refine gate_guard (by rfl) ?_;dsimp only));refine box_event rfl (N := 6) rfl (cs := #[.int .i64 a2]) (t := 3) ?hr ?_;(case hr => go_simp;try rfl);intro g2 hg w3 hbox hb;replace HB := (bmv HB hb);replace BKgc := (kmv hb BKgc);replace BKg1 := (kmv hb BKg1);clear hg;have BKg2 := am hbox;clear hbox;(try clear hczgc_0 hfzgc_0);have hczgc_0 := cO1 BKgc.out;(try clear hczgc_1 hfzgc_1);have hczgc_1 : w3.cell? ⟨gc,1,none⟩ = some (.slice A0_1 l0_1.length c0_1) := (blk_cell BKgc.out 1).trans rfl;(try clear hczg1_0 hfzg1_0);have hczg1_0 := cO1 BKg1.out;(try clear hczg2_0 hfzg2_0);have hczg2_0 := cO1 BKg2.out;clear hb) | ((refine gate_dst (N := 7) rfl ?_);(try (refine gate_guard (by rfl) ?_;dsimp only));refine box_event rfl (N := 7) rfl (cs := #[.int .i64 a3]) (t := 3) ?hr ?_;(case hr => go_simp;try rfl);intro g3 hg w4 hbox hb;replace HB := (bmv HB hb);replace BKgc := (kmv hb BKgc);replace BKg1 := (kmv hb BKg1);replace BKg2 := (kmv hb BKg2);clear hg;have BKg3 := am hbox;clear hbox;(try clear hczgc_0 hfzgc_0);have hczgc_0 := cO1 BKgc.out;(try clear hczgc_1 hfzgc_1);have hczgc_1 : w4.cell? ⟨gc,1,none⟩ = some (.slice A0_1 l0_1.length c0_1) := (blk_cell BKgc.out 1).trans rfl;(try clear hczg1_0 hfzg1_0);have hczg1_0 := cO1 BKg1.out;(try clear hczg2_0 hfzg2_0);have hczg2_0 := cO1 BKg2.out;(try clear hczg3_0 hfzg3_0);have hczg3_0 := cO1 BKg3.out;clear hb))
      refine start_ (n := 30) (S := fun W => W.cell? ⟨gc,0,none⟩ = some (.slice (some adb) l0_0.length c0_0) ∧ W.cell? ⟨gc,1,none⟩ = some (.slice A0_1 l0_1.length c0_1) ∧ W.cell? ⟨g1,0,none⟩ = some (.int .i64 a1) ∧ W.cell? ⟨g2,0,none⟩ = some (.int .i64 a2) ∧ W.cell? ⟨g3,0,none⟩ = some (.int .i64 a3) ∧ W.cell? ⟨(adb.add (a1.toNat * 5)).block,(adb.add (a1.toNat * 5)).off + 2,none⟩ = some (.slice A2 (rd_T27 l0_0 a1).f1.length c2)) (ds := []) (ba 30 0) (by kernel_rfl) rfl rfl ⟨(blk_cell (blk_drew BKgc.out) 0).trans rfl,(blk_cell (blk_drew BKgc.out) 1).trans rfl,(blk_cell (blk_drew BKg1.out) 0).trans rfl,(blk_cell (blk_drew BKg2.out) 0).trans rfl,(blk_cell (blk_drew BKg3.out) 0).trans rfl,((below_drew1 HB.out).cell (wbl HY.out)).trans HY.out⟩ (fun hHeld => ?_)
      replace BKgc := am (blk_drew BKgc.out)
      replace BKg1 := am (blk_drew BKg1.out)
      replace BKg2 := am (blk_drew BKg2.out)
      replace BKg3 := am (blk_drew BKg3.out)
      replace HB := am (below_drew1 HB.out)
      (try clear hczgc_0 hczgc_1 hczg1_0 hczg2_0 hczg3_0)
      (try clear hfzgc_0 hfzgc_1 hfzg1_0 hfzg2_0 hfzg3_0)
      generalize w4.drew = wd at BKgc BKg1 BKg2 BKg3 HB hHeld ⊢
      refine take_ (i := 0) (N := some 15) (v := ?_) (a' := ?_) (ba 30 1) rfl rfl (by kernel_rfl) (fun _ _ _ h => h) (Or.inl ⟨by rfl,?_⟩) hHeld ?_ ?_
      rotate_left
      · rintro w' ⟨s0,s1,s2,s3,s4,s5⟩
        go_simp
        with_reducible rfl
      rotate_left
      · simp only [Act.put,NRM]
        rfl
      refine one_ (i := 1) (N := some 16) (ba 30 3) rfl rfl (by kernel_rfl) (by decide) (fun K hK => ?_)
      refine goes_ Tryz.func80 (by kernel_rfl) rfl #[.agg #[.slice (some adb) l0_0.length c0_0,.slice A0_1 l0_1.length c0_1]] (by rfl) rfl rfl (by (try simp only [List.map_toArray,List.map_cons,List.map_nil]);first | done | rfl) ?_
      refine (ca_isChain.calls (some adb) c0_0 l0_0 A0_1 c0_1 l0_1 true _ (kC HR0.out HB.out) HC0.out (kC HR1.out HB.out) HC1.out H1.out).mono ?_
      rintro e wc ⟨rfl,hb⟩
      replace HB := (bmv HB hb)
      replace BKgc := (kmv hb BKgc)
      replace BKg1 := (kmv hb BKg1)
      replace BKg2 := (kmv hb BKg2)
      replace BKg3 := (kmv hb BKg3)
      clear hb
      refine ⟨_,rfl,?_⟩
      refine hK.out _ _ ⟨(blk_cell BKgc.out 0).trans rfl,(blk_cell BKgc.out 1).trans rfl,(blk_cell BKg1.out 0).trans rfl,(blk_cell BKg2.out 0).trans rfl,(blk_cell BKg3.out 0).trans rfl,(HB.out.cell (wbl HY.out)).trans HY.out⟩ (fun hHeld => ?_)
      clear hK K
      refine norm_ (a' := ?_) ?_ ?_
      rotate_left
      · show Act.put _ (some 16) _ = _
        simp only [Act.put,NRM]
        rfl
      refine pure_ (i := 2) (N := some 17) (v := ?_) (a' := ?_) (ba 30 7) rfl rfl (by kernel_rfl) (fun _ _ _ h => h) (Or.inl ⟨by rfl,?_⟩) ?_ ?_
      rotate_left
      · intro w'
        go_simp
        with_reducible rfl
      rotate_left
      · simp only [Act.put,NRM]
        rfl
      refine pure_ (i := 3) (N := some 18) (v := ?_) (a' := ?_) (ba 30 15) rfl rfl (by kernel_rfl) (fun _ _ _ h => h) (Or.inl ⟨by rfl,?_⟩) ?_ ?_
      rotate_left
      · intro w'
        go_simp
        with_reducible rfl
      rotate_left
      · simp only [Act.put,NRM]
        rfl
      refine pure_ (i := 5) (N := some 20) (v := ?_) (a' := ?_) (ba 30 47) rfl rfl (by kernel_rfl) (fun _ _ _ h => h) (Or.inl ⟨by rfl,?_⟩) ?_ ?_
      rotate_left
      · intro w'
        go_simp
        with_reducible rfl
      rotate_left
      · simp only [Act.put,NRM]
        rfl
      refine take_ (i := 4) (N := some 19) (v := ?_) (a' := ?_) (ba 30 63) rfl rfl (by kernel_rfl) (fun _ _ _ h => h) (Or.inl ⟨by rfl,?_⟩) hHeld ?_ ?_
      rotate_left
      · rintro w' ⟨s0,s1,s2,s3,s4,s5⟩
        go_simp
        with_reducible rfl
      rotate_left
      · simp only [Act.put,NRM]
        rfl
      refine take_ (i := 6) (N := some 21) (v := ?_) (a' := ?_) (ba 30 127) rfl rfl (by kernel_rfl) (fun _ _ _ h => h) (Or.inl ⟨by rfl,?_⟩) hHeld ?_ ?_
      rotate_left
      · rintro w' ⟨s0,s1,s2,s3,s4,s5⟩
        go_simp
        with_reducible rfl
      rotate_left
      · simp only [Act.put,NRM]
        rfl
      refine pure_ (i := 7) (N := some 22) (v := ?_) (a' := ?_) (ba 30 255) rfl rfl (by kernel_rfl) (fun _ _ _ h => h) (Or.inl ⟨by rfl,?_⟩) ?_ ?_
      rotate_left
      · intro w'
        go_simp
        with_reducible rfl
      rotate_left
      · simp only [Act.put,NRM]
        rfl
      refine pure_ (i := 8) (N := some 23) (v := ?_) (a' := ?_) (ba 30 511) rfl rfl (by kernel_rfl) (fun _ _ _ h => h) (Or.inl ⟨by rfl,?_⟩) ?_ ?_
      rotate_left
      · intro w'
        go_simp
        with_reducible rfl
      rotate_left
      · simp only [Act.put,NRM]
        rfl
      refine one_ (i := 9) (N := some 24) (ba 30 1023) rfl rfl (by kernel_rfl) (by decide) (fun K hK => ?_)
      refine goes_ Tryz.func79 (by kernel_rfl) rfl #[.int .i64 a1,.int .i64 0,.int .i64 (wrap64 ((l0_0.length : Int) - 1))] (by rfl) rfl rfl (by (try simp only [List.map_toArray,List.map_cons,List.map_nil]);first | done | rfl) ?_
      refine (ca_in.calls a1 0 (wrap64 ((l0_0.length : Int) - 1)) true _ H2.out).mono ?_
      rintro e wi ⟨rfl,hd⟩
      have hb := hd.below
      clear hd
      replace HB := (bmv HB hb)
      replace BKgc := (kmv hb BKgc)
      replace BKg1 := (kmv hb BKg1)
      replace BKg2 := (kmv hb BKg2)
      replace BKg3 := (kmv hb BKg3)
      clear hb
      refine ⟨_,rfl,?_⟩
      refine hK.out _ _ ⟨(blk_cell BKgc.out 0).trans rfl,(blk_cell BKgc.out 1).trans rfl,(blk_cell BKg1.out 0).trans rfl,(blk_cell BKg2.out 0).trans rfl,(blk_cell BKg3.out 0).trans rfl,(HB.out.cell (wbl HY.out)).trans HY.out⟩ (fun hHeld => ?_)
      clear hK K
      refine norm_ (a' := ?_) ?_ ?_
      rotate_left
      · show Act.put _ (some 24) _ = _
        simp only [Act.put,NRM]
        rfl
      refine pure_ (i := 10) (N := some 25) (v := ?_) (a' := ?_) (ba 30 2047) rfl rfl (by kernel_rfl) (fun _ _ _ h => h) (Or.inl ⟨by rfl,?_⟩) ?_ ?_
      rotate_left
      · intro w'
        go_simp
        with_reducible rfl
      rotate_left
      · simp only [Act.put,NRM]
        rfl
      refine pure_ (i := 11) (N := some 26) (v := ?_) (a' := ?_) (ba 30 4095) rfl rfl (by kernel_rfl) (fun _ _ _ h => h) (Or.inl ⟨by rfl,?_⟩) ?_ ?_
      rotate_left
      · intro w'
        go_simp
        with_reducible rfl
      rotate_left
      · simp only [Act.put,NRM]
        rfl
      refine pure_ (i := 12) (N := some 27) (v := ?_) (a' := ?_) (ba 30 8191) rfl rfl (by kernel_rfl) (fun _ _ _ h => h) (Or.inl ⟨by rfl,?_⟩) ?_ ?_
      rotate_left
      · intro w'
        go_simp
        with_reducible rfl
      rotate_left
      · simp only [Act.put,NRM]
        rfl
      refine pure_ (i := 14) (N := some 29) (v := ?_) (a' := ?_) (ba 30 24575) rfl rfl (by kernel_rfl) (fun _ _ _ h => h) (Or.inl ⟨by rfl,?_⟩) ?_ ?_
      rotate_left
      · intro w'
        go_simp
        with_reducible rfl
      rotate_left
      · simp only [Act.put,NRM]
        rfl
      refine take_ (i := 13) (N := some 28) (v := ?_) (a' := ?_) (ba 30 32767) rfl rfl (by kernel_rfl) (fun _ _ _ h => h) (Or.inl ⟨by rfl,?_⟩) hHeld ?_ ?_
      rotate_left
      · rintro w' ⟨s0,s1,s2,s3,s4,s5⟩
        go_simp
        with_reducible rfl
      rotate_left
      · simp only [Act.put,NRM]
        rfl
      refine take_ (i := 15) (N := some 30) (v := ?_) (a' := ?_) (ba 30 65535) rfl rfl (by kernel_rfl) (fun _ _ _ h => h) (Or.inl ⟨by rfl,?_⟩) hHeld ?_ ?_
      rotate_left
      · rintro w' ⟨s0,s1,s2,s3,s4,s5⟩
        go_simp
        with_reducible rfl
      rotate_left
      · simp only [Act.put,NRM]
        rfl
      refine take_ (i := 16) (N := some 31) (v := ?_) (a' := ?_) (ba 30 131071) rfl rfl (by kernel_rfl) (fun _ _ _ h => h) (Or.inl ⟨by rfl,?_⟩) hHeld ?_ ?_
      rotate_left
      · rintro w' ⟨s0,s1,s2,s3,s4,s5⟩
        go_simp
        with_reducible rfl
      rotate_left
      · simp only [Act.put,NRM]
        rfl
      refine pure_ (i := 17) (N := some 32) (v := ?_) (a' := ?_) (ba 30 262143) rfl rfl (by kernel_rfl) (fun _ _ _ h => h) (Or.inl ⟨by rfl,?_⟩) ?_ ?_
      rotate_left
      · intro w'
        go_simp
        with_reducible rfl
      rotate_left
      · simp only [Act.put,NRM]
        rfl
      refine pure_ (i := 18) (N := some 33) (v := ?_) (a' := ?_) (ba 30 524287) rfl rfl (by kernel_rfl) (fun _ _ _ h => h) (Or.inl ⟨by rfl,?_⟩) ?_ ?_
      rotate_left
      · intro w'
        go_simp
        with_reducible rfl
      rotate_left
      · simp only [Act.put,NRM]
        rfl
      refine take_ (i := 19) (N := some 34) (v := ?_) (a' := ?_) (ba 30 1048575) rfl rfl (by kernel_rfl) (fun _ _ _ h => h) (Or.inl ⟨by rfl,?_⟩) hHeld ?_ ?_
      rotate_left
      · rintro w' ⟨s0,s1,s2,s3,s4,s5⟩
        go_simp
        with_reducible rfl
      rotate_left
      · simp only [Act.put,NRM]
        rfl
      refine pure_ (i := 20) (N := some 35) (v := ?_) (a' := ?_) (ba 30 2097151) rfl rfl (by kernel_rfl) (fun _ _ _ h => h) (Or.inl ⟨by rfl,?_⟩) ?_ ?_
      rotate_left
      · intro w'
        go_simp
        with_reducible rfl
      rotate_left
      · simp only [Act.put,NRM]
        rfl
      refine pure_ (i := 21) (N := some 36) (v := ?_) (a' := ?_) (ba 30 4194303) rfl rfl (by kernel_rfl) (fun _ _ _ h => h) (Or.inl ⟨by rfl,?_⟩) ?_ ?_
      rotate_left
      · intro w'
        go_simp
        with_reducible rfl
      rotate_left
      · simp only [Act.put,NRM]
        rfl
      refine one_ (i := 22) (N := some 37) (ba 30 8388607) rfl rfl (by kernel_rfl) (by decide) (fun K hK => ?_)
      refine goes_ Tryz.func79 (by kernel_rfl) rfl #[.int .i64 a2,.int .i64 0,.int .i64 (wrap64 (((rd_T27 l0_0 a1).f1.length : Int) - 1))] (by rfl) rfl rfl (by (try simp only [List.map_toArray,List.map_cons,List.map_nil]);first | done | rfl) ?_
      refine (ca_in.calls a2 0 (wrap64 (((rd_T27 l0_0 a1).f1.length : Int) - 1)) true _ H3.out).mono ?_
      rintro e wj ⟨rfl,hd⟩
      have hb := hd.below
      clear hd
      replace HB := (bmv HB hb)
      replace BKgc := (kmv hb BKgc)
      replace BKg1 := (kmv hb BKg1)
      replace BKg2 := (kmv hb BKg2)
      replace BKg3 := (kmv hb BKg3)
      clear hb
      refine ⟨_,rfl,?_⟩
      refine hK.out _ _ ⟨(blk_cell BKgc.out 0).trans rfl,(blk_cell BKgc.out 1).trans rfl,(blk_cell BKg1.out 0).trans rfl,(blk_cell BKg2.out 0).trans rfl,(blk_cell BKg3.out 0).trans rfl,(HB.out.cell (wbl HY.out)).trans HY.out⟩ (fun hHeld => ?_)
      clear hK K
      refine norm_ (a' := ?_) ?_ ?_
      rotate_left
      · show Act.put _ (some 37) _ = _
        simp only [Act.put,NRM]
        rfl
      refine pure_ (i := 23) (N := some 38) (v := ?_) (a' := ?_) (ba 30 16777215) rfl rfl (by kernel_rfl) (fun _ _ _ h => h) (Or.inl ⟨by rfl,?_⟩) ?_ ?_
      rotate_left
      · intro w'
        go_simp
        with_reducible rfl
      rotate_left
      · simp only [Act.put,NRM]
        rfl
      refine pure_ (i := 24) (N := some 39) (v := ?_) (a' := ?_) (ba 30 33554431) rfl rfl (by kernel_rfl) (fun _ _ _ h => h) (Or.inl ⟨by rfl,?_⟩) ?_ ?_
      rotate_left
      · intro w'
        go_simp
        with_reducible rfl
      rotate_left
      · simp only [Act.put,NRM]
        rfl
      refine pure_ (i := 25) (N := some 40) (v := ?_) (a' := ?_) (ba 30 67108863) rfl rfl (by kernel_rfl) (fun _ _ _ h => h) (Or.inl ⟨by rfl,?_⟩) ?_ ?_
      rotate_left
      · intro w'
        go_simp
        with_reducible rfl
      rotate_left
      · simp only [Act.put,NRM]
        rfl
      refine take_ (i := 26) (N := some 41) (v := ?_) (a' := ?_) (ba 30 134217727) rfl rfl (by kernel_rfl) (fun _ _ _ h => h) (Or.inl ⟨by rfl,?_⟩) hHeld ?_ ?_
      rotate_left
      · rintro w' ⟨s0,s1,s2,s3,s4,s5⟩
        go_simp
        with_reducible rfl
      rotate_left
      · simp only [Act.put,NRM]
        rfl
      refine one_ (i := 27) (N := some 42) (ba 30 268435455) rfl rfl (by kernel_rfl) (by decide) (fun K hK => ?_)
      refine goes_ Tryz.func67 (by kernel_rfl) rfl #[.int .i64 a3] (by rfl) rfl rfl (by (try simp only [List.map_toArray,List.map_cons,List.map_nil]);first | done | rfl) ?_
      refine (ca_isFlow.calls a3 true _ H4.out).mono ?_
      rintro e wk ⟨rfl,hd⟩
      have hb := hd.below
      clear hd
      replace HB := (bmv HB hb)
      replace BKgc := (kmv hb BKgc)
      replace BKg1 := (kmv hb BKg1)
      replace BKg2 := (kmv hb BKg2)
      replace BKg3 := (kmv hb BKg3)
      clear hb
      refine ⟨_,rfl,?_⟩
      refine hK.out _ _ ⟨(blk_cell BKgc.out 0).trans rfl,(blk_cell BKgc.out 1).trans rfl,(blk_cell BKg1.out 0).trans rfl,(blk_cell BKg2.out 0).trans rfl,(blk_cell BKg3.out 0).trans rfl,(HB.out.cell (wbl HY.out)).trans HY.out⟩ (fun hHeld => ?_)
      clear hK K
      refine norm_ (a' := ?_) ?_ ?_
      rotate_left
      · show Act.put _ (some 42) _ = _
        simp only [Act.put,NRM]
        rfl
      refine pure_ (i := 28) (N := some 43) (v := ?_) (a' := ?_) (ba 30 536870911) rfl rfl (by kernel_rfl) (fun _ _ _ h => h) (Or.inl ⟨by rfl,?_⟩) ?_ ?_
      rotate_left
      · intro w'
        go_simp
        with_reducible rfl
      rotate_left
      · simp only [Act.put,NRM]
        rfl
      refine pure_ (i := 29) (N := some 44) (v := ?_) (a' := ?_) (ba 30 1073741823) rfl rfl (by kernel_rfl) (fun _ _ _ h => h) (Or.inl ⟨by rfl,?_⟩) ?_ ?_
      rotate_left
      · intro w'
        go_simp
        with_reducible rfl
      rotate_left
      · simp only [Act.put,NRM]
        rfl
      refine done_ (by kernel_rfl) ?_
      (try clear hczgc_0 hfzgc_0);have hczgc_0 : wk.cell? ⟨gc,0,none⟩ = some (.slice (some adb) l0_0.length c0_0) := (blk_cell BKgc.out 0).trans rfl;have hfzgc_0 := blk_frozen BKgc.out 0
      (try clear hczgc_1 hfzgc_1);have hczgc_1 : wk.cell? ⟨gc,1,none⟩ = some (.slice A0_1 l0_1.length c0_1) := (blk_cell BKgc.out 1).trans rfl;have hfzgc_1 := blk_frozen BKgc.out 1
      (try clear hczg1_0 hfzg1_0);have hczg1_0 : wk.cell? ⟨g1,0,none⟩ = some (.int .i64 a1) := (blk_cell BKg1.out 0).trans rfl;have hfzg1_0 := blk_frozen BKg1.out 0
      (try clear hczg2_0 hfzg2_0);have hczg2_0 : wk.cell? ⟨g2,0,none⟩ = some (.int .i64 a2) := (blk_cell BKg2.out 0).trans rfl;have hfzg2_0 := blk_frozen BKg2.out 0
      (try clear hczg3_0 hfzg3_0);have hczg3_0 : wk.cell? ⟨g3,0,none⟩ = some (.int .i64 a3) := (blk_cell BKg3.out 0).trans rfl;have hfzg3_0 := blk_frozen BKg3.out 0
      go_wp2_with (first | (go_at_call 82;refine (ca_basins.calls (some adb) c0_0 l0_0 A0_1 l0_1.length c0_1 fs _ (kC HR0.out HB.out) HC0.out H5.out).mono ?_;rintro e wb ⟨Af,cf,rfl,hlf,hcf,hb⟩;replace HB := (bmv HB hb);replace BKgc := (kmv hb BKgc);replace BKg1 := (kmv hb BKg1);replace BKg2 := (kmv hb BKg2);replace BKg3 := (kmv hb BKg3);(try clear hczgc_0 hfzgc_0);have hczgc_0 := cO1 BKgc.out;(try clear hczgc_1 hfzgc_1);have hczgc_1 : wb.cell? ⟨gc,1,none⟩ = some (.slice A0_1 l0_1.length c0_1) := (blk_cell BKgc.out 1).trans rfl;(try clear hczg1_0 hfzg1_0);have hczg1_0 := cO1 BKg1.out;(try clear hczg2_0 hfzg2_0);have hczg2_0 := cO1 BKg2.out;(try clear hczg3_0 hfzg3_0);have hczg3_0 := cO1 BKg3.out;have HCF := am hcf;clear hcf;(try clear hy);clear hb) | ((refine gate_dst (N := 10) rfl ?_);(try (refine gate_guard (by rfl) ?_;dsimp only));refine box_event rfl (N := 10) rfl (cs := #[.slice none 0 0]) (t := 122) ?hr ?_;(case hr => go_simp;try rfl);intro ga hg wa hbox hb;have HNgc_ga := am (show gc ≠ ga by have := blk_lt BKgc.out;omega);have HNg1_ga := am (show g1 ≠ ga by have := blk_lt BKg1.out;omega);have HNg2_ga := am (show g2 ≠ ga by have := blk_lt BKg2.out;omega);have HNg3_ga := am (show g3 ≠ ga by have := blk_lt BKg3.out;omega);have GA := am (show w.heap.size ≤ ga by have := HB.out.size;omega);have GC_ := am (show gc ≠ ga by have := blk_lt BKgc.out;omega);have G1_ := am (show g1 ≠ ga by have := blk_lt BKg1.out;omega);have G2_ := am (show g2 ≠ ga by have := blk_lt BKg2.out;omega);have G3_ := am (show g3 ≠ ga by have := blk_lt BKg3.out;omega);have GS_ := am (Nat.le_of_eq hg.symm);have GB_ := am hb;replace HB := (bmv HB hb);replace BKgc := (kmv hb BKgc);replace BKg1 := (kmv hb BKg1);replace BKg2 := (kmv hb BKg2);replace BKg3 := (kmv hb BKg3);have HCF0 := HCF;replace HCF := (cmv HCF hb);clear hg;have BKga := am hbox;clear hbox;(try clear hczgc_0 hfzgc_0);have hczgc_0 := cO1 BKgc.out;(try clear hczgc_1 hfzgc_1);have hczgc_1 : wa.cell? ⟨gc,1,none⟩ = some (.slice A0_1 l0_1.length c0_1) := (blk_cell BKgc.out 1).trans rfl;(try clear hczg1_0 hfzg1_0);have hczg1_0 := cO1 BKg1.out;(try clear hczg2_0 hfzg2_0);have hczg2_0 := cO1 BKg2.out;(try clear hczg3_0 hfzg3_0);have hczg3_0 := cO1 BKg3.out;(try clear hczga_0 hfzga_0);have hczga_0 := cO1 BKga.out;have hfzga_0 := blk_frozen BKga.out 0;clear hb) | ((with_reducible refine gate_store (t := 122) (p := 10) rfl ?_);refine skip_abs2 (fun W' => W'.heap[ga]? = some (.cells #[.slice Af fs.length cf] 122 (0,0)) ∧ W'.heap[gc]? = some (.cells #[.slice (some adb) l0_0.length c0_0,.slice A0_1 l0_1.length c0_1] 59 (0,0)) ∧ W'.heap[g1]? = some (.cells #[.int .i64 a1] 3 (0,0)) ∧ W'.heap[g2]? = some (.cells #[.int .i64 a2] 3 (0,0)) ∧ W'.heap[g3]? = some (.cells #[.int .i64 a3] 3 (0,0)) ∧ Kd.C k110 W' Af fs.length fs ∧ Below w.heap.size w W') ?hg ?hd ?hr ⟨(blk_set BKga.out 0 _).trans rfl,obj_far (p := ⟨ga,0,none⟩) BKgc.out GC_.out _,obj_far (p := ⟨ga,0,none⟩) BKg1.out G1_.out _,obj_far (p := ⟨ga,0,none⟩) BKg2.out G2_.out _,obj_far (p := ⟨ga,0,none⟩) BKg3.out G3_.out _,kC HCF0.out (below_set GB_.out GS_.out),below_set HB.out GA.out⟩ ?_;(case hg => rfl);(case hd => rfl);(case hr => go_simp;try rfl);rintro ws ⟨k1,k2,k3,k4,k5,k6,k7⟩;(try clear hczgc_0 hczgc_1 hczg1_0 hczg2_0 hczg3_0 hczga_0);(try clear hfzgc_0 hfzgc_1 hfzg1_0 hfzg2_0 hfzg3_0 hfzga_0);clear BKga BKgc BKg1 BKg2 BKg3 HCF HCF0 HB GB_ GS_;have BKga := am k1;have BKgc := am k2;have BKg1 := am k3;have BKg2 := am k4;have BKg3 := am k5;have HCF := am k6;have HB := am k7;clear k1 k2 k3 k4 k5 k6 k7) | (go_at_call 83;refine (ca_Least_1.calls k ga gc g1 g2 g3 Af cf fs (some adb) c0_0 l0_0 A0_1 c0_1 l0_1 a1 a2 a3 10000 true _ BKga.out BKgc.out BKg1.out BKg2.out BKg3.out HCF.out (kC HR1.out HB.out) H6.out).mono ?_;rintro e we ⟨rfl,hb⟩;replace HB := (bmv HB hb);replace BKgc := (kmv hb BKgc);replace BKg1 := (kmv hb BKg1);replace BKg2 := (kmv hb BKg2);replace BKg3 := (kmv hb BKg3);replace HCF := (cmv HCF hb);replace BKga := (kmv hb BKga);(try clear hczgc_0 hfzgc_0);have hczgc_0 := cO1 BKgc.out;(try clear hczgc_1 hfzgc_1);have hczgc_1 : we.cell? ⟨gc,1,none⟩ = some (.slice A0_1 l0_1.length c0_1) := (blk_cell BKgc.out 1).trans rfl;(try clear hczg1_0 hfzg1_0);have hczg1_0 := cO1 BKg1.out;(try clear hczg2_0 hfzg2_0);have hczg2_0 := cO1 BKg2.out;(try clear hczg3_0 hfzg3_0);have hczg3_0 := cO1 BKg3.out;(try clear hczga_0 hfzga_0);have hczga_0 := cO1 BKga.out;have hfzga_0 := blk_frozen BKga.out 0;clear hb))
      go_loopg [12,13] k (fun kq v12 v13 w' => ∃ (lo hi : Int),v12 = .int .i64 lo ∧ v13 = .int .i64 hi ∧ Aside0 (bisGo (enough.f k fs l0_1 a1 a2 a3) kq lo hi = some q) ∧ Aside0 (w'.heap[ga]? = some (.cells #[.slice Af fs.length cf] 122 (0,0))) ∧ Aside0 (w'.heap[gc]? = some (.cells #[.slice (some adb) l0_0.length c0_0,.slice A0_1 l0_1.length c0_1] 59 (0,0))) ∧ Aside0 (w'.heap[g1]? = some (.cells #[.int .i64 a1] 3 (0,0))) ∧ Aside0 (w'.heap[g2]? = some (.cells #[.int .i64 a2] 3 (0,0))) ∧ Aside0 (w'.heap[g3]? = some (.cells #[.int .i64 a3] 3 (0,0))) ∧ Aside0 (Kd.C k110 w' Af fs.length fs) ∧ Aside0 (Below w.heap.size w w'))
      case atStart => exact ⟨0,10000,rfl,rfl,HQ,BKga,BKgc,BKg1,BKg2,BKg3,HCF,HB⟩
      case round =>
       clear HQ BKga BKgc BKg1 BKg2 BKg3 HCF HB
       (try clear hczgc_0 hczgc_1 hczg1_0 hczg2_0 hczg3_0 hczga_0)
       (try clear hfzgc_0 hfzgc_1 hfzg1_0 hfzg2_0 hfzg3_0 hfzga_0)
       obtain ⟨lo,hi,rfl,rfl,HQ,BKga,BKgc,BKg1,BKg2,BKg3,HCF,HB⟩ := hrel
       cases gk with
       | zero => exact absurd HQ.out (by simp [bisGo])
       | succ k1 =>
        have hq := HQ.out
        clear HQ
        simp only [bisGo] at hq
        by_cases hlt : lo < hi
        case neg =>
         rw [if_neg hlt] at hq
         have hd0 : decide (lo < hi) = false := decide_eq_false hlt
         obtain rfl := Option.some.inj hq
         clear hq hlt
         go_wp2
         go_ret2
         exact ⟨rfl,HB.out⟩
        rw [if_pos hlt] at hq
        have hd0 : decide (lo < hi) = true := decide_eq_true hlt
        clear hlt
        obtain ⟨b,hb,hq⟩ := obm hq
        have H7 := am hb
        have HQ := am hq
        clear hb hq
        cases b with
        | false =>
         have hq := HQ.out
         rw [if_neg (by decide)] at hq
         have HQ2 := am hq
         clear hq HQ
         go_wp2_with (go_at_call 83;refine (ca_Least_1.calls k ga gc g1 g2 g3 Af cf fs (some adb) c0_0 l0_0 A0_1 c0_1 l0_1 a1 a2 a3 (wrap64 (Int.tdiv (wrap64 (lo + hi)) 2)) false _ BKga.out BKgc.out BKg1.out BKg2.out BKg3.out HCF.out (kC HR1.out HB.out) H7.out).mono ?_;rintro e we ⟨rfl,hb⟩;replace HB := (bmv HB hb);replace HCF := (cmv HCF hb);replace BKga := (kmv hb BKga);replace BKgc := (kmv hb BKgc);replace BKg1 := (kmv hb BKg1);replace BKg2 := (kmv hb BKg2);replace BKg3 := (kmv hb BKg3);clear hb)
         go_roundg k1
         case rel => exact ⟨(wrap64 ((wrap64 (Int.tdiv (wrap64 (lo + hi)) 2)) + 1)),hi,rfl,rfl,HQ2,BKga,BKgc,BKg1,BKg2,BKg3,HCF,HB⟩
         case measure => omega
        | true =>
         have hq := HQ.out
         rw [if_pos rfl] at hq
         have HQ2 := am hq
         clear hq HQ
         go_wp2_with (go_at_call 83;refine (ca_Least_1.calls k ga gc g1 g2 g3 Af cf fs (some adb) c0_0 l0_0 A0_1 c0_1 l0_1 a1 a2 a3 (wrap64 (Int.tdiv (wrap64 (lo + hi)) 2)) true _ BKga.out BKgc.out BKg1.out BKg2.out BKg3.out HCF.out (kC HR1.out HB.out) H7.out).mono ?_;rintro e we ⟨rfl,hb⟩;replace HB := (bmv HB hb);replace HCF := (cmv HCF hb);replace BKga := (kmv hb BKga);replace BKgc := (kmv hb BKgc);replace BKg1 := (kmv hb BKg1);replace BKg2 := (kmv hb BKg2);replace BKg3 := (kmv hb BKg3);clear hb)
         go_roundg k1
         case rel => exact ⟨lo,(wrap64 (Int.tdiv (wrap64 (lo + hi)) 2)),rfl,rfl,HQ2,BKga,BKgc,BKg1,BKg2,BKg3,HCF,HB⟩
         case measure => omega
end Go.Proofs.YtnnmnhpeblhiiaaGreatDoor.C

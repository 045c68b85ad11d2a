/- A part of the proof: the walks of the functions that it reaches. TIGHT. -/
import Derived.Test.YticlelgmmonloaaGreatDoorM20
set_option linter.unusedVariables false
set_option linter.unusedSimpArgs false
namespace Go.Proofs.YticlelgmmonloaaGreatDoor.C
open Go.RowKit Go.Proofs.YticlelgmmonloaaGreatDoorW.PrintWords Go.Proofs.YticlelgmmonloaaGreatDoorW.PrintLast Go.Proofs.YticlelgmmonloaaGreatDoorW.PrintMore
set_option linter.unusedVariables false
set_option linter.unusedSimpArgs false
set_option maxHeartbeats 16000000
set_option maxRecDepth 100000
def mendsGo (q : List Int → Option Bool) (hs : Int → List (List Int)) : Nat → Int → Option (List Int × Int × Int)
 | 0,_ => some ([],0,5)
 | n + 1,c => (firstM q (hs c)).bind fun x => match x with | some l => some (l,c,0) | none => mendsGo q hs n (c + 1)
def ca_MendsK.f (k : Nat) (l0_0 : List S126) (a0_1 : Int) (l0_2 : List S64) (a0_3 a0_4 : Int) (claims : List Int) (cups : Int) : Option (List Int × Int × Int) :=
 (ca_isBasin.f l0_0 a0_1 l0_2 a0_3 a0_4).bind fun t1 => if t1 = true then (if claims.length = l0_2.length then (cf_Mends.f claims).bind fun t2 => (if t2 = false then (ca_isFlow.f cups).bind fun t3 => (if t3 = true then mendsGo (suffice.f k l0_0 a0_1 l0_2 a0_3 a0_4 cups claims) (hsOf (l0_2.map (·.f1)) []) (2 * l0_2.length + 1) 0 else some ([],0,2)) else some ([],0,2)) else some ([],0,2)) else some ([],0,2)
theorem firstPostN {e : Ending} {X Bl : Prop} {Y : List Int → Option Addr → Nat → Prop} (h : (((none : Option (List Int)) = none ∧ X) ∨ ∃ l A c,(none : Option (List Int)) = some l ∧ Y l A c) ∧ Bl) : X ∧ Bl := ⟨h.1.elim And.right (fun ⟨_,_,_,hl,_⟩ => by cases hl),h.2⟩
theorem firstPostS {e : Ending} {X Bl : Prop} {l : List Int} {Y : List Int → Option Addr → Nat → Prop} (h : ((some l = none ∧ X) ∨ ∃ l2 A c,some l = some l2 ∧ Y l2 A c) ∧ Bl) : ∃ A c,Y l A c ∧ Bl := h.1.elim (fun hh => by cases hh.1) (fun ⟨_,A,c,hl,hy⟩ => by cases hl;exact ⟨A,c,hy,h.2⟩)
def MendsPost (r1 : List Int) (r2 r3 : Int) (w : World) (e : Ending) (w' : World) : Prop := ∃ v,e = .returned (.tuple #[v,.int .i64 r2,.int .i64 r3]) ∧ Kd.R (Kd.int .i64) 3 w' w.heap.size (fun _ => True) v r1 ∧ Below w.heap.size w w'
theorem ca_MendsK.calls (k : Nat) (A0_0 : Option Addr) (c0_0 : Nat) (l0_0 : List S126) (a0_1 : Int) (A0_2 : Option Addr) (c0_2 : Nat) (l0_2 : List S64) (a0_3 a0_4 : Int) (A3 : Option Addr) (c3 : Nat) (claims : List Int) (cups : Int) (r1 : List Int) (r2 r3 : Int) (w : World) (hr0_0 : Kd.C k126 w A0_0 l0_0.length l0_0) (hc0_0 : l0_0.length ≤ c0_0) (hr0_2 : Kd.C k64 w A0_2 l0_2.length l0_2) (hc0_2 : l0_2.length ≤ c0_2) (hr3 : Kd.C (Kd.int .i64) w A3 claims.length claims) (hc3 : claims.length ≤ c3)
 (hh : ca_isBasin.f l0_0 a0_1 l0_2 a0_3 a0_4 = some true → (∀ h ∈ l0_2.map (·.f1),0 ≤ h ∧ h ≤ 40) ∧ l0_2.length ≤ 6)
 (hq : ca_isBasin.f l0_0 a0_1 l0_2 a0_3 a0_4 = some true → claims.length = l0_2.length → ca_isFlow.f cups = some true → ∀ l : List Int,l.length = l0_2.length → (∀ z ∈ l,0 ≤ z ∧ z ≤ 40) → ∃ b,suffice.f k l0_0 a0_1 l0_2 a0_3 a0_4 cups claims l = some b)
 (h : ca_MendsK.f k l0_0 a0_1 l0_2 a0_3 a0_4 claims cups = some (r1,r2,r3)) :
 Calls Tryz.prog 38 #[.agg #[.slice A0_0 l0_0.length c0_0,.int .i64 a0_1,.slice A0_2 l0_2.length c0_2,.int .i64 a0_3,.int .i64 a0_4],.slice A3 claims.length c3,.int .i64 cups] w (MendsPost r1 r2 r3 w) := by
 have hu := Tryz.underlying27
 have hmf : ∀ (fn : Fn) (first cap : Array Value) (w : World),(Instr.makeFunc fn first cap).run Tryz.prog w = .ok (.func fn first cap) w := fun _ _ _ _ => rfl
 have hmx := Kd.C_max hr0_2
 have HR0 := am hr0_0
 have HC0 := am hc0_0
 have HR2 := am hr0_2
 have HC2 := am hc0_2
 have HR3 := am hr3
 have HC3 := am hc3
 have HB := am (Below.refl w.heap.size w)
 have HMX := am (Kd.C_max hr3)
 clear hr0_0 hc0_0 hr0_2 hc0_2 hr3 hc3
 unfold ca_MendsK.f at h
 obtain ⟨t1,ht1,h2⟩ := obm h
 clear h
 have h := h2;clear h2
 have H1 := am ht1
 have HH := am hh
 have HQ := am hq
 clear hh hq ht1
 cases t1 with
 | false =>
  rw [if_neg (by decide)] at h
  simp only [Option.some.injEq,Prod.mk.injEq] at h
  obtain ⟨rfl,rfl,rfl⟩ := h
  go_enter Tryz.func38,Tryz.ntmps38
  go_wp2_with (first | ((refine gate_dst (N := 3) rfl ?_);(try (refine gate_guard (by rfl) ?_;dsimp only));refine box_event rfl (N := 3) rfl (cs := #[.slice A0_0 l0_0.length c0_0,.int .i64 a0_1,.slice A0_2 l0_2.length c0_2,.int .i64 a0_3,.int .i64 a0_4]) (t := 27) ?hr ?_;(case hr => go_simp;try rfl);intro gb hg w2 hbox hb;replace HR0 := (cmv HR0 hb);replace HR2 := (cmv HR2 hb);replace HR3 := (cmv HR3 hb);replace HB := (bmv HB hb);clear hg;have BKgb := am hbox;clear hbox;(try clear hczgb_0 hczgb_1 hczgb_2 hczgb_3 hczgb_4);obtain ⟨hczgb_0,hczgb_1,hczgb_2,hczgb_3,hczgb_4⟩ := cO5 BKgb.out;clear hb) | ((refine gate_dst (N := 4) rfl ?_);(try (refine gate_guard (by rfl) ?_;dsimp only));refine box_event rfl (N := 4) rfl (cs := #[.slice A3 claims.length c3]) (t := 30) ?hr ?_;(case hr => go_simp;try rfl);intro gc hg w2 hbox hb;replace HR0 := (cmv HR0 hb);replace HR2 := (cmv HR2 hb);replace HR3 := (cmv HR3 hb);replace HB := (bmv HB hb);replace BKgb := (kmv hb BKgb);clear hg;have BKgc := am hbox;clear hbox;(try clear hczgb_0 hczgb_1 hczgb_2 hczgb_3 hczgb_4);obtain ⟨hczgb_0,hczgb_1,hczgb_2,hczgb_3,hczgb_4⟩ := cO5 BKgb.out;(try clear hczgc_0);have hczgc_0 := cO1 BKgc.out;clear hb) | ((refine gate_dst (N := 5) rfl ?_);(try (refine gate_guard (by rfl) ?_;dsimp only));refine box_event rfl (N := 5) rfl (cs := #[.int .i64 cups]) (t := 3) ?hr ?_;(case hr => go_simp;try rfl);intro gq hg w2 hbox hb;replace HR0 := (cmv HR0 hb);replace HR2 := (cmv HR2 hb);replace HR3 := (cmv HR3 hb);replace HB := (bmv HB hb);replace BKgb := (kmv hb BKgb);replace BKgc := (kmv hb BKgc);clear hg;have BKgq := am hbox;clear hbox;(try clear hczgb_0 hczgb_1 hczgb_2 hczgb_3 hczgb_4);obtain ⟨hczgb_0,hczgb_1,hczgb_2,hczgb_3,hczgb_4⟩ := cO5 BKgb.out;(try clear hczgc_0);have hczgc_0 := cO1 BKgc.out;(try clear hczgq_0);have hczgq_0 := cO1 BKgq.out;clear hb) | (go_at_call 57;(refine (ca_isBasin.calls A0_0 c0_0 l0_0 a0_1 A0_2 c0_2 l0_2 a0_3 a0_4 false _ HR0.out HC0.out HR2.out HC2.out H1.out).mono ?_);rintro e w1 ⟨rfl,hb⟩;replace HR0 := (cmv HR0 hb);replace HR2 := (cmv HR2 hb);replace HR3 := (cmv HR3 hb);replace HB := (bmv HB hb);replace BKgb := (kmv hb BKgb);replace BKgc := (kmv hb BKgc);replace BKgq := (kmv hb BKgq);(try clear hczgb_0 hczgb_1 hczgb_2 hczgb_3 hczgb_4);obtain ⟨hczgb_0,hczgb_1,hczgb_2,hczgb_3,hczgb_4⟩ := cO5 BKgb.out;(try clear hczgc_0);have hczgc_0 := cO1 BKgc.out;(try clear hczgq_0);have hczgq_0 := cO1 BKgq.out;clear hb))
  go_ret3
  exact ⟨_,rfl,Kd.R_nil _ _ _ _ _,HB.out⟩
 | true =>
  rw [if_pos rfl] at h
  by_cases hlen : claims.length = l0_2.length
  case neg =>
   rw [if_neg hlen] at h
   have hd : ((claims.length : Int) != (l0_2.length : Int)) = true := by simp;omega
   simp only [Option.some.injEq,Prod.mk.injEq] at h
   obtain ⟨rfl,rfl,rfl⟩ := h
   go_enter Tryz.func38,Tryz.ntmps38
   go_wp2_with (first | ((refine gate_dst (N := 3) rfl ?_);(try (refine gate_guard (by rfl) ?_;dsimp only));refine box_event rfl (N := 3) rfl (cs := #[.slice A0_0 l0_0.length c0_0,.int .i64 a0_1,.slice A0_2 l0_2.length c0_2,.int .i64 a0_3,.int .i64 a0_4]) (t := 27) ?hr ?_;(case hr => go_simp;try rfl);intro gb hg w2 hbox hb;replace HR0 := (cmv HR0 hb);replace HR2 := (cmv HR2 hb);replace HR3 := (cmv HR3 hb);replace HB := (bmv HB hb);clear hg;have BKgb := am hbox;clear hbox;(try clear hczgb_0 hczgb_1 hczgb_2 hczgb_3 hczgb_4);obtain ⟨hczgb_0,hczgb_1,hczgb_2,hczgb_3,hczgb_4⟩ := cO5 BKgb.out;clear hb) | ((refine gate_dst (N := 4) rfl ?_);(try (refine gate_guard (by rfl) ?_;dsimp only));refine box_event rfl (N := 4) rfl (cs := #[.slice A3 claims.length c3]) (t := 30) ?hr ?_;(case hr => go_simp;try rfl);intro gc hg w2 hbox hb;replace HR0 := (cmv HR0 hb);replace HR2 := (cmv HR2 hb);replace HR3 := (cmv HR3 hb);replace HB := (bmv HB hb);replace BKgb := (kmv hb BKgb);clear hg;have BKgc := am hbox;clear hbox;(try clear hczgb_0 hczgb_1 hczgb_2 hczgb_3 hczgb_4);obtain ⟨hczgb_0,hczgb_1,hczgb_2,hczgb_3,hczgb_4⟩ := cO5 BKgb.out;(try clear hczgc_0);have hczgc_0 := cO1 BKgc.out;clear hb) | ((refine gate_dst (N := 5) rfl ?_);(try (refine gate_guard (by rfl) ?_;dsimp only));refine box_event rfl (N := 5) rfl (cs := #[.int .i64 cups]) (t := 3) ?hr ?_;(case hr => go_simp;try rfl);intro gq hg w2 hbox hb;replace HR0 := (cmv HR0 hb);replace HR2 := (cmv HR2 hb);replace HR3 := (cmv HR3 hb);replace HB := (bmv HB hb);replace BKgb := (kmv hb BKgb);replace BKgc := (kmv hb BKgc);clear hg;have BKgq := am hbox;clear hbox;(try clear hczgb_0 hczgb_1 hczgb_2 hczgb_3 hczgb_4);obtain ⟨hczgb_0,hczgb_1,hczgb_2,hczgb_3,hczgb_4⟩ := cO5 BKgb.out;(try clear hczgc_0);have hczgc_0 := cO1 BKgc.out;(try clear hczgq_0);have hczgq_0 := cO1 BKgq.out;clear hb) | (go_at_call 57;(refine (ca_isBasin.calls A0_0 c0_0 l0_0 a0_1 A0_2 c0_2 l0_2 a0_3 a0_4 true _ HR0.out HC0.out HR2.out HC2.out H1.out).mono ?_);rintro e w1 ⟨rfl,hb⟩;replace HR0 := (cmv HR0 hb);replace HR2 := (cmv HR2 hb);replace HR3 := (cmv HR3 hb);replace HB := (bmv HB hb);replace BKgb := (kmv hb BKgb);replace BKgc := (kmv hb BKgc);replace BKgq := (kmv hb BKgq);(try clear hczgb_0 hczgb_1 hczgb_2 hczgb_3 hczgb_4);obtain ⟨hczgb_0,hczgb_1,hczgb_2,hczgb_3,hczgb_4⟩ := cO5 BKgb.out;(try clear hczgc_0);have hczgc_0 := cO1 BKgc.out;(try clear hczgq_0);have hczgq_0 := cO1 BKgq.out;clear hb))
   go_ret3
   exact ⟨_,rfl,Kd.R_nil _ _ _ _ _,HB.out⟩
  rw [if_pos hlen] at h
  have hd : ((claims.length : Int) != (l0_2.length : Int)) = false := by simp;omega
  have HL := am hlen
  clear hlen
  obtain ⟨t2,ht2,h2⟩ := obm h;clear h;have h := h2;clear h2
  have H2 := am ht2
  clear ht2
  cases t2 with
  | true =>
   rw [if_neg (by decide)] at h
   simp only [Option.some.injEq,Prod.mk.injEq] at h
   obtain ⟨rfl,rfl,rfl⟩ := h
   go_enter Tryz.func38,Tryz.ntmps38
   go_wp2_with (first | ((refine gate_dst (N := 3) rfl ?_);(try (refine gate_guard (by rfl) ?_;dsimp only));refine box_event rfl (N := 3) rfl (cs := #[.slice A0_0 l0_0.length c0_0,.int .i64 a0_1,.slice A0_2 l0_2.length c0_2,.int .i64 a0_3,.int .i64 a0_4]) (t := 27) ?hr ?_;(case hr => go_simp;try rfl);intro gb hg w2 hbox hb;replace HR0 := (cmv HR0 hb);replace HR2 := (cmv HR2 hb);replace HR3 := (cmv HR3 hb);replace HB := (bmv HB hb);clear hg;have BKgb := am hbox;clear hbox;(try clear hczgb_0 hczgb_1 hczgb_2 hczgb_3 hczgb_4);obtain ⟨hczgb_0,hczgb_1,hczgb_2,hczgb_3,hczgb_4⟩ := cO5 BKgb.out;clear hb) | ((refine gate_dst (N := 4) rfl ?_);(try (refine gate_guard (by rfl) ?_;dsimp only));refine box_event rfl (N := 4) rfl (cs := #[.slice A3 claims.length c3]) (t := 30) ?hr ?_;(case hr => go_simp;try rfl);intro gc hg w2 hbox hb;replace HR0 := (cmv HR0 hb);replace HR2 := (cmv HR2 hb);replace HR3 := (cmv HR3 hb);replace HB := (bmv HB hb);replace BKgb := (kmv hb BKgb);clear hg;have BKgc := am hbox;clear hbox;(try clear hczgb_0 hczgb_1 hczgb_2 hczgb_3 hczgb_4);obtain ⟨hczgb_0,hczgb_1,hczgb_2,hczgb_3,hczgb_4⟩ := cO5 BKgb.out;(try clear hczgc_0);have hczgc_0 := cO1 BKgc.out;clear hb) | ((refine gate_dst (N := 5) rfl ?_);(try (refine gate_guard (by rfl) ?_;dsimp only));refine box_event rfl (N := 5) rfl (cs := #[.int .i64 cups]) (t := 3) ?hr ?_;(case hr => go_simp;try rfl);intro gq hg w2 hbox hb;replace HR0 := (cmv HR0 hb);replace HR2 := (cmv HR2 hb);replace HR3 := (cmv HR3 hb);replace HB := (bmv HB hb);replace BKgb := (kmv hb BKgb);replace BKgc := (kmv hb BKgc);clear hg;have BKgq := am hbox;clear hbox;(try clear hczgb_0 hczgb_1 hczgb_2 hczgb_3 hczgb_4);obtain ⟨hczgb_0,hczgb_1,hczgb_2,hczgb_3,hczgb_4⟩ := cO5 BKgb.out;(try clear hczgc_0);have hczgc_0 := cO1 BKgc.out;(try clear hczgq_0);have hczgq_0 := cO1 BKgq.out;clear hb) | (go_at_call 57;(refine (ca_isBasin.calls A0_0 c0_0 l0_0 a0_1 A0_2 c0_2 l0_2 a0_3 a0_4 true _ HR0.out HC0.out HR2.out HC2.out H1.out).mono ?_);rintro e w1 ⟨rfl,hb⟩;replace HR0 := (cmv HR0 hb);replace HR2 := (cmv HR2 hb);replace HR3 := (cmv HR3 hb);replace HB := (bmv HB hb);replace BKgb := (kmv hb BKgb);replace BKgc := (kmv hb BKgc);replace BKgq := (kmv hb BKgq);(try clear hczgb_0 hczgb_1 hczgb_2 hczgb_3 hczgb_4);obtain ⟨hczgb_0,hczgb_1,hczgb_2,hczgb_3,hczgb_4⟩ := cO5 BKgb.out;(try clear hczgc_0);have hczgc_0 := cO1 BKgc.out;(try clear hczgq_0);have hczgq_0 := cO1 BKgq.out;clear hb) | (go_at_call 75;(refine (cf_Mends.calls A3 c3 claims true _ HR3.out HC3.out H2.out).mono ?_);rintro e w2 ⟨rfl,hb⟩;replace HR0 := (cmv HR0 hb);replace HR2 := (cmv HR2 hb);replace HR3 := (cmv HR3 hb);replace HB := (bmv HB hb);replace BKgb := (kmv hb BKgb);replace BKgc := (kmv hb BKgc);replace BKgq := (kmv hb BKgq);(try clear hczgb_0 hczgb_1 hczgb_2 hczgb_3 hczgb_4);obtain ⟨hczgb_0,hczgb_1,hczgb_2,hczgb_3,hczgb_4⟩ := cO5 BKgb.out;(try clear hczgc_0);have hczgc_0 := cO1 BKgc.out;(try clear hczgq_0);have hczgq_0 := cO1 BKgq.out;clear hb))
   go_ret3
   exact ⟨_,rfl,Kd.R_nil _ _ _ _ _,HB.out⟩
  | false =>
   rw [if_pos rfl] at h
   obtain ⟨t3,ht3,h2⟩ := obm h;clear h;have h := h2;clear h2
   have H3 := am ht3
   clear ht3
   cases t3 with
   | false =>
    rw [if_neg (by decide)] at h
    simp only [Option.some.injEq,Prod.mk.injEq] at h
    obtain ⟨rfl,rfl,rfl⟩ := h
    go_enter Tryz.func38,Tryz.ntmps38
    go_wp2_with (first | ((refine gate_dst (N := 3) rfl ?_);(try (refine gate_guard (by rfl) ?_;dsimp only));refine box_event rfl (N := 3) rfl (cs := #[.slice A0_0 l0_0.length c0_0,.int .i64 a0_1,.slice A0_2 l0_2.length c0_2,.int .i64 a0_3,.int .i64 a0_4]) (t := 27) ?hr ?_;(case hr => go_simp;try rfl);intro gb hg w2 hbox hb;replace HR0 := (cmv HR0 hb);replace HR2 := (cmv HR2 hb);replace HR3 := (cmv HR3 hb);replace HB := (bmv HB hb);clear hg;have BKgb := am hbox;clear hbox;(try clear hczgb_0 hczgb_1 hczgb_2 hczgb_3 hczgb_4);obtain ⟨hczgb_0,hczgb_1,hczgb_2,hczgb_3,hczgb_4⟩ := cO5 BKgb.out;clear hb) | ((refine gate_dst (N := 4) rfl ?_);(try (refine gate_guard (by rfl) ?_;dsimp only));refine box_event rfl (N := 4) rfl (cs := #[.slice A3 claims.length c3]) (t := 30) ?hr ?_;(case hr => go_simp;try rfl);intro gc hg w2 hbox hb;replace HR0 := (cmv HR0 hb);replace HR2 := (cmv HR2 hb);replace HR3 := (cmv HR3 hb);replace HB := (bmv HB hb);replace BKgb := (kmv hb BKgb);clear hg;have BKgc := am hbox;clear hbox;(try clear hczgb_0 hczgb_1 hczgb_2 hczgb_3 hczgb_4);obtain ⟨hczgb_0,hczgb_1,hczgb_2,hczgb_3,hczgb_4⟩ := cO5 BKgb.out;(try clear hczgc_0);have hczgc_0 := cO1 BKgc.out;clear hb) | ((refine gate_dst (N := 5) rfl ?_);(try (refine gate_guard (by rfl) ?_;dsimp only));refine box_event rfl (N := 5) rfl (cs := #[.int .i64 cups]) (t := 3) ?hr ?_;(case hr => go_simp;try rfl);intro gq hg w2 hbox hb;replace HR0 := (cmv HR0 hb);replace HR2 := (cmv HR2 hb);replace HR3 := (cmv HR3 hb);replace HB := (bmv HB hb);replace BKgb := (kmv hb BKgb);replace BKgc := (kmv hb BKgc);clear hg;have BKgq := am hbox;clear hbox;(try clear hczgb_0 hczgb_1 hczgb_2 hczgb_3 hczgb_4);obtain ⟨hczgb_0,hczgb_1,hczgb_2,hczgb_3,hczgb_4⟩ := cO5 BKgb.out;(try clear hczgc_0);have hczgc_0 := cO1 BKgc.out;(try clear hczgq_0);have hczgq_0 := cO1 BKgq.out;clear hb) | (go_at_call 57;(refine (ca_isBasin.calls A0_0 c0_0 l0_0 a0_1 A0_2 c0_2 l0_2 a0_3 a0_4 true _ HR0.out HC0.out HR2.out HC2.out H1.out).mono ?_);rintro e w1 ⟨rfl,hb⟩;replace HR0 := (cmv HR0 hb);replace HR2 := (cmv HR2 hb);replace HR3 := (cmv HR3 hb);replace HB := (bmv HB hb);replace BKgb := (kmv hb BKgb);replace BKgc := (kmv hb BKgc);replace BKgq := (kmv hb BKgq);(try clear hczgb_0 hczgb_1 hczgb_2 hczgb_3 hczgb_4);obtain ⟨hczgb_0,hczgb_1,hczgb_2,hczgb_3,hczgb_4⟩ := cO5 BKgb.out;(try clear hczgc_0);have hczgc_0 := cO1 BKgc.out;(try clear hczgq_0);have hczgq_0 := cO1 BKgq.out;clear hb) | (go_at_call 75;(refine (cf_Mends.calls A3 c3 claims false _ HR3.out HC3.out H2.out).mono ?_);rintro e w2 ⟨rfl,hb⟩;replace HR0 := (cmv HR0 hb);replace HR2 := (cmv HR2 hb);replace HR3 := (cmv HR3 hb);replace HB := (bmv HB hb);replace BKgb := (kmv hb BKgb);replace BKgc := (kmv hb BKgc);replace BKgq := (kmv hb BKgq);(try clear hczgb_0 hczgb_1 hczgb_2 hczgb_3 hczgb_4);obtain ⟨hczgb_0,hczgb_1,hczgb_2,hczgb_3,hczgb_4⟩ := cO5 BKgb.out;(try clear hczgc_0);have hczgc_0 := cO1 BKgc.out;(try clear hczgq_0);have hczgq_0 := cO1 BKgq.out;clear hb) | (go_at_call 58;(refine (ca_isFlow.calls cups false _ H3.out).mono ?_);rintro e w3 ⟨rfl,hd⟩;have hb := hd.below;clear hd;replace HR0 := (cmv HR0 hb);replace HR2 := (cmv HR2 hb);replace HR3 := (cmv HR3 hb);replace HB := (bmv HB hb);replace BKgb := (kmv hb BKgb);replace BKgc := (kmv hb BKgc);replace BKgq := (kmv hb BKgq);(try clear hczgb_0 hczgb_1 hczgb_2 hczgb_3 hczgb_4);obtain ⟨hczgb_0,hczgb_1,hczgb_2,hczgb_3,hczgb_4⟩ := cO5 BKgb.out;(try clear hczgc_0);have hczgc_0 := cO1 BKgc.out;(try clear hczgq_0);have hczgq_0 := cO1 BKgq.out;clear hb))
    go_ret3
    exact ⟨_,rfl,Kd.R_nil _ _ _ _ _,HB.out⟩
   | true =>
    rw [if_pos rfl] at h
    have HG := am h
    clear h
    obtain ⟨hh1,hh2⟩ := HH.out H1.out
    have HHH := am hh1
    clear hh1
    go_enter Tryz.func38,Tryz.ntmps38
    go_wp2_with (first | ((refine gate_dst (N := 3) rfl ?_);(try (refine gate_guard (by rfl) ?_;dsimp only));refine box_event rfl (N := 3) rfl (cs := #[.slice A0_0 l0_0.length c0_0,.int .i64 a0_1,.slice A0_2 l0_2.length c0_2,.int .i64 a0_3,.int .i64 a0_4]) (t := 27) ?hr ?_;(case hr => go_simp;try rfl);intro gb hg w2 hbox hb;replace HR0 := (cmv HR0 hb);replace HR2 := (cmv HR2 hb);replace HR3 := (cmv HR3 hb);replace HB := (bmv HB hb);clear hg;have BKgb := am hbox;clear hbox;(try clear hczgb_0 hczgb_1 hczgb_2 hczgb_3 hczgb_4);obtain ⟨hczgb_0,hczgb_1,hczgb_2,hczgb_3,hczgb_4⟩ := cO5 BKgb.out;clear hb) | ((refine gate_dst (N := 4) rfl ?_);(try (refine gate_guard (by rfl) ?_;dsimp only));refine box_event rfl (N := 4) rfl (cs := #[.slice A3 claims.length c3]) (t := 30) ?hr ?_;(case hr => go_simp;try rfl);intro gc hg w2 hbox hb;replace HR0 := (cmv HR0 hb);replace HR2 := (cmv HR2 hb);replace HR3 := (cmv HR3 hb);replace HB := (bmv HB hb);replace BKgb := (kmv hb BKgb);clear hg;have BKgc := am hbox;clear hbox;(try clear hczgb_0 hczgb_1 hczgb_2 hczgb_3 hczgb_4);obtain ⟨hczgb_0,hczgb_1,hczgb_2,hczgb_3,hczgb_4⟩ := cO5 BKgb.out;(try clear hczgc_0);have hczgc_0 := cO1 BKgc.out;clear hb) | ((refine gate_dst (N := 5) rfl ?_);(try (refine gate_guard (by rfl) ?_;dsimp only));refine box_event rfl (N := 5) rfl (cs := #[.int .i64 cups]) (t := 3) ?hr ?_;(case hr => go_simp;try rfl);intro gq hg w2 hbox hb;replace HR0 := (cmv HR0 hb);replace HR2 := (cmv HR2 hb);replace HR3 := (cmv HR3 hb);replace HB := (bmv HB hb);replace BKgb := (kmv hb BKgb);replace BKgc := (kmv hb BKgc);clear hg;have BKgq := am hbox;clear hbox;(try clear hczgb_0 hczgb_1 hczgb_2 hczgb_3 hczgb_4);obtain ⟨hczgb_0,hczgb_1,hczgb_2,hczgb_3,hczgb_4⟩ := cO5 BKgb.out;(try clear hczgc_0);have hczgc_0 := cO1 BKgc.out;(try clear hczgq_0);have hczgq_0 := cO1 BKgq.out;clear hb) | (go_at_call 57;(refine (ca_isBasin.calls A0_0 c0_0 l0_0 a0_1 A0_2 c0_2 l0_2 a0_3 a0_4 true _ HR0.out HC0.out HR2.out HC2.out H1.out).mono ?_);rintro e w1 ⟨rfl,hb⟩;replace HR0 := (cmv HR0 hb);replace HR2 := (cmv HR2 hb);replace HR3 := (cmv HR3 hb);replace HB := (bmv HB hb);replace BKgb := (kmv hb BKgb);replace BKgc := (kmv hb BKgc);replace BKgq := (kmv hb BKgq);(try clear hczgb_0 hczgb_1 hczgb_2 hczgb_3 hczgb_4);obtain ⟨hczgb_0,hczgb_1,hczgb_2,hczgb_3,hczgb_4⟩ := cO5 BKgb.out;(try clear hczgc_0);have hczgc_0 := cO1 BKgc.out;(try clear hczgq_0);have hczgq_0 := cO1 BKgq.out;clear hb) | (go_at_call 75;(refine (cf_Mends.calls A3 c3 claims false _ HR3.out HC3.out H2.out).mono ?_);rintro e w2 ⟨rfl,hb⟩;replace HR0 := (cmv HR0 hb);replace HR2 := (cmv HR2 hb);replace HR3 := (cmv HR3 hb);replace HB := (bmv HB hb);replace BKgb := (kmv hb BKgb);replace BKgc := (kmv hb BKgc);replace BKgq := (kmv hb BKgq);(try clear hczgb_0 hczgb_1 hczgb_2 hczgb_3 hczgb_4);obtain ⟨hczgb_0,hczgb_1,hczgb_2,hczgb_3,hczgb_4⟩ := cO5 BKgb.out;(try clear hczgc_0);have hczgc_0 := cO1 BKgc.out;(try clear hczgq_0);have hczgq_0 := cO1 BKgq.out;clear hb) | (go_at_call 58;(refine (ca_isFlow.calls cups true _ H3.out).mono ?_);rintro e w3 ⟨rfl,hd⟩;have hb := hd.below;clear hd;replace HR0 := (cmv HR0 hb);replace HR2 := (cmv HR2 hb);replace HR3 := (cmv HR3 hb);replace HB := (bmv HB hb);replace BKgb := (kmv hb BKgb);replace BKgc := (kmv hb BKgc);replace BKgq := (kmv hb BKgq);(try clear hczgb_0 hczgb_1 hczgb_2 hczgb_3 hczgb_4);obtain ⟨hczgb_0,hczgb_1,hczgb_2,hczgb_3,hczgb_4⟩ := cO5 BKgb.out;(try clear hczgc_0);have hczgc_0 := cO1 BKgc.out;(try clear hczgq_0);have hczgq_0 := cO1 BKgq.out;clear hb))
    have hw1 : IntKind.i64.wrap (2 * (l0_2.length : Int)) = 2 * (l0_2.length : Int) := (i64_w _).trans (by unfold wrap64;omega)
    have hw2 : IntKind.i64.wrap (2 * (l0_2.length : Int) + 1) = 2 * (l0_2.length : Int) + 1 := (i64_w _).trans (by unfold wrap64;omega)
    go_loopw [39] (fun v39 w' => ∃ i : Int,0 ≤ i ∧ i ≤ 2 * (l0_2.length : Int) + 1 ∧ v39 = .int .i64 i ∧ Aside0 (mendsGo (suffice.f k l0_0 a0_1 l0_2 a0_3 a0_4 cups claims) (hsOf (l0_2.map (·.f1)) []) (2 * (l0_2.length : Int) + 1 - i).toNat i = some (r1,r2,r3)) ∧ Aside0 (Below w.heap.size w w') ∧ Aside0 (Kd.C k126 w' A0_0 l0_0.length l0_0) ∧ Aside0 (Kd.C k64 w' A0_2 l0_2.length l0_2) ∧ Aside0 (Kd.C (Kd.int .i64) w' A3 claims.length claims) ∧ Aside0 (w'.heap[gb]? = some (.cells #[.slice A0_0 l0_0.length c0_0,.int .i64 a0_1,.slice A0_2 l0_2.length c0_2,.int .i64 a0_3,.int .i64 a0_4] 27 (0,0))) ∧ Aside0 (w'.heap[gc]? = some (.cells #[.slice A3 claims.length c3] 30 (0,0))) ∧ Aside0 (w'.heap[gq]? = some (.cells #[.int .i64 cups] 3 (0,0)))) (fun v39 _ => (2 * (l0_2.length : Int) + 1 - intOf v39).toNat)
    case atStart => exact ⟨0,by omega,by omega,rfl,HG,HB,HR0,HR2,HR3,BKgb,BKgc,BKgq⟩
    case round =>
     clear HG HB HR0 HR2 HR3 BKgb BKgc BKgq
     (try clear hczgb_0 hczgb_1 hczgb_2 hczgb_3 hczgb_4 hczgc_0 hczgq_0)
     obtain ⟨i,p1,hi,rfl,HG,HB,HR0,HR2,HR3,BKgb,BKgc,BKgq⟩ := hrel
     by_cases hlt : i < 2 * (l0_2.length : Int) + 1
     case neg =>
      have hg := HG.out
      rw [show (2 * (l0_2.length : Int) + 1 - i).toNat = 0 by omega] at hg
      simp only [mendsGo,Option.some.injEq,Prod.mk.injEq] at hg
      obtain ⟨rfl,rfl,rfl⟩ := hg
      go_wp2
      go_ret3
      exact ⟨_,rfl,Kd.R_nil _ _ _ _ _,HB.out⟩
     have hg := HG.out
     rw [show (2 * (l0_2.length : Int) + 1 - i).toNat = (2 * (l0_2.length : Int) + 1 - (i + 1)).toNat + 1 by omega] at hg
     simp only [mendsGo] at hg
     obtain ⟨x,hx,hg2⟩ := obm hg
     clear hg HG
     have HX := am hx
     clear hx
     have hw3 : IntKind.i64.wrap (i + 1) = i + 1 := (i64_w _).trans (by unfold wrap64;omega)
     have hch : 0 ≤ i ∧ i ≤ 1000 := by omega
     (try clear hczgb_0 hfzgb_0);have hczgb_0 : wr.cell? ⟨gb,0,none⟩ = some (.slice A0_0 l0_0.length c0_0) := (blk_cell BKgb.out 0).trans rfl;have hfzgb_0 := blk_frozen BKgb.out 0
     (try clear hczgb_1 hfzgb_1);have hczgb_1 : wr.cell? ⟨gb,1,none⟩ = some (.int .i64 a0_1) := (blk_cell BKgb.out 1).trans rfl;have hfzgb_1 := blk_frozen BKgb.out 1
     (try clear hczgb_2 hfzgb_2);have hczgb_2 : wr.cell? ⟨gb,2,none⟩ = some (.slice A0_2 l0_2.length c0_2) := (blk_cell BKgb.out 2).trans rfl;have hfzgb_2 := blk_frozen BKgb.out 2
     (try clear hczgb_3 hfzgb_3);have hczgb_3 : wr.cell? ⟨gb,3,none⟩ = some (.int .i64 a0_3) := (blk_cell BKgb.out 3).trans rfl;have hfzgb_3 := blk_frozen BKgb.out 3
     (try clear hczgb_4 hfzgb_4);have hczgb_4 : wr.cell? ⟨gb,4,none⟩ = some (.int .i64 a0_4) := (blk_cell BKgb.out 4).trans rfl;have hfzgb_4 := blk_frozen BKgb.out 4
     (try clear hczgc_0 hfzgc_0);have hczgc_0 : wr.cell? ⟨gc,0,none⟩ = some (.slice A3 claims.length c3) := (blk_cell BKgc.out 0).trans rfl;have hfzgc_0 := blk_frozen BKgc.out 0
     (try clear hczgq_0 hfzgq_0);have hczgq_0 : wr.cell? ⟨gq,0,none⟩ = some (.int .i64 cups) := (blk_cell BKgq.out 0).trans rfl;have hfzgq_0 := blk_frozen BKgq.out 0
     cases x with
     | none =>
      dsimp only at hg2
      have HG := am hg2
      clear hg2
      go_wp2_with (first | (go_at_call 80;(refine (ca_heights.calls A0_0 l0_0.length c0_0 a0_1 A0_2 l0_2.length c0_2 a0_3 a0_4 i _).mono ?_);rintro e w1 ⟨hgb,hgch,rfl,hbb,hbch,hb⟩;replace HR0 := (cmv HR0 hb);replace HR2 := (cmv HR2 hb);replace HR3 := (cmv HR3 hb);replace HB := (bmv HB hb);replace BKgb := (kmv hb BKgb);replace BKgc := (kmv hb BKgc);replace BKgq := (kmv hb BKgq);(try clear hczgb_0 hczgb_1 hczgb_2 hczgb_3 hczgb_4);obtain ⟨hczgb_0,hczgb_1,hczgb_2,hczgb_3,hczgb_4⟩ := cO5 BKgb.out;(try clear hczgc_0);have hczgc_0 := cO1 BKgc.out;(try clear hczgq_0);have hczgq_0 := cO1 BKgq.out;have BB1 := am hbb;have BB2 := am hbch;clear hbb hbch;clear hb) | (go_at_call 79;(with_reducible refine ((ca_first.calls k hgb hgch gb gq gc A0_0 c0_0 l0_0 a0_1 A0_2 c0_2 l0_2 a0_3 a0_4 i cups A3 c3 claims _ _ BB1.out BB2.out BKgb.out BKgq.out BKgc.out HR0.out HC0.out HR2.out HC2.out HR3.out hch.1 hch.2 HHH.out (Nat.le_trans hh2 (by decide)) (HQ.out H1.out HL.out H3.out) HX.out).mono (fun e _ h_ => firstPostN (e := e) h_)).mono ?_);rintro e w2 ⟨rfl,hb⟩;replace HR0 := (cmv HR0 hb);replace HR2 := (cmv HR2 hb);replace HR3 := (cmv HR3 hb);replace HB := (bmv HB hb);replace BKgb := (kmv hb BKgb);replace BKgc := (kmv hb BKgc);replace BKgq := (kmv hb BKgq);(try clear hczgb_0 hczgb_1 hczgb_2 hczgb_3 hczgb_4);obtain ⟨hczgb_0,hczgb_1,hczgb_2,hczgb_3,hczgb_4⟩ := cO5 BKgb.out;(try clear hczgc_0);have hczgc_0 := cO1 BKgc.out;(try clear hczgq_0);have hczgq_0 := cO1 BKgq.out;clear hb))
      go_roundw
      case rel => exact ⟨i + 1,by omega,by omega,by go_num,HG,HB,HR0,HR2,HR3,BKgb,BKgc,BKgq⟩
      case measure => simp [intOf];omega
     | some l =>
      dsimp only at hg2
      simp only [Option.some.injEq,Prod.mk.injEq] at hg2
      obtain ⟨rfl,rfl,rfl⟩ := hg2
      go_wp2_with (first | (go_at_call 80;(refine (ca_heights.calls A0_0 l0_0.length c0_0 a0_1 A0_2 l0_2.length c0_2 a0_3 a0_4 i _).mono ?_);rintro e w1 ⟨hgb,hgch,rfl,hbb,hbch,hb⟩;replace HR0 := (cmv HR0 hb);replace HR2 := (cmv HR2 hb);replace HR3 := (cmv HR3 hb);replace HB := (bmv HB hb);replace BKgb := (kmv hb BKgb);replace BKgc := (kmv hb BKgc);replace BKgq := (kmv hb BKgq);(try clear hczgb_0 hczgb_1 hczgb_2 hczgb_3 hczgb_4);obtain ⟨hczgb_0,hczgb_1,hczgb_2,hczgb_3,hczgb_4⟩ := cO5 BKgb.out;(try clear hczgc_0);have hczgc_0 := cO1 BKgc.out;(try clear hczgq_0);have hczgq_0 := cO1 BKgq.out;have BB1 := am hbb;have BB2 := am hbch;clear hbb hbch;clear hb) | (go_at_call 79;(with_reducible refine ((ca_first.calls k hgb hgch gb gq gc A0_0 c0_0 l0_0 a0_1 A0_2 c0_2 l0_2 a0_3 a0_4 i cups A3 c3 claims _ _ BB1.out BB2.out BKgb.out BKgq.out BKgc.out HR0.out HC0.out HR2.out HC2.out HR3.out hch.1 hch.2 HHH.out (Nat.le_trans hh2 (by decide)) (HQ.out H1.out HL.out H3.out) HX.out).mono (fun e _ h_ => firstPostS (e := e) h_)).mono ?_);rintro e w2 ⟨A,c,⟨rfl,hle,hC,hR⟩,hb⟩;have HRR := am (Kd.R_lower hR (by first | exact HB.out.size | (have := HB.out.size;simpa using this)));clear hR;replace HR0 := (cmv HR0 hb);replace HR2 := (cmv HR2 hb);replace HR3 := (cmv HR3 hb);replace HB := (bmv HB hb);replace BKgb := (kmv hb BKgb);replace BKgc := (kmv hb BKgc);replace BKgq := (kmv hb BKgq);(try clear hczgb_0 hczgb_1 hczgb_2 hczgb_3 hczgb_4);obtain ⟨hczgb_0,hczgb_1,hczgb_2,hczgb_3,hczgb_4⟩ := cO5 BKgb.out;(try clear hczgc_0);have hczgc_0 := cO1 BKgc.out;(try clear hczgq_0);have hczgq_0 := cO1 BKgq.out;have HLE := am hle;have HRX := am hC;clear hle hC;clear hb))
      go_ret3
      exact ⟨_,rfl,HRR.out,HB.out⟩
theorem w64 {n : Int} (h : -9223372036854775808 ≤ n ∧ n ≤ 9223372036854775807) : wrap64 n = n := by unfold wrap64;omega
theorem ksucc {k : Nat} (h : 0 < k) : ∃ m,k = m + 1 := ⟨k - 1,by omega⟩
def rowOk (r : S126) : Bool := decide (1 ≤ r.f0 ∧ r.f0 ≤ 60) && (decide (1 ≤ r.f1 ∧ r.f1 ≤ 60) && decide (1 ≤ r.f2 ∧ r.f2 ≤ 1000))
def nozOk (n : Int) (z : S64) : Bool := decide (0 ≤ z.f0 ∧ z.f0 ≤ n - 1) && decide (0 ≤ z.f1 ∧ z.f1 ≤ 40)
def okT (rows : List S126) (draw : Int) : Bool := decide (1 ≤ (rows.length : Int) ∧ (rows.length : Int) ≤ 12) && (decide (0 ≤ draw ∧ draw ≤ 100) && rows.all rowOk)
def okB (rows : List S126) (draw : Int) (noz : List S64) (weir spill : Int) : Bool :=
 okT rows draw && (decide (1 ≤ (noz.length : Int) ∧ (noz.length : Int) ≤ 6) && (decide (0 ≤ weir ∧ weir ≤ 40) && (decide (0 ≤ spill ∧ spill ≤ 100) && noz.all (nozOk rows.length))))
theorem c_in (a b c : Int) : ca_in.f a b c = some (decide (b ≤ a ∧ a ≤ c)) := by
 unfold ca_in.f
 by_cases h : a ≥ b
 · rw [if_pos h];have : b ≤ a := h;simp [this]
 · rw [if_neg h];have : ¬ b ≤ a := h;simp [this]
theorem n_in (a b c : Int) : nz_in.f a b c = some (decide (b ≤ a ∧ a ≤ c)) := c_in a b c
theorem r4_in (a b c : Int) : q4_in.f a b c = some (decide (b ≤ a ∧ a ≤ c)) := c_in a b c
theorem r3_in (a b c : Int) : q3_in.f a b c = some (decide (b ≤ a ∧ a ≤ c)) := c_in a b c
theorem c_height (a : Int) : ca_isHeight.f a = some (decide (0 ≤ a ∧ a ≤ 40)) := by unfold ca_isHeight.f;rw [c_in];rfl
theorem c_flow (a : Int) : ca_isFlow.f a = some (decide (0 ≤ a ∧ a ≤ 10000)) := by unfold ca_isFlow.f;rw [c_in];rfl
theorem r_height (a : Int) : q4_Height.f a = some (decide (0 ≤ a ∧ a ≤ 40)) := by unfold q4_Height.f;rw [r4_in];rfl
theorem r_cups (a : Int) : q4_Cups.f a = some (decide (0 ≤ a ∧ a ≤ 10000)) := by unfold q4_Cups.f;rw [r4_in];rfl
theorem anyM_total {α : Type} {q : α → Option Bool} {p : α → Bool} (h : ∀ x,q x = some (p x)) : ∀ xs,anyM q xs = some (xs.any p)
 | [] => rfl
 | x :: xs => by
  simp only [anyM,h,Option.bind_some,List.any_cons,anyM_total h xs]
  cases p x <;> rfl
theorem row_bad (x : S126) : nz_isTable_1.f x.f0 x.f1 x.f2 = some (!rowOk x) := by
 unfold nz_isTable_1.f rowOk
 simp only [n_in,Option.bind_some]
 cases decide (1 ≤ x.f0 ∧ x.f0 ≤ 60) <;> cases decide (1 ≤ x.f1 ∧ x.f1 ≤ 60) <;> cases decide (1 ≤ x.f2 ∧ x.f2 ≤ 1000) <;> rfl
theorem noz_bad {rows : List S126} (hl : rows.length ≤ 1000) (x : S64) : ca_isBasin_1.f rows x = some (!nozOk rows.length x) := by
 unfold ca_isBasin_1.f nozOk
 rw [w64 (by omega)]
 simp only [c_in,c_height,Option.bind_some]
 cases decide (0 ≤ x.f0 ∧ x.f0 ≤ (rows.length : Int) - 1) <;> cases decide (0 ≤ x.f1 ∧ x.f1 ≤ 40) <;> rfl
theorem isTable_eq (rows : List S126) (draw : Int) : nz_isTable.f rows draw = some (okT rows draw) := by
 unfold nz_isTable.f okT cf_isTable.f
 rw [anyM_total row_bad,← List.not_all_eq_any_not]
 simp only [n_in,Option.bind_some]
 cases decide (1 ≤ (rows.length : Int) ∧ (rows.length : Int) ≤ 12) <;> cases decide (0 ≤ draw ∧ draw ≤ 100) <;> cases rows.all rowOk <;> rfl
theorem isBasin_eq {rows : List S126} {draw : Int} {noz : List S64} {weir spill : Int} (hl : rows.length ≤ 1000) : ca_isBasin.f rows draw noz weir spill = some (okB rows draw noz weir spill) := by
 unfold ca_isBasin.f okB nz_Check.f
 rw [anyM_total (noz_bad hl),← List.not_all_eq_any_not,isTable_eq]
 simp only [c_in,c_height,Option.bind_some]
 cases okT rows draw <;> cases decide (1 ≤ (noz.length : Int) ∧ (noz.length : Int) ≤ 6) <;> cases decide (0 ≤ weir ∧ weir ≤ 40) <;> cases decide (0 ≤ spill ∧ spill ≤ 100) <;> cases noz.all (nozOk rows.length) <;> rfl
theorem refTable_go (rows : List S126) (draw : Int) (hl : rows.length ≤ 1000) : ∀ (d k : Nat) (i : Int),0 ≤ i → i + d = rows.length → d < k →
 q3_Table.l0 k i rows draw = some ((rows.drop i.toNat).all rowOk && (decide (1 ≤ (rows.length : Int) ∧ (rows.length : Int) ≤ 12) && decide (0 ≤ draw ∧ draw ≤ 100)))
 | 0,k,i,h0,hi,hk => by
  obtain ⟨k,rfl⟩ := ksucc hk
  simp only [q3_Table.l0]
  rw [if_neg (by omega),List.drop_of_length_le (by omega)]
  simp only [r3_in,Option.bind_some,List.all_nil,Bool.true_and]
  cases decide (1 ≤ (rows.length : Int) ∧ (rows.length : Int) ≤ 12) <;> cases decide (0 ≤ draw ∧ draw ≤ 100) <;> rfl
 | d + 1,k,i,h0,hi,hk => by
  obtain ⟨k,rfl⟩ := ksucc (by omega : 0 < k)
  simp only [q3_Table.l0]
  rw [if_pos (by omega),if_pos h0,w64 (by omega),refTable_go rows draw hl d k (i + 1) (by omega) (by omega) (by omega),drop_at z126 rows i h0 (by omega),List.all_cons]
  show _ = some ((rowOk (rd_T126 rows i) && _) && _)
  unfold rowOk
  simp only [r3_in,Option.bind_some]
  cases decide (1 ≤ (rd_T126 rows i).f0 ∧ (rd_T126 rows i).f0 ≤ 60) <;> cases decide (1 ≤ (rd_T126 rows i).f1 ∧ (rd_T126 rows i).f1 ≤ 60) <;> cases decide (1 ≤ (rd_T126 rows i).f2 ∧ (rd_T126 rows i).f2 ≤ 1000) <;> rfl
theorem refTable_eq {rows : List S126} {draw : Int} {k : Nat} (hl : rows.length ≤ 1000) (hk : rows.length < k) : q3_Table.f k rows draw = some (okT rows draw) := by
 unfold q3_Table.f okT
 rw [refTable_go rows draw hl rows.length k 0 (by omega) (by omega) hk]
 show some (rows.all rowOk && _) = _
 cases decide (1 ≤ (rows.length : Int) ∧ (rows.length : Int) ≤ 12) <;> cases decide (0 ≤ draw ∧ draw ≤ 100) <;> cases rows.all rowOk <;> rfl
theorem refBasin_go (rows : List S126) (draw : Int) (noz : List S64) (weir spill : Int) (hl : rows.length ≤ 1000) (hn : noz.length ≤ 1000) : ∀ (d k : Nat) (i : Int),0 ≤ i → i + d = noz.length → rows.length + d + 1 < k →
 q4_Basin.l0 k i rows draw noz weir spill = some ((noz.drop i.toNat).all (nozOk rows.length) && (okT rows draw && (decide (1 ≤ (noz.length : Int) ∧ (noz.length : Int) ≤ 6) && (decide (0 ≤ weir ∧ weir ≤ 40) && decide (0 ≤ spill ∧ spill ≤ 100)))))
 | 0,k,i,h0,hi,hk => by
  obtain ⟨k,rfl⟩ := ksucc (by omega : 0 < k)
  simp only [q4_Basin.l0]
  rw [if_neg (by omega),List.drop_of_length_le (by omega),refTable_eq hl (by omega)]
  simp only [r4_in,r_height,Option.bind_some,List.all_nil,Bool.true_and]
  cases okT rows draw <;> cases decide (1 ≤ (noz.length : Int) ∧ (noz.length : Int) ≤ 6) <;> cases decide (0 ≤ weir ∧ weir ≤ 40) <;> cases decide (0 ≤ spill ∧ spill ≤ 100) <;> rfl
 | d + 1,k,i,h0,hi,hk => by
  obtain ⟨k,rfl⟩ := ksucc (by omega : 0 < k)
  simp only [q4_Basin.l0]
  rw [if_pos (by omega),if_pos h0,w64 (n := i + 1) (by omega),w64 (by omega),refBasin_go rows draw noz weir spill hl hn d k (i + 1) (by omega) (by omega) (by omega),drop_at z64 noz i h0 (by omega),List.all_cons]
  show _ = some ((nozOk rows.length (rd_T64 noz i) && _) && _)
  unfold nozOk
  simp only [r4_in,r_height,Option.bind_some]
  cases decide (0 ≤ (rd_T64 noz i).f0 ∧ (rd_T64 noz i).f0 ≤ (rows.length : Int) - 1) <;> cases decide (0 ≤ (rd_T64 noz i).f1 ∧ (rd_T64 noz i).f1 ≤ 40) <;> rfl
theorem refBasin_eq {rows : List S126} {draw : Int} {noz : List S64} {weir spill : Int} {k : Nat} (hl : rows.length ≤ 1000) (hn : noz.length ≤ 1000) (hk : rows.length + noz.length + 1 < k) :
 q4_Basin.f k rows draw noz weir spill = some (okB rows draw noz weir spill) := by
 unfold q4_Basin.f okB
 rw [refBasin_go rows draw noz weir spill hl hn noz.length k 0 (by omega) (by omega) hk]
 show some (noz.all (nozOk rows.length) && _) = _
 cases okT rows draw <;> cases decide (1 ≤ (noz.length : Int) ∧ (noz.length : Int) ≤ 6) <;> cases decide (0 ≤ weir ∧ weir ≤ 40) <;> cases decide (0 ≤ spill ∧ spill ≤ 100) <;> cases noz.all (nozOk rows.length) <;> rfl
structure OkB (rows : List S126) (draw : Int) (noz : List S64) (weir spill : Int) : Prop where
 r1 : 1 ≤ rows.length
 r2 : rows.length ≤ 12
 tab : okT rows draw = true
 rr : ∀ r ∈ rows,1 ≤ r.f2 ∧ r.f2 ≤ 1000
 n1 : 1 ≤ noz.length
 n2 : noz.length ≤ 6
 w0 : 0 ≤ weir
 w1 : weir ≤ 40
 s0 : 0 ≤ spill
 s1 : spill ≤ 100
 nn : ∀ z ∈ noz,0 ≤ z.f0 ∧ z.f0 < rows.length ∧ 0 ≤ z.f1 ∧ z.f1 ≤ 40
theorem okB_iff {rows : List S126} {draw : Int} {noz : List S64} {weir spill : Int} : okB rows draw noz weir spill = true ↔ OkB rows draw noz weir spill := by
 constructor
 · intro h
   unfold okB at h
   simp only [Bool.and_eq_true,decide_eq_true_eq,List.all_eq_true] at h
   obtain ⟨ht,h2,h3,h4,h5⟩ := h
   have ht' := ht
   unfold okT at ht'
   simp only [Bool.and_eq_true,decide_eq_true_eq,List.all_eq_true] at ht'
   obtain ⟨h0,h1,hr⟩ := ht'
   refine ⟨by omega,by omega,ht,fun r hm => ?_,by omega,by omega,by omega,by omega,by omega,by omega,fun z hm => ?_⟩
   · have := hr r hm;unfold rowOk at this;simp only [Bool.and_eq_true,decide_eq_true_eq] at this;omega
   · have := h5 z hm;unfold nozOk at this;simp only [Bool.and_eq_true,decide_eq_true_eq] at this;omega
 · intro h
   unfold okB
   simp only [Bool.and_eq_true,decide_eq_true_eq,List.all_eq_true]
   have a1 := h.n1;have a2 := h.n2
   refine ⟨h.tab,by omega,⟨h.w0,h.w1⟩,⟨h.s0,h.s1⟩,fun z hz => ?_⟩
   have := h.nn z hz
   unfold nozOk;simp only [Bool.and_eq_true,decide_eq_true_eq];omega
def gvz (rows : List S126) (z : S64) : Int := (rd_T126 rows z.f0).f2
def pour (rows : List S126) (h : Int) (z : S64) : Int := gvz rows z * mx 0 (mn 5 (h - z.f1)) / 5
def gat (rows : List S126) (noz : List S64) (h : Int) : List Int := noz.map (pour rows h)
theorem gvz_in {rows : List S126} {draw : Int} {noz : List S64} {weir spill : Int} (h : OkB rows draw noz weir spill) {z : S64} (hz : z ∈ noz) : 1 ≤ gvz rows z ∧ gvz rows z ≤ 1000 := by
 have a := h.nn z hz
 exact h.rr _ (getD_mem z126 a.1 a.2.1)
theorem mm_cases (x : Int) : mx 0 (mn 5 x) = 0 ∨ mx 0 (mn 5 x) = 1 ∨ mx 0 (mn 5 x) = 2 ∨ mx 0 (mn 5 x) = 3 ∨ mx 0 (mn 5 x) = 4 ∨ mx 0 (mn 5 x) = 5 := by
 unfold mx mn;split <;> split <;> omega
theorem mm_swap (x : Int) : mn 5 (mx 0 x) = mx 0 (mn 5 x) := by unfold mx mn;(repeat' split) <;> omega
theorem pour_prog {g m : Int} (h0 : 0 ≤ g) (h1 : g ≤ 1000) (hm : m = 0 ∨ m = 1 ∨ m = 2 ∨ m = 3 ∨ m = 4 ∨ m = 5) : wrap64 (Int.tdiv (wrap64 (g * m)) 5) = g * m / 5 := by
 have : 0 ≤ g * m ∧ g * m ≤ 5000 := by rcases hm with rfl | rfl | rfl | rfl | rfl | rfl <;> omega
 rw [w64 (n := g * m) (by omega),Int.tdiv_eq_ediv_of_nonneg this.1,w64 (by omega)]
theorem pour_in {rows : List S126} {draw : Int} {noz : List S64} {weir spill : Int} (h : OkB rows draw noz weir spill) {z : S64} (hz : z ∈ noz) (x : Int) : 0 ≤ pour rows x z ∧ pour rows x z ≤ 1000 := by
 have a := gvz_in h hz
 unfold pour
 rcases mm_cases (x - z.f1) with e | e | e | e | e | e <;> rw [e] <;> omega
theorem rd_map (f : S64 → Int) {noz : List S64} {i : Int} (h0 : 0 ≤ i) (h1 : i < noz.length) : rd (noz.map f) i = f (rd_T64 noz i) := by
 unfold rd rd_T64
 rw [List.getD_eq_getElem?_getD,List.getD_eq_getElem?_getD,List.getElem?_map,List.getElem?_eq_getElem (show i.toNat < noz.length by omega)]
 rfl
theorem take_snoc {α β : Type} (d : α) (f : α → β) (l : List α) {i : Int} (h0 : 0 ≤ i) (h1 : i < l.length) : (l.take (i + 1).toNat).map f = (l.take i.toNat).map f ++ [f (l.getD i.toNat d)] := by
 rw [show (i + 1).toNat = i.toNat + 1 by omega,List.take_succ_eq_append_getElem (show i.toNat < l.length by omega),List.map_append,List.getD_eq_getElem?_getD,List.getElem?_eq_getElem (show i.toNat < l.length by omega)]
 rfl
theorem sum_bd {l : List Int} {B : Int} (hB : 0 ≤ B) (h : ∀ x ∈ l,-B ≤ x ∧ x ≤ B) : -(B * l.length) ≤ l.sum ∧ l.sum ≤ B * l.length := by
 induction l with
 | nil => simp
 | cons x l ih =>
  have a := h x (by simp)
  have b := ih (fun y hy => h y (by simp [hy]))
  rw [List.sum_cons,List.length_cons,Int.natCast_add,Int.mul_add]
  omega
theorem sum_go (xs : List Int) (hl : xs.length ≤ 1000) (hx : ∀ x ∈ xs,-1000000 ≤ x ∧ x ≤ 1000000) : ∀ (d k : Nat) (i acc : Int),0 ≤ i → i + d = xs.length → d < k → -1000000 * i ≤ acc ∧ acc ≤ 1000000 * i →
 ca_sum.l0 k acc xs xs.length i = some (acc + (xs.drop i.toNat).sum)
 | 0,k,i,acc,h0,hi,hk,hb => by
  obtain ⟨k,rfl⟩ := ksucc hk
  simp only [ca_sum.l0]
  rw [if_neg (by omega),List.drop_of_length_le (by omega)]
  simp
 | d + 1,k,i,acc,h0,hi,hk,hb => by
  obtain ⟨k,rfl⟩ := ksucc (by omega : 0 < k)
  simp only [ca_sum.l0]
  have e := drop_at (0 : Int) xs i h0 (by omega)
  have m := hx _ (getD_mem (0 : Int) h0 (by omega : i < xs.length))
  rw [if_pos (by omega),if_pos h0,if_pos (by omega)]
  unfold rd
  rw [w64 (n := acc + _) (by omega),w64 (by omega),sum_go xs hl hx d k (i + 1) _ (by omega) (by omega) (by omega) (by omega),e,List.sum_cons,Int.add_assoc]
theorem csum {k : Nat} {l : List Int} (hl : l.length ≤ 1000) (hx : ∀ x ∈ l,-1000000 ≤ x ∧ x ≤ 1000000) (hk : l.length < k) : ca_sum.f k l = some l.sum := by
 unfold ca_sum.f
 rw [sum_go l hl hx l.length k 0 0 (by omega) (by omega) hk (by omega)]
 simp
theorem nsum {k : Nat} {l : List Int} (hl : l.length ≤ 1000) (hx : ∀ x ∈ l,-1000000 ≤ x ∧ x ≤ 1000000) (hk : l.length < k) : nz_sum.f k l = some l.sum := by
 have e : ∀ k x3 x6 x7 x8,nz_sum.l0 k x3 x6 x7 x8 = ca_sum.l0 k x3 x6 x7 x8 := by
  intro k
  induction k with
  | zero => intros;rfl
  | succ k ih => intro a b c d;simp only [nz_sum.l0,ca_sum.l0,ih]
 have h := csum hl hx hk
 unfold ca_sum.f at h
 unfold nz_sum.f
 rw [e,h]
theorem isRow_eq {rows : List S126} {draw n : Int} (hl : rows.length ≤ 1000) : nz_isRow.f rows draw n = some (decide (0 ≤ n ∧ n ≤ (rows.length : Int) - 1)) := by
 unfold nz_isRow.f
 rw [w64 (by omega),n_in]
 rfl
theorem isSet1_eq {rows : List S126} {draw n : Int} (h0 : 0 ≤ n) (h1 : n < rows.length) (hl : rows.length ≤ 1000) : nz_isSet.f rows draw [n] = some true := by
 unfold nz_isSet.f
 rw [if_pos (by simp)]
 have : sl_IsSorted_int_int.f ([n].length + 1) [n] = some true := by
  unfold sl_IsSorted_int_int.f
  simp only [sl_IsSorted_int_int.l0,List.length_cons,List.length_nil]
  rw [if_neg (by unfold wrap64;omega)]
 rw [this]
 simp only [Option.bind_some,anyM,isRow_eq hl]
 rw [decide_eq_true (show 0 ≤ n ∧ n ≤ (rows.length : Int) - 1 by omega)]
 rfl
theorem gives1_eq {rows : List S126} {draw n : Int} {k : Nat} (h0 : 0 ≤ n) (h1 : n < rows.length) (hl : rows.length ≤ 1000) (hg : 0 ≤ (rd_T126 rows n).f2 ∧ (rd_T126 rows n).f2 ≤ 1000000) (hk : 5 ≤ k) : nz_gives.f k rows draw [n] = some (rd_T126 rows n).f2 := by
 obtain ⟨m,rfl⟩ : ∃ m,k = m + 1 + 1 := ⟨k - 2,by omega⟩
 unfold nz_gives.f
 have e0 : rd [n] 0 = n := rfl
 have e1 : wrap64 (0 + 1) = 1 := by unfold wrap64;omega
 simp only [nz_gives.l0,List.length_cons,List.length_nil,e0,e1]
 rw [if_pos (by decide),if_pos (by decide),if_pos (by decide),if_pos h0,if_pos h1,if_pos (by decide),if_neg (by decide)]
 simp only [List.nil_append]
 rw [nsum (by simp) (by intro x hx;simp at hx;subst hx;omega) (by simp;omega)]
 simp
theorem Gives1_eq {rows : List S126} {draw : Int} {noz : List S64} {weir spill : Int} (h : OkB rows draw noz weir spill) {z : S64} (hz : z ∈ noz) {k : Nat} (hk : 5 ≤ k) : nz_Gives.f k rows draw [z.f0] = some (gvz rows z,0) := by
 have a := h.nn z hz
 have g := gvz_in h hz
 unfold nz_Gives.f
 rw [isTable_eq,h.tab,Option.bind_some,if_pos rfl,isSet1_eq a.1 a.2.1 (by have := h.r2;omega),Option.bind_some,if_pos rfl,gives1_eq a.1 a.2.1 (by have := h.r2;omega) (by unfold gvz at g;omega) hk]
 rfl
def grid (rows : List S126) (noz : List S64) : List (List Int) := (List.range 41).map fun (j : Nat) => gat rows noz (j : Int)
theorem grid_len (rows : List S126) (noz : List S64) : (grid rows noz).length = 41 := by simp [grid]
theorem grid_at (rows : List S126) (noz : List S64) {h : Int} (h0 : 0 ≤ h) (h1 : h ≤ 40) : rd_L3 (grid rows noz) h = gat rows noz h := by
 unfold rd_L3 grid
 rw [List.getD_eq_getElem?_getD,List.getElem?_map,List.getElem?_range (by omega)]
 simp only [Option.map_some,Option.getD_some]
 rw [show ((h.toNat : Nat) : Int) = h by omega]
section
variable {rows : List S126} {draw : Int} {noz : List S64} {weir spill : Int}
theorem z_mem {i : Int} (h0 : 0 ≤ i) (h1 : i < noz.length) : rd_T64 noz i ∈ noz := getD_mem z64 h0 h1
theorem fill_l2 (h : OkB rows draw noz weir spill) (hh : Int) (p0 : 0 ≤ hh) (p1 : hh ≤ 40) (G : List (List Int)) (hG : G.length ≤ 41) (r) (C : Nat) (hr : ∀ k,C ≤ k → ca_fill.l1 k (noz.map (gvz rows)) (hh + 1) rows draw noz weir spill rows draw noz weir spill (G ++ [gat rows noz hh]) = r) : ∀ (d k : Nat) (i : Int),0 ≤ i → i + d = noz.length → C + d < k →
 ca_fill.l2 k (noz.map (gvz rows)) hh ((noz.take i.toNat).map (pour rows hh)) hh noz noz.length i rows draw noz weir spill rows draw noz weir spill G = r
 | 0,k,i,h0,hi,hk => by
  obtain ⟨k,rfl⟩ := ksucc (by omega : 0 < k)
  simp only [ca_fill.l2]
  rw [if_neg (by omega),if_pos (by omega),w64 (by omega),List.take_of_length_le (by omega)]
  exact hr k (by omega)
 | d + 1,k,i,h0,hi,hk => by
  obtain ⟨k,rfl⟩ := ksucc (by omega : 0 < k)
  have n2 := h.n2
  have hz := z_mem h0 (by omega : i < noz.length)
  have a := h.nn _ hz
  have g := gvz_in h hz
  simp only [ca_fill.l2]
  rw [if_pos (by omega),if_pos h0,if_pos (by omega),if_pos (by rw [List.length_map];omega),if_pos (by rw [List.length_map,List.length_take];omega),rd_map _ h0 (by omega),w64 (n := hh - _) (by omega),pour_prog (by omega) (by omega) (mm_cases _),w64 (n := i + 1) (by omega)]
  have e := take_snoc z64 (pour rows hh) noz h0 (by omega)
  have f := fill_l2 h hh p0 p1 G hG r C hr d k (i + 1) (by omega) (by omega) (by omega)
  rw [e] at f
  exact f
theorem fill_l1 (h : OkB rows draw noz weir spill) : ∀ (d k j : Nat),j + d = 41 → d * (noz.length + 3) < k →
 ca_fill.l1 k (noz.map (gvz rows)) j rows draw noz weir spill rows draw noz weir spill ((List.range j).map fun (q : Nat) => gat rows noz (q : Int)) = some (draw,weir,spill,grid rows noz)
 | 0,k,j,hj,hk => by
  obtain ⟨k,rfl⟩ := ksucc (by omega : 0 < k)
  obtain rfl : j = 41 := by omega
  simp only [ca_fill.l1]
  rw [if_neg (by omega)]
  rfl
 | d + 1,k,j,hj,hk => by
  rw [Nat.succ_mul] at hk
  obtain ⟨k,rfl⟩ := ksucc (by omega : 0 < k)
  simp only [ca_fill.l1]
  rw [if_pos (by omega)]
  refine fill_l2 h j (by omega) (by omega) _ (by simp;omega) _ (d * (noz.length + 3) + 1) (fun k' hk' => ?_) noz.length k 0 (by omega) (by omega) (by omega)
  have f := fill_l1 h d k' (j + 1) (by omega) (by omega)
  rw [List.range_succ,List.map_append] at f
  exact f
theorem fill_l0 (h : OkB rows draw noz weir spill) : ∀ (d k : Nat) (i : Int),0 ≤ i → i + d = noz.length → 41 * (noz.length + 3) + d + 5 < k →
 ca_fill.l0 k ((noz.take i.toNat).map (gvz rows)) noz noz.length i rows draw noz weir spill rows draw noz weir spill = some (draw,weir,spill,grid rows noz)
 | 0,k,i,h0,hi,hk => by
  obtain ⟨k,rfl⟩ := ksucc (by omega : 0 < k)
  simp only [ca_fill.l0]
  rw [if_neg (by omega),List.take_of_length_le (by omega)]
  exact fill_l1 h 41 k 0 (by omega) (by omega)
 | d + 1,k,i,h0,hi,hk => by
  obtain ⟨k,rfl⟩ := ksucc (by omega : 0 < k)
  have n2 := h.n2
  simp only [ca_fill.l0]
  rw [if_pos (by omega),if_pos h0,if_pos (by omega),Gives1_eq h (z_mem h0 (by omega)) (by omega),Option.bind_some,if_pos (by rw [List.length_map,List.length_take];omega),w64 (by omega)]
  have e := take_snoc z64 (gvz rows) noz h0 (by omega)
  have f := fill_l0 h d k (i + 1) (by omega) (by omega) (by omega)
  rw [e] at f
  exact f
theorem fillK_eq (h : OkB rows draw noz weir spill) : ca_fill.f (fillK noz.length) rows draw noz weir spill = some (draw,weir,spill,grid rows noz) :=
 fill_l0 h noz.length _ 0 (by omega) (by omega) (by unfold fillK;omega)
def over (weir spill h : Int) : Int := spill * mx 0 (h - weir)
def tot (rows : List S126) (noz : List S64) (weir spill h : Int) : Int := (gat rows noz h).sum + over weir spill h
theorem over_in (h : OkB rows draw noz weir spill) {x : Int} (h0 : 0 ≤ x) (h1 : x ≤ 40) : 0 ≤ over weir spill x ∧ over weir spill x ≤ 4000 := by
 have a := h.s0;have b := h.s1;have c := h.w0
 unfold over
 have m : 0 ≤ mx 0 (x - weir) ∧ mx 0 (x - weir) ≤ 40 := by unfold mx;split <;> omega
 exact ⟨Int.mul_nonneg a m.1,by have := Int.mul_le_mul b m.2 m.1 (by omega : (0 : Int) ≤ 100);omega⟩
theorem gat_in (h : OkB rows draw noz weir spill) (x : Int) : ∀ y ∈ gat rows noz x,0 ≤ y ∧ y ≤ 1000 := by
 intro y hy
 unfold gat at hy
 obtain ⟨z,hz,rfl⟩ := List.mem_map.1 hy
 exact pour_in h hz x
theorem gat_len (x : Int) : (gat rows noz x).length = noz.length := by simp [gat]
theorem sum_nn {l : List Int} (h : ∀ x ∈ l,0 ≤ x) : 0 ≤ l.sum := by
 induction l with
 | nil => simp
 | cons x l ih => rw [List.sum_cons];have := h x (by simp);have := ih (fun y hy => h y (by simp [hy]));omega
theorem gsum_in (h : OkB rows draw noz weir spill) (x : Int) : 0 ≤ (gat rows noz x).sum ∧ (gat rows noz x).sum ≤ 6000 := by
 have a := gat_in h x
 have b := sum_bd (l := gat rows noz x) (B := 1000) (by omega) (fun y hy => by have := a y hy;omega)
 rw [gat_len] at b
 have := h.n2
 exact ⟨sum_nn (fun y hy => (a y hy).1),by omega⟩
theorem tot_in (h : OkB rows draw noz weir spill) {x : Int} (h0 : 0 ≤ x) (h1 : x ≤ 40) : 0 ≤ tot rows noz weir spill x ∧ tot rows noz weir spill x ≤ 10000 := by
 have a := gsum_in h x
 have b := over_in h h0 h1
 unfold tot
 omega
theorem weir_eq (h : OkB rows draw noz weir spill) {x : Int} (h0 : 0 ≤ x) (h1 : x ≤ 40) : gf_weir.f rows draw noz weir spill (grid rows noz) x = some (over weir spill x) := by
 have a := over_in h h0 h1
 have c := h.w0;have c1 := h.w1
 unfold gf_weir.f
 rw [w64 (n := x - weir) (by omega),w64 (n := spill * _) (by unfold over at a;omega)]
 rfl
theorem out_eq (h : OkB rows draw noz weir spill) {x : Int} (h0 : 0 ≤ x) (h1 : x ≤ 40) : gf_out.f rows draw noz weir spill (grid rows noz) x = some (tot rows noz weir spill x) := by
 have a := gat_in h x
 have b := over_in h h0 h1
 have c := gsum_in h x
 unfold gf_out.f gf_nozzles.f
 rw [if_pos h0,if_pos (by rw [grid_len];omega),grid_at _ _ h0 h1,csum (by rw [gat_len];have := h.n2;omega) (fun y hy => by have := a y hy;omega) (by omega),weir_eq h h0 h1]
 simp only [Option.bind_some]
 rw [w64 (n := (gat rows noz x).sum) (by omega),w64 (by omega)]
 rfl
theorem mm_mono {a b : Int} (h : a ≤ b) : mx 0 (mn 5 a) ≤ mx 0 (mn 5 b) := by unfold mx mn;(repeat' split) <;> omega
theorem pour_mono (h : OkB rows draw noz weir spill) {z : S64} (hz : z ∈ noz) {a b : Int} (hab : a ≤ b) : pour rows a z ≤ pour rows b z := by
 have g := gvz_in h hz
 unfold pour
 exact Int.ediv_le_ediv (by omega) (Int.mul_le_mul_of_nonneg_left (mm_mono (by omega)) (by omega))
theorem sum_mono_map {f g : S64 → Int} : ∀ {l : List S64},(∀ z ∈ l,f z ≤ g z) → (l.map f).sum ≤ (l.map g).sum
 | [],_ => by simp
 | z :: l,h => by
  simp only [List.map_cons,List.sum_cons]
  have := h z (by simp)
  have := sum_mono_map (l := l) (fun y hy => h y (by simp [hy]))
  omega
theorem over_mono (h : OkB rows draw noz weir spill) {a b : Int} (hab : a ≤ b) : over weir spill a ≤ over weir spill b := by
 unfold over
 exact Int.mul_le_mul_of_nonneg_left (by unfold mx;(repeat' split) <;> omega) h.s0
theorem tot_mono (h : OkB rows draw noz weir spill) {a b : Int} (hab : a ≤ b) : tot rows noz weir spill a ≤ tot rows noz weir spill b := by
 have := over_mono h hab
 have := sum_mono_map (f := pour rows a) (g := pour rows b) (l := noz) (fun z hz => pour_mono h hz hab)
 unfold tot gat
 omega
theorem tot_zero (h : OkB rows draw noz weir spill) : tot rows noz weir spill 0 = 0 := by
 have e : gat rows noz 0 = noz.map (fun _ => 0) := by
  unfold gat
  refine List.map_congr_left fun z hz => ?_
  have a := h.nn z hz
  unfold pour
  rw [show mx 0 (mn 5 (0 - z.f1)) = 0 by unfold mx mn;(repeat' split) <;> omega]
  simp
 have s : ∀ l : List S64,(l.map (fun _ => (0 : Int))).sum = 0 := by
  intro l
  induction l with
  | nil => rfl
  | cons z l ih => simp only [List.map_cons,List.sum_cons,ih];rfl
 have o : over weir spill 0 = 0 := by
  have := h.w0
  unfold over
  rw [show mx 0 (0 - weir) = 0 by unfold mx;split <;> omega]
  simp
 unfold tot
 rw [e,s,o]
 rfl
def Lev (rows : List S126) (noz : List S64) (weir spill cups h : Int) : Prop := 0 ≤ h ∧ h ≤ 40 ∧ tot rows noz weir spill h ≤ cups ∧ (h < 40 → cups < tot rows noz weir spill (h + 1))
theorem Lev.uniq (h : OkB rows draw noz weir spill) {cups a b : Int} (ha : Lev rows noz weir spill cups a) (hb : Lev rows noz weir spill cups b) : a = b := by
 obtain ⟨a0,a1,a2,a3⟩ := ha
 obtain ⟨b0,b1,b2,b3⟩ := hb
 rcases Int.lt_trichotomy a b with l | l | l
 · have := a3 (by omega)
   have := tot_mono h (show a + 1 ≤ b by omega)
   omega
 · exact l
 · have := b3 (by omega)
   have := tot_mono h (show b + 1 ≤ a by omega)
   omega
theorem levelGo_eq (h : OkB rows draw noz weir spill) {cups : Int} : ∀ (n : Nat) (i : Int),0 ≤ i → i + n = 41 → (0 < i → tot rows noz weir spill (i - 1) ≤ cups) → 0 ≤ cups →
 ∃ r,levelGo rows draw noz weir spill (grid rows noz) cups n i (mx 0 (i - 1)) = some r ∧ Lev rows noz weir spill cups r
 | 0,i,h0,hi,hp,hc => by
  obtain rfl : i = 41 := by omega
  exact ⟨_,rfl,by unfold mx;split <;> omega,by unfold mx;split <;> omega,hp (by omega),fun hh => absurd hh (by unfold mx;split <;> omega)⟩
 | n + 1,i,h0,hi,hp,hc => by
  simp only [levelGo]
  rw [out_eq h h0 (by omega),Option.bind_some]
  by_cases g : tot rows noz weir spill i > cups
  case neg =>
   rw [if_neg g]
   obtain ⟨r,hr,hl⟩ := levelGo_eq h n (i + 1) (by omega) (by omega) (fun _ => by rw [show i + 1 - 1 = i by omega];omega) hc
   rw [show mx 0 (i + 1 - 1) = i by unfold mx;split <;> omega] at hr
   exact ⟨r,hr,hl⟩
  rw [if_pos g]
  have i0 : 0 < i := by
   rcases Int.lt_or_eq_of_le h0 with l | l
   · exact l
   · rw [← l,tot_zero h] at g;omega
  have e : mx 0 (i - 1) = i - 1 := by unfold mx;split <;> omega
  rw [e]
  exact ⟨_,rfl,by omega,by omega,hp i0,fun _ => by rw [show i - 1 + 1 = i by omega];exact g⟩
theorem level_eq (h : OkB rows draw noz weir spill) {cups : Int} (hc : 0 ≤ cups) : ∃ r,gf_level.f rows draw noz weir spill (grid rows noz) cups = some r ∧ Lev rows noz weir spill cups r := by
 unfold gf_level.f
 rw [grid_len]
 have := levelGo_eq h (cups := cups) 41 0 (by omega) (by omega) (fun h => by omega) hc
 simpa [mx] using this
end
section
attribute [local go_sem] max2_int min2_int max_two min_two
set_option linter.unusedSimpArgs false
set_option linter.unusedSimpArgs false
end
end Go.Proofs.YticlelgmmonloaaGreatDoor.C
